import PyProof.Rows.All
import Wide.All
import OpenK.AllK
import Wide.FinOn
import HandS.ForMost
import KE.KDictKeyed
import KE.KDictWalk
import HandS.Wide
import HandS.TupAny
import HandS.TupMul
import HandS.Style
import HandS.IsInst
import KE.DataCmp
import KE.DataEq
import KE.DataIsa
import KE.SortData
import KE.DataAny
import PyProof.Rows.IntBool
import HandS.Zip
import KE.GoesMore
import KE.GoesEnum
import HandS.Defaults
import HandS.Words
import HandS.Small
import HandS.Deep
import HandS.DictComp
import PyProof.MinMaxWalk
import PyProof.FString5
import KE.GoesZip
import KE.KDictZip
import KE.KItemsList
import HandS.ListItems
import PySem.Challenge.RW_shrinkhall_k05_whole_more_room_lets_more
import KE.KStateDown
import HandS.Ends
import HandS.More
import HandS.Head0
import HandS.Head1
import HandS.Head2
import HandS.HeadEnd
import HandS.HeadHook1
import HandS.HeadHook2
set_option Elab.async false
set_option linter.all false
set_option maxRecDepth 100000
set_option autoImplicit false
/-! own layer 1: data, frozen and owned cells, states, readings -/
namespace Sh
open PySem PySem.Spec PyProof.Rows L2

abbrev Da := PyData

/-! ### results -/
structure Ex where
  cls : Str
  most : Option Int := none
inductive Rs (α : Type) where
  | ok (a : α)
  | ex (e : Ex)
  | bad
def Rs.bind {α β : Type} (r : Rs α) (f : α → Rs β) : Rs β := match r with
  | .ok a => f a
  | .ex e => .ex e
  | .bad => .bad
instance : Monad Rs where
  pure := Rs.ok
  bind := Rs.bind
theorem bind_ok {α β : Type} (a : α) (f : α → Rs β) : Rs.bind (.ok a) f = f a := rfl
theorem bind_ex {α β : Type} (e : Ex) (f : α → Rs β) : Rs.bind (.ex e) f = .ex e := rfl
theorem bind_bad {α β : Type} (f : α → Rs β) : Rs.bind (.bad : Rs α) f = .bad := rfl

/-! ### what stands in a slot -/
inductive Sl where
  | no
  | fz (d : Da)
  | ow (d : Da)
def Sl.dat : Sl → Option Da
  | .no => none
  | .fz d => some d
  | .ow d => some d
abbrev En := List Sl

/-! ### data in a frozen heap -/
/-- the dict at a has just these entries -/
def DRaw (a : Addr) (es : List DictEntry) (h : Heap) : Prop := ∃ o n, h.get? a = some o ∧ o.ExactDict ∧ o.data = .dict es.toArray n
/-- a key's hash: texts, ints, tuples of such -/
def dKey : Da → NestedKey
  | .int i => .num i
  | .str x => .text x
  | .tuple ds => .tup (dKeys ds)
  | .none => .none
  | .bool b => .num (if b then 1 else 0)
  | .list _ => .none
  | .dict _ => .none
where dKeys : List Da → List NestedKey
  | [] => []
  | d :: ds => dKey d :: dKeys ds
mutual
inductive Dn (w : World) (F : Hp) : V → Da → Prop
  | non : Dn w F .non .none
  | bl (b : Bool) : Dn w F (.bl b) (.bool b)
  | int (i : Int) : Dn w F (.int i) (.int i)
  | str (x : Str) : Dn w F (.str x) (.str x)
  | lst {a : Addr} {xs : List V} {ds : List Da} : Rd F a (.lst xs) → DnAll w F xs ds → Dn w F (.ref a) (.list ds)
  | tup {a : Addr} {xs : List V} {ds : List Da} : Rd F a (.tup xs) → DnAll w F xs ds → Dn w F (.ref a) (.tuple ds)
  | dic {a : Addr} {es : List (Key × V)} {kvs : List (Da × Da)} : Rd F a (.dK es) → DnEnt w F es kvs → Dn w F (.ref a) (.dict kvs)
inductive DnAll (w : World) (F : Hp) : List V → List Da → Prop
  | nil : DnAll w F [] []
  | cons {v : V} {vs : List V} {d : Da} {ds : List Da} : Dn w F v d → DnAll w F vs ds → DnAll w F (v :: vs) (d :: ds)
inductive DnEnt (w : World) (F : Hp) : List (Key × V) → List (Da × Da) → Prop
  | nil : DnEnt w F [] []
  | cons {x : Str} {v : V} {dv : Da} {es : List (Key × V)} {kvs : List (Da × Da)} : Dn w F v dv → DnEnt w F es kvs → DnEnt w F ((.inr x, v) :: es) ((.str x, dv) :: kvs)
end
theorem Rd.mono {F F' : Hp} (s : Same F F') {a : Addr} {u : HO} (h : Rd F a u) : Rd F' a u := by
  rcases h with h | ⟨o, h⟩
  · exact .inl (s _ _ h)
  · exact .inr ⟨o, s _ _ h⟩
mutual
theorem Dn.mono {w : World} {F F' : Hp} (s : Same F F') : ∀ {d : Da} {v : V}, Dn w F v d → Dn w F' v d
  | .none, _, h => by cases h; exact .non
  | .bool b, _, h => by cases h; exact .bl b
  | .int i, _, h => by cases h; exact .int i
  | .str x, _, h => by cases h; exact .str x
  | .list ds, _, h => by
    cases h with
    | lst r t => exact .lst (Rd.mono s r) (DnAll.mono s t)
  | .tuple ds, _, h => by
    cases h with
    | tup r t => exact .tup (Rd.mono s r) (DnAll.mono s t)
  | .dict kvs, _, h => by
    cases h with
    | dic r t => exact .dic (Rd.mono s r) (DnEnt.mono s t)
theorem DnAll.mono {w : World} {F F' : Hp} (s : Same F F') : ∀ {ds : List Da} {vs : List V}, DnAll w F vs ds → DnAll w F' vs ds
  | [], _, h => by cases h; exact .nil
  | d :: ds, _, h => by
    cases h with
    | cons a b => exact .cons (Dn.mono s a) (DnAll.mono s b)
theorem DnEnt.mono {w : World} {F F' : Hp} (s : Same F F') : ∀ {kvs : List (Da × Da)} {es : List (Key × V)}, DnEnt w F es kvs → DnEnt w F' es kvs
  | [], _, h => by cases h; exact .nil
  | (dk, dv) :: kvs, _, h => by
    cases h with
    | cons a b => exact .cons (Dn.mono s a) (DnEnt.mono s b)
end
theorem DnAll.length {w : World} {F : Hp} : ∀ {vs : List V} {ds : List Da}, DnAll w F vs ds → vs.length = ds.length
  | _, _, .nil => rfl
  | _, _, .cons _ t => by simp [t.length]
theorem DnAll.get {w : World} {F : Hp} : ∀ {vs : List V} {ds : List Da} {i : Nat} {d : Da}, DnAll w F vs ds → ds[i]? = some d → ∃ v, vs[i]? = some v ∧ Dn w F v d
  | _, _, _, _, .nil, e => by simp at e
  | _, _, 0, _, .cons h _, e => by simp at e; subst e; exact ⟨_, rfl, h⟩
  | _, _, i + 1, d, .cons _ t, e => by
    obtain ⟨v, h1, h2⟩ := DnAll.get (i := i) (d := d) t (by simpa using e)
    exact ⟨v, by simpa using h1, h2⟩
theorem DnAll.getV {w : World} {F : Hp} : ∀ {vs : List V} {ds : List Da} {i : Nat} {v : V}, DnAll w F vs ds → vs[i]? = some v → ∃ d, ds[i]? = some d ∧ Dn w F v d
  | _, _, _, _, .nil, e => by simp at e
  | _, _, 0, _, .cons h _, e => by simp at e; subst e; exact ⟨_, rfl, h⟩
  | _, _, i + 1, d, .cons _ t, e => by
    obtain ⟨v, h1, h2⟩ := DnAll.getV (i := i) (v := d) t (by simpa using e)
    exact ⟨v, by simpa using h1, h2⟩
theorem DnAll.append {w : World} {F : Hp} : ∀ {vs us : List V} {ds es : List Da}, DnAll w F vs ds → DnAll w F us es → DnAll w F (vs ++ us) (ds ++ es)
  | _, _, _, _, .nil, s => s
  | _, _, _, _, .cons r t, s => .cons r (t.append s)
theorem DnAll.take {w : World} {F : Hp} : ∀ {vs : List V} {ds : List Da} (n : Nat), DnAll w F vs ds → DnAll w F (vs.take n) (ds.take n)
  | _, _, 0, _ => .nil
  | _, _, _ + 1, .nil => .nil
  | _, _, n + 1, .cons r t => .cons r (t.take n)
theorem DnAll.drop {w : World} {F : Hp} : ∀ {vs : List V} {ds : List Da} (n : Nat), DnAll w F vs ds → DnAll w F (vs.drop n) (ds.drop n)
  | _, _, 0, r => r
  | _, _, _ + 1, .nil => .nil
  | _, _, n + 1, .cons _ t => t.drop n
theorem DnAll.set {w : World} {F : Hp} {v : V} {d : Da} (r : Dn w F v d) : ∀ {vs : List V} {ds : List Da} (i : Nat), DnAll w F vs ds → DnAll w F (vs.set i v) (ds.set i d)
  | _, _, _, .nil => .nil
  | _, _, 0, .cons _ t => .cons r t
  | _, _, i + 1, .cons q t => .cons q (DnAll.set r i t)
theorem DnAll.reverse {w : World} {F : Hp} : ∀ {vs : List V} {ds : List Da}, DnAll w F vs ds → DnAll w F vs.reverse ds.reverse
  | _, _, .nil => .nil
  | _, _, .cons r t => by
    rw [List.reverse_cons, List.reverse_cons]
    exact t.reverse.append (.cons r .nil)

/-! ### owned cells -/
def Ow (w : World) (F H : Hp) (a : Addr) (d : Da) : Prop :=
  F a = none ∧ ((∃ xs ds, d = .list ds ∧ H a = some (.lst xs) ∧ DnAll w F xs ds) ∨ ∃ es kvs, d = .dict kvs ∧ H a = some (.dK es) ∧ DnEnt w F es kvs)
theorem Ow.has {w : World} {F H : Hp} {a : Addr} {d : Da} (h : Ow w F H a d) : ∃ o, H a = some o := by
  obtain ⟨_, ⟨xs, ds, _, e, _⟩ | ⟨es, kvs, _, e, _⟩⟩ := h
  · exact ⟨_, e⟩
  · exact ⟨_, e⟩
theorem Ow.move {w : World} {F H F' H' : Hp} {a : Addr} {d : Da} (h : Ow w F H a d) (s : Same F F') (n : F' a = none) (k : ∀ o, H a = some o → H' a = some o) : Ow w F' H' a d := by
  obtain ⟨_, ⟨xs, ds, e, e1, e2⟩ | ⟨es, kvs, e, e1, e2⟩⟩ := h
  · exact ⟨n, .inl ⟨xs, ds, e, k _ e1, e2.mono s⟩⟩
  · exact ⟨n, .inr ⟨es, kvs, e, k _ e1, e2.mono s⟩⟩
/-- the cell frozen -/
theorem Ow.dn {w : World} {F F' H : Hp} {a : Addr} {d : Da} (h : Ow w F H a d) (s : Same F F') (k : ∀ o, H a = some o → F' a = some o) : Dn w F' (.ref a) d := by
  obtain ⟨_, ⟨xs, ds, rfl, e1, e2⟩ | ⟨es, kvs, rfl, e1, e2⟩⟩ := h
  · exact .lst (.inl (k _ e1)) (e2.mono s)
  · exact .dic (.inl (k _ e1)) (e2.mono s)
/-- readable now -/
def Dn1 (w : World) (F H : Hp) (x : V) (d : Da) : Prop := Dn w F x d ∨ ∃ a, x = .ref a ∧ Ow w F H a d
theorem Dn1.now {w : World} {F H : Hp} {x : V} {d : Da} (s : Same F H) (h : Dn1 w F H x d) : Dn w H x d := by
  rcases h with h | ⟨a, rfl, h⟩
  · exact h.mono s
  · exact h.dn s fun _ e => e
inductive Dn1s (w : World) (F H : Hp) : List V → List Da → Prop
  | nil : Dn1s w F H [] []
  | cons {v : V} {vs : List V} {d : Da} {ds : List Da} : Dn1 w F H v d → Dn1s w F H vs ds → Dn1s w F H (v :: vs) (d :: ds)
theorem Dn1s.one {w : World} {F H : Hp} {xs : List V} {d : Da} (h : Dn1s w F H xs [d]) : ∃ x, xs = [x] ∧ Dn1 w F H x d := by
  cases h with
  | cons a b => cases b; exact ⟨_, rfl, a⟩
theorem Dn1s.two {w : World} {F H : Hp} {xs : List V} {d e : Da} (h : Dn1s w F H xs [d, e]) : ∃ x y, xs = [x, y] ∧ Dn1 w F H x d ∧ Dn1 w F H y e := by
  cases h with
  | cons a b => cases b with | cons b c => cases c; exact ⟨_, _, rfl, a, b⟩

/-! ### growth -/
structure Gr (F H F' H' : Hp) : Prop where
  ff : Same F F'
  hh : Same H H'
  fh : Same F' H'
  nw : ∀ x o, F' x = some o → F x = some o ∨ H x = none
theorem Gr.refl {F H : Hp} (s : Same F H) : Gr F H F H := ⟨Same.refl _, Same.refl _, s, fun _ _ h => .inl h⟩
theorem Gr.trans {F H F1 H1 F2 H2 : Hp} (a : Gr F H F1 H1) (b : Gr F1 H1 F2 H2) : Gr F H F2 H2 :=
  ⟨a.ff.trans b.ff, a.hh.trans b.hh, b.fh, fun x o h => by
    rcases b.nw x o h with h | h
    · exact a.nw x o h
    · exact .inr (a.hh.free h)⟩
theorem Gr.keep {F H F' H' : Hp} (g : Gr F H F' H') {a : Addr} (h : F a = none) {o : HO} (e : H a = some o) : F' a = none := by
  cases q : F' a with
  | none => rfl
  | some u =>
    rcases g.nw a u q with z | z
    · rw [h] at z; cases z
    · rw [e] at z; cases z
theorem same_upd {H : Hp} {p : Addr} {o : HO} (h : H p = none) : Same H (upd H p o) := fun b x e => by
  rw [upd_ne (ne_of_none e h)]; exact e
/-- a new cell, left outside F -/
theorem Gr.new {F H : Hp} {p : Addr} {o : HO} (s : Same F H) (h : H p = none) : Gr F H F (upd H p o) :=
  ⟨Same.refl _, same_upd h, s.trans (same_upd h), fun _ _ e => .inl e⟩
/-- a new cell, frozen -/
theorem Gr.newF {F H : Hp} {p : Addr} {o : HO} (s : Same F H) (h : H p = none) : Gr F H (upd F p o) (upd H p o) := by
  have hF : F p = none := s.free h
  refine ⟨same_upd hF, same_upd h, fun b x e => ?_, fun x o' e => ?_⟩
  · by_cases hb : b = p
    · subst hb; rw [upd_same] at e ⊢; exact e
    · rw [upd_ne hb] at e ⊢; exact s _ _ e
  · by_cases hb : x = p
    · subst hb; exact .inr h
    · rw [upd_ne hb] at e; exact .inl e
/-- a result laid anew -/
def Nw (w : World) (F' H H' : Hp) (x : V) : Sl → Prop
  | .no => False
  | .fz d => Dn w F' x d
  | .ow d => ∃ a, x = .ref a ∧ H a = none ∧ Ow w F' H' a d

/-! ### states -/
def SlR (w : World) (F H : Hp) (ov : Option V) : Sl → Prop
  | .no => True
  | .fz d => ∃ v, ov = some v ∧ Dn w F v d
  | .ow d => ∃ a, ov = some (.ref a) ∧ Ow w F H a d
structure StR (w : World) (F Fo H : Hp) (σ : L2.St) (en : En) : Prop where
  fh : Same F H
  oh : Same Fo H
  dj : ∀ x o, Fo x = some o → F x = none
  len : en.length = σ.length
  sl : ∀ (i : Nat) (s : Sl) (ov : Option V), en[i]? = some s → σ[i]? = some ov → SlR w F H ov s
  ap : ∀ (i j : Nat) (a : Addr) (di dj : Da), i ≠ j → en[i]? = some (.ow di) → en[j]? = some (.ow dj) → σ[i]? = some (some (.ref a)) → σ[j]? = some (some (.ref a)) → False
  fo : ∀ (i : Nat) (d : Da) (a : Addr), en[i]? = some (.ow d) → σ[i]? = some (some (.ref a)) → Fo a = none
section
variable {w : World} {F Fo H F' H' : Hp} {σ : L2.St} {en : En}
theorem StR.at (R : StR w F Fo H σ en) {i : Nat} {s : Sl} (h : en[i]? = some s) : ∃ ov, σ[i]? = some ov ∧ SlR w F H ov s := by
  have hi : i < σ.length := by
    rw [← R.len]
    exact (List.getElem?_eq_some_iff.mp h).1
  exact ⟨σ[i], by simp [hi], R.sl i s _ h (by simp [hi])⟩
theorem StR.fz (R : StR w F Fo H σ en) {i : Nat} {d : Da} (h : en[i]? = some (.fz d)) : ∃ v, σ[i]? = some (some v) ∧ Dn w F v d := by
  obtain ⟨ov, e, v, rfl, q⟩ := R.at h
  exact ⟨v, e, q⟩
theorem StR.ow (R : StR w F Fo H σ en) {i : Nat} {d : Da} (h : en[i]? = some (.ow d)) : ∃ a, σ[i]? = some (some (.ref a)) ∧ Ow w F H a d := by
  obtain ⟨ov, e, v, rfl, q⟩ := R.at h
  exact ⟨v, e, q⟩
theorem StR.dat (R : StR w F Fo H σ en) {i : Nat} {s : Sl} {d : Da} (h : en[i]? = some s) (hd : s.dat = some d) : ∃ v, σ[i]? = some (some v) ∧ Dn1 w F H v d := by
  cases s with
  | no => cases hd
  | fz d' =>
    cases hd
    obtain ⟨v, e, q⟩ := R.fz h
    exact ⟨v, e, .inl q⟩
  | ow d' =>
    cases hd
    obtain ⟨a, e, q⟩ := R.ow h
    exact ⟨_, e, .inr ⟨a, rfl, q⟩⟩
/-- the state stands while the heap grows -/
theorem StR.grow (R : StR w F Fo H σ en) (g : Gr F H F' H') : StR w F' Fo H' σ en where
  fh := g.fh
  oh := R.oh.trans g.hh
  dj := fun x o e => g.keep (R.dj x o e) (R.oh x o e)
  len := R.len
  sl := fun i s ov h1 h2 => by
    have q := R.sl i s ov h1 h2
    cases s with
    | no => trivial
    | fz d =>
      obtain ⟨v, e, q⟩ := q
      exact ⟨v, e, q.mono g.ff⟩
    | ow d =>
      obtain ⟨a, e, q⟩ := q
      obtain ⟨o, ho⟩ := q.has
      exact ⟨a, e, q.move g.ff (g.keep q.1 ho) fun o => g.hh a o⟩
  ap := R.ap
  fo := R.fo
/-- a value is held on top -/
theorem StR.push (R : StR w F Fo H σ en) (g : Gr F H F' H') {x : V} {s : Sl} (n : Nw w F' H H' x s) : StR w F' Fo H' (some x :: σ) (s :: en) := by
  have R' := R.grow g
  have hx : ∀ d a, s = .ow d → x = .ref a → H a = none := fun d a e1 e2 => by
    subst e1
    obtain ⟨b, e, h, _⟩ := n
    rw [e2] at e; cases e; exact h
  refine ⟨R'.fh, R'.oh, R'.dj, by simp [R.len], fun i t ov h1 h2 => ?_, fun i j a di dj hne h1 h2 h3 h4 => ?_, fun i d a h1 h2 => ?_⟩
  · cases i with
    | zero =>
      simp at h1 h2; subst h1; subst h2
      cases s with
      | no => trivial
      | fz d => exact ⟨x, rfl, n⟩
      | ow d =>
        obtain ⟨a, rfl, _, q⟩ := n
        exact ⟨a, rfl, q⟩
    | succ i => exact R'.sl i t ov (by simpa using h1) (by simpa using h2)
  · cases i with
    | zero =>
      cases j with
      | zero => exact hne rfl
      | succ j =>
        simp at h1 h2 h3 h4
        obtain ⟨b, e, q⟩ := R.ow h2
        rw [h4] at e; cases e
        obtain ⟨o, ho⟩ := q.has
        rw [hx _ _ h1 h3] at ho; cases ho
    | succ i =>
      cases j with
      | zero =>
        simp at h1 h2 h3 h4
        obtain ⟨b, e, q⟩ := R.ow h1
        rw [h3] at e; cases e
        obtain ⟨o, ho⟩ := q.has
        rw [hx _ _ h2 h4] at ho; cases ho
      | succ j => exact R.ap i j a di dj (fun e => hne (by rw [e])) (by simpa using h1) (by simpa using h2) (by simpa using h3) (by simpa using h4)
  · cases i with
    | zero =>
      simp at h1 h2
      exact R.oh.free (hx _ _ h1 h2)
    | succ i => exact R.fo i d a (by simpa using h1) (by simpa using h2)
theorem StR.pop {x : Option V} {s : Sl} (R : StR w F Fo H (x :: σ) (s :: en)) : StR w F Fo H σ en :=
  ⟨R.fh, R.oh, R.dj, by simpa using R.len, fun i t ov h1 h2 => R.sl (i + 1) t ov (by simpa using h1) (by simpa using h2),
    fun i j a di dj hne h1 h2 h3 h4 => R.ap (i + 1) (j + 1) a di dj (fun e => hne (by omega)) (by simpa using h1) (by simpa using h2) (by simpa using h3) (by simpa using h4),
    fun i d a h1 h2 => R.fo (i + 1) d a (by simpa using h1) (by simpa using h2)⟩
theorem StR.top {x : V} {s : Sl} (R : StR w F Fo H (some x :: σ) (s :: en)) {d : Da} (hd : s.dat = some d) : Dn1 w F H x d := by
  obtain ⟨v, e, q⟩ := R.dat (i := 0) (by rfl) hd
  simp at e; subst e; exact q
/-- the value on top goes into a slot -/
theorem StR.set {x : Option V} {s : Sl} (R : StR w F Fo H (x :: σ) (s :: en)) (i : Nat) : StR w F Fo H (σ.set i x) (en.set i s) := by
  have hl : en.length = σ.length := by simpa using R.len
  have get : ∀ (j : Nat) (t : Sl) (ov : Option V), (en.set i s)[j]? = some t → (σ.set i x)[j]? = some ov → ∃ k, (s :: en)[k]? = some t ∧ (x :: σ)[k]? = some ov ∧ ((k = 0 ∧ j = i) ∨ (k = j + 1 ∧ j ≠ i)) := fun j t ov h1 h2 => by
    by_cases hj : i = j
    · subst hj
      rw [List.getElem?_set_self'] at h1 h2
      cases e1 : en[i]? with
      | none => rw [e1] at h1; cases h1
      | some t' =>
        cases e2 : σ[i]? with
        | none => rw [e2] at h2; cases h2
        | some o' =>
          rw [e1] at h1; rw [e2] at h2
          cases h1; cases h2
          exact ⟨0, rfl, rfl, .inl ⟨rfl, rfl⟩⟩
    · rw [List.getElem?_set_ne hj] at h1 h2
      exact ⟨j + 1, by simpa using h1, by simpa using h2, .inr ⟨rfl, fun e => hj e.symm⟩⟩
  have gets : ∀ (j : Nat) (t : Sl), (en.set i s)[j]? = some t → ∃ ov, (σ.set i x)[j]? = some ov := fun j t h => by
    have hj : j < (σ.set i x).length := by
      have := (List.getElem?_eq_some_iff.mp h).1
      simp at this ⊢; omega
    exact ⟨_, List.getElem?_eq_getElem hj⟩
  refine ⟨R.fh, R.oh, R.dj, by simp [hl], fun j t ov h1 h2 => ?_, fun j k a dj dk hne h1 h2 h3 h4 => ?_, fun j d a h1 h2 => ?_⟩
  · obtain ⟨k, e1, e2, _⟩ := get j t ov h1 h2
    exact R.sl k t ov e1 e2
  · obtain ⟨j', e1, e2, c1⟩ := get j _ _ h1 h3
    obtain ⟨k', e3, e4, c2⟩ := get k _ _ h2 h4
    exact R.ap j' k' a dj dk (fun z => by omega) e1 e3 e2 e4
  · obtain ⟨k, e1, e2, _⟩ := get j _ _ h1 h2
    exact R.fo k d a e1 e2
/-- a slot forgotten -/
theorem StR.drop (R : StR w F Fo H σ en) (i : Nat) (ov : Option V) : StR w F Fo H (σ.set i ov) (en.set i .no) := by
  refine StR.set (x := ov) (s := .no) ⟨R.fh, R.oh, R.dj, by simp [R.len], fun j t v h1 h2 => ?_, fun j k a dj dk hne h1 h2 h3 h4 => ?_, fun j d a h1 h2 => ?_⟩ i
  · cases j with
    | zero => simp at h1; subst h1; trivial
    | succ j => exact R.sl j t v (by simpa using h1) (by simpa using h2)
  · cases j with
    | zero => simp at h1
    | succ j =>
      cases k with
      | zero => simp at h2
      | succ k => exact R.ap j k a dj dk (fun e => hne (by rw [e])) (by simpa using h1) (by simpa using h2) (by simpa using h3) (by simpa using h4)
  · cases j with
    | zero => simp at h1
    | succ j => exact R.fo j d a (by simpa using h1) (by simpa using h2)
/-- an owned slot is frozen -/
theorem StR.freeze (R : StR w F Fo H σ en) {i : Nat} {d : Da} {a : Addr} (hi : en[i]? = some (.ow d)) (ha : σ[i]? = some (some (.ref a))) :
    ∃ F', Same F F' ∧ (∀ b, b ≠ a → F' b = F b) ∧ StR w F' Fo H σ (en.set i (.fz d)) ∧ Dn w F' (.ref a) d := by
  obtain ⟨a', e, q⟩ := R.ow hi
  rw [ha] at e; cases e
  obtain ⟨o, ho⟩ := q.has
  have hFo : Fo a = none := R.fo i d a hi ha
  have sF : Same F (upd F a o) := same_upd q.1
  have hd : Dn w (upd F a o) (.ref a) d := q.dn sF fun o' e => by rw [ho] at e; cases e; exact upd_same
  have nb : ∀ b, b ≠ a → upd F a o b = F b := fun b h => upd_ne h
  have hil : i < en.length := (List.getElem?_eq_some_iff.mp hi).1
  have old : ∀ j t, (en.set i (.fz d))[j]? = some t → (j = i ∧ t = .fz d) ∨ (j ≠ i ∧ en[j]? = some t) := fun j t h => by
    by_cases hj : i = j
    · subst hj
      rw [List.getElem?_set_self hil] at h
      cases h; exact .inl ⟨rfl, rfl⟩
    · rw [List.getElem?_set_ne hj] at h
      exact .inr ⟨fun e => hj e.symm, h⟩
  refine ⟨upd F a o, sF, nb, ⟨fun b u e => ?_, R.oh, fun b u e => ?_, by simp [R.len], fun j t ov h1 h2 => ?_, fun j k b dj dk hne h1 h2 h3 h4 => ?_, fun j dj b h1 h2 => ?_⟩, hd⟩
  · by_cases hb : b = a
    · subst hb; rw [upd_same] at e; cases e; exact ho
    · rw [upd_ne hb] at e; exact R.fh b u e
  · by_cases hb : b = a
    · subst hb; rw [hFo] at e; cases e
    · rw [upd_ne hb]; exact R.dj b u e
  · rcases old j t h1 with ⟨rfl, rfl⟩ | ⟨hj, h1⟩
    · rw [ha] at h2; cases h2; exact ⟨_, rfl, hd⟩
    · have q' := R.sl j t ov h1 h2
      cases t with
      | no => trivial
      | fz d' =>
        obtain ⟨v, e, q'⟩ := q'
        exact ⟨v, e, q'.mono sF⟩
      | ow d' =>
        obtain ⟨b, e, q'⟩ := q'
        subst e
        have hb : b ≠ a := fun e => by subst e; exact R.ap j i b d' d hj h1 hi h2 ha
        exact ⟨b, rfl, q'.move sF (by rw [upd_ne hb]; exact q'.1) fun _ e => e⟩
  · rcases old j _ h1 with ⟨_, e⟩ | ⟨hj, h1⟩
    · cases e
    · rcases old k _ h2 with ⟨_, e⟩ | ⟨hk, h2⟩
      · cases e
      · exact R.ap j k b dj dk hne h1 h2 h3 h4
  · rcases old j _ h1 with ⟨_, e⟩ | ⟨hj, h1⟩
    · cases e
    · exact R.fo j dj b h1 h2
/-- the value on top is frozen -/
theorem StR.freezeTop {x : V} {s : Sl} {d : Da} (R : StR w F Fo H (some x :: σ) (s :: en)) (hd : s.dat = some d) :
    ∃ F', Same F F' ∧ StR w F' Fo H (some x :: σ) (.fz d :: en) ∧ Dn w F' x d := by
  cases s with
  | no => cases hd
  | fz d' =>
    cases hd
    obtain ⟨v, e, q⟩ := R.fz (i := 0) (by rfl)
    simp at e; subst e
    exact ⟨F, Same.refl _, R, q⟩
  | ow d' =>
    cases hd
    obtain ⟨a, e, q⟩ := R.ow (i := 0) (by rfl)
    simp at e; subst e
    obtain ⟨F', s1, _, R', hd⟩ := R.freeze (i := 0) (by rfl) (by rfl)
    exact ⟨F', s1, by simpa using R', hd⟩
/-- a held value is put by while the rest goes on -/
theorem StR.hold {x : V} {s : Sl} (R : StR w F Fo H (some x :: σ) (s :: en)) :
    ∃ Fo', StR w F Fo' H σ en ∧ Same Fo Fo' ∧ ∀ F' H' ρ en', Same F F' → StR w F' Fo' H' ρ en' → StR w F' Fo H' (some x :: ρ) (s :: en') := by
  have rest := R.pop
  cases s with
  | no =>
    refine ⟨Fo, rest, Same.refl _, fun F' H' ρ en' sF R' => ?_⟩
    refine ⟨R'.fh, R'.oh, R'.dj, by simp [R'.len], fun j t v h1 h2 => ?_, fun j k a dj dk hne h1 h2 h3 h4 => ?_, fun j d a h1 h2 => ?_⟩
    · cases j with
      | zero => simp at h1; subst h1; trivial
      | succ j => exact R'.sl j t v (by simpa using h1) (by simpa using h2)
    · cases j with
      | zero => simp at h1
      | succ j =>
        cases k with
        | zero => simp at h2
        | succ k => exact R'.ap j k a dj dk (fun e => hne (by rw [e])) (by simpa using h1) (by simpa using h2) (by simpa using h3) (by simpa using h4)
    · cases j with
      | zero => simp at h1
      | succ j => exact R'.fo j d a (by simpa using h1) (by simpa using h2)
  | fz d =>
    refine ⟨Fo, rest, Same.refl _, fun F' H' ρ en' sF R' => ?_⟩
    obtain ⟨v, e, q⟩ := R.fz (i := 0) (by rfl)
    simp at e; subst e
    exact R'.push (Gr.refl R'.fh) (q.mono sF)
  | ow d =>
    obtain ⟨a, e, q⟩ := R.ow (i := 0) (by rfl)
    simp at e; subst e
    obtain ⟨o, ho⟩ := q.has
    have hFo : Fo a = none := R.fo 0 d a (by rfl) (by rfl)
    have sO : Same Fo (upd Fo a o) := same_upd hFo
    refine ⟨upd Fo a o, ⟨rest.fh, fun b u e => ?_, fun b u e => ?_, rest.len, rest.sl, rest.ap, fun i di b h1 h2 => ?_⟩, sO, fun F' H' ρ en' sF R' => ?_⟩
    · by_cases hb : b = a
      · subst hb; rw [upd_same] at e; cases e; exact ho
      · rw [upd_ne hb] at e; exact R.oh b u e
    · by_cases hb : b = a
      · subst hb; exact q.1
      · rw [upd_ne hb] at e; exact R.dj b u e
    · have hb : b ≠ a := fun e => by
        subst e
        exact R.ap 0 (i + 1) b d di (by omega) (by rfl) (by simpa using h1) (by rfl) (by simpa using h2)
      rw [upd_ne hb]; exact rest.fo i di b h1 h2
    · have hF' : F' a = none := R'.dj a o upd_same
      have hH' : H' a = some o := R'.oh a o upd_same
      refine ⟨R'.fh, sO.trans R'.oh, fun b u e => R'.dj b u (sO b u e), by simp [R'.len], fun j t v h1 h2 => ?_, fun j k b dj dk hne h1 h2 h3 h4 => ?_, fun j dj b h1 h2 => ?_⟩
      · cases j with
        | zero =>
          simp at h1 h2; subst h1; subst h2
          exact ⟨a, rfl, q.move sF hF' fun o' e => by rw [ho] at e; cases e; exact hH'⟩
        | succ j => exact R'.sl j t v (by simpa using h1) (by simpa using h2)
      · cases j with
        | zero =>
          cases k with
          | zero => exact hne rfl
          | succ k =>
            simp at h1 h2 h3 h4
            subst h3
            have := R'.fo k dk a h2 h4
            rw [upd_same] at this; cases this
        | succ j =>
          cases k with
          | zero =>
            simp at h1 h2 h3 h4
            subst h4
            have := R'.fo j dj a h1 h3
            rw [upd_same] at this; cases this
          | succ k => exact R'.ap j k b dj dk (fun e => hne (by rw [e])) (by simpa using h1) (by simpa using h2) (by simpa using h3) (by simpa using h4)
      · cases j with
        | zero =>
          simp at h1 h2
          subst h2; exact hFo
        | succ j => exact sO.free (R'.fo j dj b (by simpa using h1) (by simpa using h2))
end
end Sh
set_option Elab.async false
set_option linter.all false
set_option maxRecDepth 100000
set_option autoImplicit false
/-! own layer 2: readings of expressions, tests, statements -/
namespace Sh
open PySem PySem.Spec PyProof.Rows L2

structure Gx where
  w : World
  cl : Str → Option Value
  EX : XK
  p0 : Bool
def XR (G : Gx) (e : Ex) (c : Value) (d : Option Addr) (H : Hp) : Prop :=
  G.cl e.cls = some c ∧ match e.most with
    | none => d = none
    | some m => ∃ a, d = some a ∧ H a = some (.xd [("most", .int m)])
abbrev ME := En → Rs (Sl × En)
abbrev MT := En → Rs (Bool × En)
inductive Opd where
  | sl (i : Nat)
  | ex (m : ME)
inductive Op where
  | at (i : Nat)
  | va (d : Da)
def sget (en : En) (i : Nat) : Sl := en.getD i .no
def res (en : En) : Op → Option Da
  | .at i => (sget en i).dat
  | .va d => some d
def resAll (en : En) : List Op → Option (List Da)
  | [] => some []
  | o :: os => (res en o).bind fun d => (resAll en os).bind fun ds => some (d :: ds)
def evalOps : List Opd → En → Rs (List Op × En)
  | [], en => .ok ([], en)
  | .sl i :: r, en => if (sget en i).dat.isSome then (evalOps r en).bind fun p => .ok (.at i :: p.1, p.2) else .bad
  | .ex m :: r, en => (m en).bind fun q => match q.1.dat with
    | none => .bad
    | some d => (evalOps r q.2).bind fun p => .ok (.va d :: p.1, p.2)

section
variable (G : Gx)
def PostX (F Fo : Hp) (e : Ex) : Prop := ∀ c d H', XR G e c d H' → Same F H' → Same Fo H' → G.EX c d H'
def PostE (F Fo : Hp) (σ : L2.St) (Q : VK) : Rs (Sl × En) → Prop
  | .ok (s, en') => ∀ x F' H', Same F F' → StR G.w F' Fo H' (some x :: σ) (s :: en') → Q x H'
  | .ex e => PostX G F Fo e
  | .bad => False
def PostT (F Fo : Hp) (σ : L2.St) (Q : Bool → Hp → Prop) : Rs (Bool × En) → Prop
  | .ok (b, en') => ∀ F' H', Same F F' → StR G.w F' Fo H' σ en' → Q b H'
  | .ex e => PostX G F Fo e
  | .bad => False
def OpIs (w : World) (F : Hp) (σ : L2.St) (x : V) : Op → Prop
  | .at i => σ[i]? = some (some x)
  | .va d => Dn w F x d
inductive OpRel (w : World) (F : Hp) (σ : L2.St) : List V → List Op → Prop
  | nil : OpRel w F σ [] []
  | cons {x : V} {o : Op} {xs : List V} {os : List Op} : OpIs w F σ x o → OpRel w F σ xs os → OpRel w F σ (x :: xs) (o :: os)
def PostA (F Fo : Hp) (σ : L2.St) (Q : List V → Hp → Prop) : Rs (List Op × En) → Prop
  | .ok (os, en') => ∀ xs F' H', Same F F' → StR G.w F' Fo H' σ en' → OpRel G.w F' σ xs os → Q xs H'
  | .ex e => PostX G F Fo e
  | .bad => False
def rdE (m : ME) : TE := fun σ H Q => ∃ F Fo en, StR G.w F Fo H σ en ∧ PostE G F Fo σ Q (m en)
def rdT (m : MT) : TT := fun σ H Q => ∃ F Fo en, StR G.w F Fo H σ en ∧ PostT G F Fo σ Q (m en)
def rdOs (ops : List Opd) : TA := fun σ H Q => ∃ F Fo en, StR G.w F Fo H σ en ∧ PostA G F Fo σ Q (evalOps ops en)
def rdO : Opd → TE
  | .sl i => tVar i
  | .ex m => rdE G m
end
section
variable {G : Gx} {F F1 Fo Fo1 : Hp} {σ : L2.St} {H : Hp}
theorem PostX.mono {e : Ex} (s : Same F F1) (o : Same Fo Fo1) (h : PostX G F Fo e) : PostX G F1 Fo1 e := fun c d H' x h1 h2 => h c d H' x (s.trans h1) (o.trans h2)
theorem PostE.mono {Q : VK} {r : Rs (Sl × En)} (s : Same F F1) (h : PostE G F Fo σ Q r) : PostE G F1 Fo σ Q r := by
  cases r with
  | ok p => exact fun x F' H' h1 h2 => h x F' H' (s.trans h1) h2
  | ex e => exact PostX.mono s (Same.refl _) h
  | bad => exact h
theorem PostA.mono {Q : List V → Hp → Prop} {r : Rs (List Op × En)} (s : Same F F1) (h : PostA G F Fo σ Q r) : PostA G F1 Fo σ Q r := by
  cases r with
  | ok p => exact fun x F' H' h1 h2 => h x F' H' (s.trans h1) h2
  | ex e => exact PostX.mono s (Same.refl _) h
  | bad => exact h
theorem PostT.mono {Q : Bool → Hp → Prop} {r : Rs (Bool × En)} (s : Same F F1) (h : PostT G F Fo σ Q r) : PostT G F1 Fo σ Q r := by
  cases r with
  | ok p => exact fun F' H' h1 h2 => h F' H' (s.trans h1) h2
  | ex e => exact PostX.mono s (Same.refl _) h
  | bad => exact h
theorem PostE.imp {Q Q' : VK} {r : Rs (Sl × En)} (k : ∀ x H, Q x H → Q' x H) (h : PostE G F Fo σ Q r) : PostE G F Fo σ Q' r := by
  cases r with
  | ok p => exact fun x F' H' h1 h2 => k _ _ (h x F' H' h1 h2)
  | ex e => exact h
  | bad => exact h
theorem rdE_imp {m : ME} {Q Q' : VK} (k : ∀ x H, Q x H → Q' x H) (h : rdE G m σ H Q) : rdE G m σ H Q' := by
  obtain ⟨F, Fo, en, R, h⟩ := h
  exact ⟨F, Fo, en, R, h.imp k⟩
theorem sget_dat {w : World} {en : En} {i : Nat} {d : Da} (R : StR w F Fo H σ en) (h : (sget en i).dat = some d) : ∃ v, σ[i]? = some (some v) ∧ Dn1 w F H v d := by
  unfold sget at h
  rw [List.getD_eq_getElem?_getD] at h
  cases e : en[i]? with
  | none => rw [e] at h; cases h
  | some s => rw [e] at h; exact R.dat e h
theorem rdOs_cons {o : Opd} {ops : List Opd} {Q : List V → Hp → Prop} (h : rdOs G (o :: ops) σ H Q) : rdO G o σ H fun x H1 => rdOs G ops σ H1 fun xs H2 => Q (x :: xs) H2 := by
  obtain ⟨F, Fo, en, R, h⟩ := h
  cases o with
  | sl i =>
    show ∃ v, σ[i]? = some (some v) ∧ _
    unfold evalOps at h
    by_cases hs : (sget en i).dat.isSome = true
    · rw [if_pos hs] at h
      obtain ⟨d, hd⟩ := Option.isSome_iff_exists.mp hs
      obtain ⟨v, e, q⟩ := sget_dat R hd
      refine ⟨v, e, F, Fo, en, R, ?_⟩
      cases hr : evalOps ops en with
      | ok p =>
        rw [hr] at h
        exact fun xs F' H' h1 h2 h3 => h (v :: xs) F' H' h1 h2 (.cons e h3)
      | ex x => rw [hr] at h; exact h
      | bad => rw [hr] at h; exact h.elim
    · rw [if_neg hs] at h; exact h.elim
  | ex m =>
    refine ⟨F, Fo, en, R, ?_⟩
    unfold evalOps at h
    cases hm : m en with
    | bad => rw [hm] at h; exact h.elim
    | ex x => rw [hm] at h; exact h
    | ok p =>
      obtain ⟨s, en1⟩ := p
      rw [hm] at h
      intro x F1 H1 s1 R1
      change PostA G F Fo σ Q (match s.dat with
        | none => .bad
        | some d => (evalOps ops en1).bind fun p => .ok (.va d :: p.1, p.2)) at h
      cases hd : s.dat with
      | none => rw [hd] at h; exact h.elim
      | some d =>
        rw [hd] at h
        obtain ⟨F2, s2, R2, q2⟩ := R1.freezeTop hd
        refine ⟨F2, Fo, en1, R2.pop, ?_⟩
        have h' := PostA.mono (s1.trans s2) h
        cases hr : evalOps ops en1 with
        | ok p =>
          simp only [hr] at h'
          exact fun xs F' H' h1 h2 h3 => h' (x :: xs) F' H' h1 h2 (.cons (q2.mono h1) h3)
        | ex y => simp only [hr] at h'; exact h'
        | bad => simp only [hr] at h'; exact h'.elim
theorem rdOs_nil {Q : List V → Hp → Prop} (h : rdOs G [] σ H Q) : Q [] H := by
  obtain ⟨F, Fo, en, R, h⟩ := h
  exact h [] F H (Same.refl _) R .nil
theorem rdO_imp {o : Opd} {Q Q' : VK} (k : ∀ x H, Q x H → Q' x H) (h : rdO G o σ H Q) : rdO G o σ H Q' := by
  cases o with
  | sl i =>
    obtain ⟨v, e, q⟩ := h
    exact ⟨v, e, k _ _ q⟩
  | ex m => exact rdE_imp k h
theorem rdOs_1 {o : Opd} {Q : List V → Hp → Prop} (h : rdOs G [o] σ H Q) : rdO G o σ H fun x H1 => Q [x] H1 := rdO_imp (fun _ _ q => rdOs_nil q) (rdOs_cons h)
theorem rdOs_2 {o o' : Opd} {Q : List V → Hp → Prop} (h : rdOs G [o, o'] σ H Q) : rdO G o σ H fun x H1 => rdO G o' σ H1 fun y H2 => Q [x, y] H2 :=
  rdO_imp (fun _ _ q => rdOs_1 q) (rdOs_cons h)
theorem rdOs_3 {o o' o'' : Opd} {Q : List V → Hp → Prop} (h : rdOs G [o, o', o''] σ H Q) : rdO G o σ H fun x H1 => rdO G o' σ H1 fun y H2 => rdO G o'' σ H2 fun z H3 => Q [x, y, z] H3 :=
  rdO_imp (fun _ _ q => rdOs_2 q) (rdOs_cons h)
theorem resAll_dn {w : World} {en : En} (R : StR w F Fo H σ en) : ∀ {os : List Op} {xs : List V} {ds : List Da}, OpRel w F σ xs os → resAll en os = some ds → Dn1s w F H xs ds
  | [], _, _, h, e => by cases h; cases e; exact .nil
  | o :: os, _, ds, h, e => by
    cases h with
    | cons h1 h2 =>
      unfold resAll at e
      cases ho : res en o with
      | none => rw [ho] at e; cases e
      | some d =>
        rw [ho] at e
        cases hr : resAll en os with
        | none => simp [hr] at e
        | some ds' =>
          simp [hr] at e
          subst e
          refine .cons ?_ (resAll_dn R h2 hr)
          cases o with
          | «at» i =>
            obtain ⟨v, e1, q⟩ := sget_dat R ho
            have e2 : σ[i]? = some (some _) := h1
            rw [e1] at e2; cases e2; exact q
          | va d' => cases ho; exact .inl h1
end

/-! ### pure operations -/
def Rz (w : World) (op : List Da → Option Sl) : List V → Hp → VK → Prop := fun xs H Q =>
  ∃ F ds s, Same F H ∧ Dn1s w F H xs ds ∧ op ds = some s ∧ ∀ x F' H', Gr F H F' H' → Nw w F' H H' x s → Q x H'
def ofO {α : Type} : Option α → Rs α
  | some a => .ok a
  | none => .bad
def mPure (op : List Da → Option Sl) (ops : List Opd) : ME := fun en => (evalOps ops en).bind fun p => match (resAll p.2 p.1).bind op with
  | none => .bad
  | some s => .ok (s, p.2)
section
variable {G : Gx} {σ : L2.St} {H : Hp}
theorem rz_of {op : List Da → Option Sl} {ops : List Opd} {Q : VK} (h : rdE G (mPure op ops) σ H Q) : rdOs G ops σ H fun xs H1 => Rz G.w op xs H1 Q := by
  obtain ⟨F, Fo, en, R, h⟩ := h
  refine ⟨F, Fo, en, R, ?_⟩
  unfold mPure at h
  cases hr : evalOps ops en with
  | bad => rw [hr] at h; exact h.elim
  | ex e => rw [hr] at h; exact h
  | ok p =>
    obtain ⟨os, en1⟩ := p
    rw [hr] at h
    intro xs F1 H1 s1 R1 rel
    change PostE G F Fo σ Q (match (resAll en1 os).bind op with | none => .bad | some s => .ok (s, en1)) at h
    cases hd : resAll en1 os with
    | none => rw [hd] at h; exact h.elim
    | some ds =>
      rw [hd] at h
      simp only [Option.bind_some] at h
      cases ho : op ds with
      | none => rw [ho] at h; exact h.elim
      | some s =>
        rw [ho] at h
        exact ⟨F1, ds, s, R1.fh, resAll_dn R1 rel hd, ho, fun x F2 H2 g n => h x F2 H2 (s1.trans g.ff) (R1.push g n)⟩
end
theorem _root_.L2.PE.byR {X : Cx} {e : Expr} {t t' : TE} (h : PE X e t) (k : ∀ σ H Q, t' σ H Q → t σ H Q) : PE X e t' := ⟨fun pins s σ H Q I q => h.run pins s σ H Q I (k σ H Q q)⟩
theorem _root_.L2.PT.byR {X : Cx} {e : Expr} {t t' : TT} (h : PT X e t) (k : ∀ σ H Q, t' σ H Q → t σ H Q) : PT X e t' := ⟨fun pins s σ H Q I q => h.run pins s σ H Q I (k σ H Q q)⟩
theorem _root_.L2.PS.byR {X : Cx} {e : Stmt} {t t' : TS} (h : PS X e t) (k : ∀ σ H Q, t' Q σ H → t Q σ H) : PS X e t' := ⟨fun pins s σ H Q I q => h.run pins s σ H Q I (k σ H Q q)⟩
theorem _root_.L2.PSs.byR {X : Cx} {e : List Stmt} {t t' : TS} (h : PSs X e t) (k : ∀ σ H Q, t' Q σ H → t Q σ H) : PSs X e t' := ⟨fun pins s σ H Q I q => h.run pins s σ H Q I (k σ H Q q)⟩
theorem _root_.L2.PA.byR {X : Cx} {e : List Expr} {t t' : TA} (h : PA X e t) (k : ∀ σ H Q, t' σ H Q → t σ H Q) : PA X e t' := ⟨fun pos pins s σ H Q I q => h.run pos pins s σ H Q I (k σ H Q q)⟩

section
variable {X : Cx} {G : Gx} {pos p : Pos} {e a b c : Expr} {es : List Expr} {o o' : Opd} {ops : List Opd} {op : List Da → Option Sl}
/-! ### argument lists -/
theorem sa_nil : PA X [] (rdOs G []) := pa_nil.byR fun _ _ _ h => rdOs_nil h
theorem sa_cons (h : PE X e (rdO G o)) (hr : PA X es (rdOs G ops)) (hs : starEach (e :: es) X.env = (false, eval e X.env) :: starEach es X.env := by rfl) : PA X (e :: es) (rdOs G (o :: ops)) :=
  (pa_cons h hr hs).byR fun _ _ _ h => rdOs_cons h
theorem so_sl {i : Nat} (h : PE X e (tVar i)) : PE X e (rdO G (.sl i)) := h
theorem so_ex {m : ME} (h : PE X e (rdE G m)) : PE X e (rdO G (.ex m)) := h

/-! ### names and constants -/
def mVar (i : Nat) : ME := fun en => match sget en i with
  | .no => .bad
  | .fz d => .ok (.fz d, en)
  | .ow d => .ok (.fz d, en.set i (.fz d))
theorem sget_eq {en : En} {i : Nat} {s : Sl} (h : sget en i = s) (hs : s ≠ .no) : en[i]? = some s := by
  unfold sget at h
  rw [List.getD_eq_getElem?_getD] at h
  cases e : en[i]? with
  | none => rw [e] at h; exact (hs h.symm).elim
  | some t => rw [e] at h; exact congrArg some h
theorem rd_var {i : Nat} {σ : L2.St} {H : Hp} {Q : VK} (h : rdE G (mVar i) σ H Q) : tVar i σ H Q := by
  obtain ⟨F, Fo, en, R, h⟩ := h
  unfold mVar at h
  cases hs : sget en i with
  | no => rw [hs] at h; exact h.elim
  | fz d =>
    rw [hs] at h
    obtain ⟨v, e, q⟩ := R.fz (sget_eq hs (by simp))
    exact ⟨v, e, h v F H (Same.refl _) (R.push (Gr.refl R.fh) q)⟩
  | ow d =>
    rw [hs] at h
    have hi := sget_eq hs (by simp)
    obtain ⟨a, e, q⟩ := R.ow hi
    obtain ⟨F', s1, _, R', q'⟩ := R.freeze hi e
    exact ⟨_, e, h _ F' H s1 (R'.push (Gr.refl R'.fh) q')⟩
theorem s_var {i : Nat} (h : PE X e (tVar i)) : PE X e (rdE G (mVar i)) := h.byR fun _ _ _ h => rd_var h
def mK (d : Da) : ME := fun en => .ok (.fz d, en)
theorem rd_k {v : V} {d : Da} (hv : ∀ F, Dn G.w F v d) {σ : L2.St} {H : Hp} {Q : VK} (h : rdE G (mK d) σ H Q) : tC v σ H Q := by
  obtain ⟨F, Fo, en, R, h⟩ := h
  exact h v F H (Same.refl _) (R.push (Gr.refl R.fh) (hv F))
theorem s_int {i : Int} {j pos} : PE X (.Constant (.int i) j pos) (rdE G (mK (.int i))) := pe_int.byR fun _ _ _ h => rd_k (fun _ => .int i) h
theorem s_bool {i : Bool} {j pos} : PE X (.Constant (.bool i) j pos) (rdE G (mK (.bool i))) := pe_bl.byR fun _ _ _ h => rd_k (fun _ => .bl i) h
theorem s_none {j pos} : PE X (.Constant .none j pos) (rdE G (mK .none)) := pe_non.byR fun _ _ _ h => rd_k (fun _ => .non) h
theorem s_str {i : Str} {j pos} : PE X (.Constant (.str i) j pos) (rdE G (mK (.str i))) := pe_str.byR fun _ _ _ h => rd_k (fun _ => .str i) h
/-- a module's constant -/
theorem s_globI {x : Str} {i : Int} {t : Tok} (hg : Gl X x) (hm : X.mg x = some (.int i t)) (hd : (x == ("__debug__" : Str)) = false := by decide) : PE X (.Name x pos) (rdE G (mK (.int i))) :=
  (pe_glob (v := .int i) hg hm ⟨t, rfl⟩ hd).byR fun _ _ _ h => rd_k (fun _ => .int i) h
theorem s_globS {x : Str} {i : Str} {t : Tok} (hg : Gl X x) (hm : X.mg x = some (.str i t)) (hd : (x == ("__debug__" : Str)) = false := by decide) : PE X (.Name x pos) (rdE G (mK (.str i))) :=
  (pe_glob (v := .str i) hg hm ⟨t, rfl⟩ hd).byR fun _ _ _ h => rd_k (fun _ => .str i) h

/-! ### displays -/
def opTup : List Da → Option Sl := fun ds => if ds.length ≤ 1000 then some (.fz (.tuple ds)) else none
def opLst : List Da → Option Sl := fun ds => if ds.length ≤ 1000 then some (.ow (.list ds)) else none
/-- operands that are values of their own -/
def exs : List ME → List Opd
  | [] => []
  | m :: r => .ex m :: exs r
theorem exs_dn {w : World} {F Fo H : Hp} {σ : L2.St} : ∀ {ms : List ME} {en en' : En} {os : List Op}, evalOps (exs ms) en = .ok (os, en') → ∀ {xs : List V} {ds : List Da} {en2 : En}, OpRel w F σ xs os → resAll en2 os = some ds → DnAll w F xs ds
  | [], _, _, _, h, _, _, _, r, e => by
    cases h
    cases r
    cases e
    exact .nil
  | m :: ms, en, en', os, h, xs, ds, en2, r, e => by
    unfold exs evalOps at h
    cases hm : m en with
    | bad => rw [hm] at h; cases h
    | ex x => rw [hm] at h; cases h
    | ok q =>
      rw [hm] at h
      simp only [Rs.bind] at h
      cases hd : q.1.dat with
      | none => rw [hd] at h; cases h
      | some d =>
        rw [hd] at h
        cases hr : evalOps (exs ms) q.2 with
        | bad => simp only [hr] at h; cases h
        | ex x => simp only [hr] at h; cases h
        | ok p =>
          simp only [hr] at h
          cases h
          cases r with
          | cons r1 r2 =>
            unfold resAll at e
            cases he : resAll en2 p.1 with
            | none => simp [res, he] at e
            | some ds' =>
              simp [res, he] at e
              subst e
              exact .cons r1 (exs_dn (w := w) (F := F) (Fo := Fo) (H := H) (en' := p.2) (os := p.1) hr r2 he)
theorem small1000' {n : Nat} (h : n ≤ 1000) : n ≤ sizeLine := Nat.le_trans h (by decide)
theorem rd_disp {mk : List V → HO} {op : List Da → Option Sl} {ms : List ME} {σ : L2.St} {H : Hp} {Q : VK}
    (hop : ∀ ds s, op ds = some s → ds.length ≤ 1000 ∧ ∀ {F H : Hp} {xs : List V} {p : Addr}, Same F H → H p = none → DnAll G.w F xs ds → ∃ F', Gr F H F' (upd H p (mk xs)) ∧ Nw G.w F' H (upd H p (mk xs)) (.ref p) s)
    (h : rdE G (mPure op (exs ms)) σ H Q) : rdOs G (exs ms) σ H fun xs H1 => xs.length ≤ sizeLine ∧ ∀ p, H1 p = none → Q (.ref p) (upd H1 p (mk xs)) := by
  obtain ⟨F, Fo, en, R, h⟩ := h
  refine ⟨F, Fo, en, R, ?_⟩
  unfold mPure at h
  cases hr : evalOps (exs ms) en with
  | bad => rw [hr] at h; exact h.elim
  | ex e => rw [hr] at h; exact h
  | ok p =>
    obtain ⟨os, en1⟩ := p
    rw [hr] at h
    intro xs F1 H1 s1 R1 rel
    change PostE G F Fo σ Q (match (resAll en1 os).bind op with | none => .bad | some s => .ok (s, en1)) at h
    cases hd : resAll en1 os with
    | none => rw [hd] at h; exact h.elim
    | some ds =>
      rw [hd] at h
      simp only [Option.bind_some] at h
      cases ho : op ds with
      | none => rw [ho] at h; exact h.elim
      | some s =>
        rw [ho] at h
        have dn : DnAll G.w F1 xs ds := exs_dn (w := G.w) (F := F1) (Fo := Fo) (H := H1) hr rel hd
        obtain ⟨hl, hk⟩ := hop ds s ho
        refine ⟨small1000' (by rw [dn.length]; exact hl), fun p hp => ?_⟩
        obtain ⟨F2, g, n⟩ := hk R1.fh hp dn
        exact h _ F2 _ (s1.trans g.ff) (R1.push g n)
theorem s_tup {ms : List ME} {x1} (h : PA X es (rdOs G (exs ms))) : PE X (.Tuple es x1 pos) (rdE G (mPure opTup (exs ms))) :=
  (pe_tup h).byR fun σ H Q q => rd_disp (mk := .tup) (fun ds s e => by
    unfold opTup at e
    split at e
    · rename_i hl
      cases e
      refine ⟨hl, fun {F H xs p} sf hp dn => ⟨_, Gr.newF sf hp, ?_⟩⟩
      exact .tup (.inl upd_same) (dn.mono (same_upd (sf.free hp)))
    · cases e) q
theorem s_lst {ms : List ME} (h : PA X es (rdOs G (exs ms))) : PE X (.List es pos) (rdE G (mPure opLst (exs ms))) :=
  (pe_lst h).byR fun σ H Q q => rd_disp (mk := .lst) (fun ds s e => by
    unfold opLst at e
    split at e
    · rename_i hl
      cases e
      exact ⟨hl, fun {F H xs p} sf hp dn => ⟨_, Gr.new sf hp, ⟨p, rfl, hp, sf.free hp, .inl ⟨xs, ds, rfl, upd_same, dn⟩⟩⟩⟩
    · cases e) q

/-! ### operations by their rules -/
theorem s_callB {x : Str} {id : String} (hc : CallR X (.builtin id) (Rz G.w op)) (hg : Gl X x) (hm : X.mg x = none) (hv : bootBuiltins x = some (.builtin id)) (ha : PA X (e :: es) (rdOs G ops)) (hn : x ≠ "__name__" := by decide) (hdb : (x == ("__debug__" : Str)) = false := by decide)
    (he : starEach (e :: es) X.env = (false, eval e X.env) :: starEach es X.env := by rfl) (hpl : (backTo pos (starEach es X.env)).any (·.1) = false := by rfl) : PE X (.Call (.Name x p) (e :: es) [] pos) (rdE G (mPure op ops)) :=
  (pe_callB hc hg hm hv ha hn hdb he hpl).byR fun _ _ _ h => rz_of h
theorem s_callTy {x : Str} {T : String} (hc : CallR X (.type T) (Rz G.w op)) (hg : Gl X x) (hm : X.mg x = none) (hv : bootBuiltins x = some (.type T)) (ha : PA X (e :: es) (rdOs G ops)) (hn : x ≠ "__name__" := by decide) (hdb : (x == ("__debug__" : Str)) = false := by decide)
    (he : starEach (e :: es) X.env = (false, eval e X.env) :: starEach es X.env := by rfl) (hpl : (backTo pos (starEach es X.env)).any (·.1) = false := by rfl) : PE X (.Call (.Name x p) (e :: es) [] pos) (rdE G (mPure op ops)) :=
  (pe_callTy hc hg hm hv ha hn hdb he hpl).byR fun _ _ _ h => rz_of h
/-- a two-place operation by its rule on data -/
def OpZ (X : Cx) (w : World) (f : Value → Value → Sem Value) (op : List Da → Option Sl) : Prop := OpR X f fun x y H Q => Rz w op [x, y] H Q
def UnZ (X : Cx) (w : World) (f : Value → Sem Value) (op : List Da → Option Sl) : Prop := UnR X f fun x H Q => Rz w op [x] H Q
theorem s_op {oper : Operator} (ho : OpZ X G.w (binaryOp oper) op) (ha : PE X a (rdO G o)) (hb : PE X b (rdO G o')) : PE X (.BinOp a oper b pos) (rdE G (mPure op [o, o'])) :=
  (pe_op ho ha hb).byR fun _ _ _ h => rdOs_2 (rz_of h)
theorem s_un {oper : UnaryOp} (ho : UnZ X G.w (unaryOp oper) op) (ha : PE X a (rdO G o)) : PE X (.UnaryOp oper a pos) (rdE G (mPure op [o])) :=
  (pe_un ho ha).byR fun _ _ _ h => rdOs_1 (rz_of h)
theorem s_cmp {oper : CmpOp} (ho : OpZ X G.w (compareOp oper) op) (ha : PE X a (rdO G o)) (hb : PE X b (rdO G o')) (hm : behindInMarks oper b = false) : PE X (.Compare a [oper] [b] pos) (rdE G (mPure op [o, o'])) :=
  (pe_cmpR ho ha hb hm).byR fun _ _ _ h => rdOs_2 (rz_of h)

/-! ### tests -/
def mTE (m : ME) : MT := fun en => (m en).bind fun p => match p.1 with
  | .fz (.bool k) => .ok (k, p.2)
  | _ => .bad
theorem rd_te {m : ME} {σ : L2.St} {H : Hp} {Q : Bool → Hp → Prop} (h : rdT G (mTE m) σ H Q) : rdE G m σ H fun x H1 => ∃ k, x = .bl k ∧ Q k H1 := by
  obtain ⟨F, Fo, en, R, h⟩ := h
  refine ⟨F, Fo, en, R, ?_⟩
  unfold mTE at h
  cases hm : m en with
  | bad => rw [hm] at h; exact h.elim
  | ex e => rw [hm] at h; exact h
  | ok p =>
    obtain ⟨s, en1⟩ := p
    rw [hm] at h
    intro x F1 H1 s1 R1
    simp only [Rs.bind] at h
    split at h
    · rename_i k
      obtain ⟨v, e, q⟩ := R1.fz (i := 0) (by rfl)
      simp at e; subst e
      cases q
      exact ⟨k, rfl, h F1 H1 s1 R1.pop⟩
    · exact h.elim
theorem t_cmp {oper : CmpOp} (ho : OpZ X G.w (compareOp oper) op) (ha : PE X a (rdO G o)) (hb : PE X b (rdO G o')) (hm : behindInMarks oper b = false) : PT X (.Compare a [oper] [b] pos) (rdT G (mTE (mPure op [o, o']))) :=
  (pt_cmpR ho ha hb hm).byR fun _ _ _ h => rdOs_2 (rz_of (rd_te h))
theorem t_val {m : ME} (h : PE X e (rdE G m)) (he : ∀ whole, isTrue e X.env whole = (do let v ← whole; standAt e.pos; holding [v] (truthy v)) := by intro _; rfl) : PT X e (rdT G (mTE m)) :=
  (pt_val h he).byR fun _ _ _ h => rd_te h
def mAnd (m n : MT) : MT := fun en => (m en).bind fun p => if p.1 = true then n p.2 else .ok (false, p.2)
def mOr (m n : MT) : MT := fun en => (m en).bind fun p => if p.1 = true then .ok (true, p.2) else n p.2
def mNot (m : MT) : MT := fun en => (m en).bind fun p => .ok (!p.1, p.2)
theorem rd_bindT {m : MT} {k : Bool × En → Rs (Bool × En)} {σ : L2.St} {H : Hp} {Q : Bool → Hp → Prop} (h : rdT G (fun en => (m en).bind k) σ H Q) :
    rdT G m σ H fun c H1 => ∃ F Fo en, StR G.w F Fo H1 σ en ∧ PostT G F Fo σ Q (k (c, en)) := by
  obtain ⟨F, Fo, en, R, h⟩ := h
  refine ⟨F, Fo, en, R, ?_⟩
  cases hm : m en with
  | bad => simp only [hm] at h; exact h.elim
  | ex e => simp only [hm] at h; exact h
  | ok p =>
    simp only [hm] at h
    exact fun F1 H1 s1 R1 => ⟨F1, Fo, p.2, R1, PostT.mono s1 h⟩
theorem w_and1 {m : MT} (ha : PT X a (rdT G m)) : PW X (.BoolOp .And [a] pos) (rdT G m) := pw_and1 ha
theorem w_or1 {m : MT} (ha : PT X a (rdT G m)) : PW X (.BoolOp .Or [a] pos) (rdT G m) := pw_or1 ha
theorem _root_.L2.PW.byR {t t' : TT} (h : PW X e t) (k : ∀ σ H Q, t' σ H Q → t σ H Q) : PW X e t' := ⟨fun wh pins s σ H Q I q => h.run wh pins s σ H Q I (k σ H Q q)⟩
theorem rdT_imp {m : MT} {σ : L2.St} {H : Hp} {Q Q' : Bool → Hp → Prop} (k : ∀ x H, Q x H → Q' x H) (h : rdT G m σ H Q) : rdT G m σ H Q' := by
  obtain ⟨F, Fo, en, R, h⟩ := h
  refine ⟨F, Fo, en, R, ?_⟩
  cases hm : m en with
  | bad => rw [hm] at h; exact h
  | ex e => rw [hm] at h; exact h
  | ok p => rw [hm] at h; exact fun F1 H1 s1 R1 => k _ _ (h F1 H1 s1 R1)
theorem w_and {m n : MT} {rest : List Expr} (ha : PT X a (rdT G m)) (hb : PW X (.BoolOp .And (b :: rest) pos) (rdT G n)) : PW X (.BoolOp .And (a :: b :: rest) pos) (rdT G (mAnd m n)) :=
  (pw_and ha hb).byR fun σ H Q h => rdT_imp (fun c H1 q => by
    obtain ⟨F, Fo, en, R, q⟩ := q
    cases c with
    | true => exact ⟨F, Fo, en, R, q⟩
    | false => exact q F H1 (Same.refl _) R) (rd_bindT h)
theorem w_or {m n : MT} {rest : List Expr} (ha : PT X a (rdT G m)) (hb : PW X (.BoolOp .Or (b :: rest) pos) (rdT G n)) : PW X (.BoolOp .Or (a :: b :: rest) pos) (rdT G (mOr m n)) :=
  (pw_or ha hb).byR fun σ H Q h => rdT_imp (fun c H1 q => by
    obtain ⟨F, Fo, en, R, q⟩ := q
    cases c with
    | true => exact q F H1 (Same.refl _) R
    | false => exact ⟨F, Fo, en, R, q⟩) (rd_bindT h)
theorem t_not {m : MT} (ha : PT X a (rdT G m)) : PT X (.UnaryOp .Not a pos) (rdT G (mNot m)) :=
  (pt_not ha).byR fun σ H Q h => rdT_imp (fun c H1 q => by
    obtain ⟨F, Fo, en, R, q⟩ := q
    exact q F H1 (Same.refl _) R) (rd_bindT h)
/-- a test's answer as a value -/
def mB (m : MT) : ME := fun en => (m en).bind fun p => .ok (.fz (.bool p.1), p.2)
def mIf (c : MT) (m n : ME) : ME := fun en => (c en).bind fun p => if p.1 = true then m p.2 else n p.2
theorem rd_bindTE {m : MT} {k : Bool × En → Rs (Sl × En)} {σ : L2.St} {H : Hp} {Q : VK} (h : rdE G (fun en => (m en).bind k) σ H Q) :
    rdT G m σ H fun c H1 => ∃ F Fo en, StR G.w F Fo H1 σ en ∧ PostE G F Fo σ Q (k (c, en)) := by
  obtain ⟨F, Fo, en, R, h⟩ := h
  refine ⟨F, Fo, en, R, ?_⟩
  cases hm : m en with
  | bad => simp only [hm] at h; exact h.elim
  | ex e => simp only [hm] at h; exact h
  | ok p =>
    simp only [hm] at h
    exact fun F1 H1 s1 R1 => ⟨F1, Fo, p.2, R1, PostE.mono s1 h⟩
theorem s_ifExp {m : MT} {n1 n2 : ME} (hc : PT X c (rdT G m)) (ha : PE X a (rdE G n1)) (hb : PE X b (rdE G n2)) : PE X (.IfExp c a b pos) (rdE G (mIf m n1 n2)) :=
  (pe_ifExp hc ha hb).byR fun σ H Q h => rdT_imp (fun c H1 q => by
    obtain ⟨F, Fo, en, R, q⟩ := q
    cases c with
    | true => exact ⟨F, Fo, en, R, q⟩
    | false => exact ⟨F, Fo, en, R, q⟩) (rd_bindTE h)
/-! ### and, or, not as values (of truths) -/
def mAndV (m n : ME) : ME := fun en => (m en).bind fun p => match p.1 with
  | .fz (.bool true) => n p.2
  | .fz (.bool false) => .ok (.fz (.bool false), p.2)
  | _ => .bad
def mOrV (m n : ME) : ME := fun en => (m en).bind fun p => match p.1 with
  | .fz (.bool true) => .ok (.fz (.bool true), p.2)
  | .fz (.bool false) => n p.2
  | _ => .bad
def mNotV (m : ME) : ME := fun en => (m en).bind fun p => match p.1 with
  | .fz (.bool k) => .ok (.fz (.bool (!k)), p.2)
  | _ => .bad
theorem rd_bindB {m : ME} {k : Sl × En → Rs (Sl × En)} {σ : L2.St} {H : Hp} {Q : VK} (hk : ∀ s en, (∀ c, s ≠ .fz (.bool c)) → k (s, en) = .bad) (h : rdE G (fun en => (m en).bind k) σ H Q) :
    rdE G m σ H fun x H1 => ∃ c, x = .bl c ∧ ∃ F Fo en, StR G.w F Fo H1 σ en ∧ PostE G F Fo σ Q (k (.fz (.bool c), en)) := by
  obtain ⟨F, Fo, en, R, h⟩ := h
  refine ⟨F, Fo, en, R, ?_⟩
  cases hm : m en with
  | bad => simp only [hm] at h; exact h.elim
  | ex e => simp only [hm] at h; exact h
  | ok p =>
    obtain ⟨s, en1⟩ := p
    simp only [hm] at h
    intro x F1 H1 s1 R1
    by_cases hs : ∃ c, s = .fz (.bool c)
    · obtain ⟨c, rfl⟩ := hs
      obtain ⟨v, e, q⟩ := R1.fz (i := 0) (by rfl)
      simp at e; subst e
      cases q
      exact ⟨c, rfl, F1, Fo, en1, R1.pop, PostE.mono s1 h⟩
    · have e := hk s en1 fun c z => hs ⟨c, z⟩
      change PostE G F Fo σ Q (k (s, en1)) at h
      rw [e] at h; exact h.elim
theorem s_one {oper} {m : ME} (h : PE X a (rdE G m)) : PE X (.BoolOp oper [a] pos) (rdE G m) := pe_one h
theorem s_and {m n : ME} {rest : List Expr} (ha : PE X a (rdE G m)) (hb : PE X (.BoolOp .And (b :: rest) pos) (rdE G n)) : PE X (.BoolOp .And (a :: b :: rest) pos) (rdE G (mAndV m n)) :=
  (pe_and ha hb).byR fun σ H Q h => rdE_imp (fun x H1 q => by
    obtain ⟨c, e, F, Fo, en, R, q⟩ := q
    refine ⟨c, e, ?_⟩
    cases c with
    | true => exact ⟨F, Fo, en, R, q⟩
    | false => exact q _ F H1 (Same.refl _) (R.push (Gr.refl R.fh) (.bl false))) (rd_bindB (fun s en hs => by
      split
      · exact (hs _ (by assumption)).elim
      · exact (hs _ (by assumption)).elim
      · rfl) h)
theorem s_or {m n : ME} {rest : List Expr} (ha : PE X a (rdE G m)) (hb : PE X (.BoolOp .Or (b :: rest) pos) (rdE G n)) : PE X (.BoolOp .Or (a :: b :: rest) pos) (rdE G (mOrV m n)) :=
  (pe_or ha hb).byR fun σ H Q h => rdE_imp (fun x H1 q => by
    obtain ⟨c, e, F, Fo, en, R, q⟩ := q
    refine ⟨c, e, ?_⟩
    cases c with
    | true => exact q _ F H1 (Same.refl _) (R.push (Gr.refl R.fh) (.bl true))
    | false => exact ⟨F, Fo, en, R, q⟩) (rd_bindB (fun s en hs => by
      split
      · exact (hs _ (by assumption)).elim
      · exact (hs _ (by assumption)).elim
      · rfl) h)
theorem s_not {m : ME} (ha : PE X a (rdE G m)) : PE X (.UnaryOp .Not a pos) (rdE G (mNotV m)) :=
  (pe_not ha).byR fun σ H Q h => rdE_imp (fun x H1 q => by
    obtain ⟨c, e, F, Fo, en, R, q⟩ := q
    exact ⟨c, e, q _ F H1 (Same.refl _) (R.push (Gr.refl R.fh) (.bl (!c)))⟩) (rd_bindB (fun s en hs => by
      split
      · exact (hs _ (by assumption)).elim
      · rfl) h)
end
end Sh
set_option Elab.async false
set_option linter.all false
set_option maxRecDepth 100000
set_option autoImplicit false
/-! own layer 3: statements, targets, loops, comprehensions -/
namespace Sh
open PySem PySem.Spec PyProof.Rows L2

inductive Fl where
  | nx
  | rt (s : Sl)
abbrev MS := En → Rs (Fl × En)
section
variable (G : Gx)
def Kp (σ σ' : L2.St) : Prop := G.p0 = true → σ'[0]? = σ[0]?
def PostS (F Fo : Hp) (σ : L2.St) (D : Ends) : Rs (Fl × En) → Prop
  | .ok (.nx, en') => ∀ σ' F' H', Same F F' → StR G.w F' Fo H' σ' en' → Kp G σ σ' → D.nx σ' H'
  | .ok (.rt s, en') => ∀ x σ' F' H', Same F F' → StR G.w F' Fo H' (some x :: σ') (s :: en') → Kp G σ σ' → D.rt x H'
  | .ex e => PostX G F Fo e
  | .bad => False
def rdS (m : MS) : TS := fun D σ H => ∃ F Fo en, StR G.w F Fo H σ en ∧ PostS G F Fo σ D (m en)
end
section
variable {G : Gx} {F F1 Fo : Hp} {σ σ1 : L2.St} {H : Hp} {D : Ends}
theorem Kp.refl : Kp G σ σ := fun _ => rfl
theorem Kp.trans {σ2 : L2.St} (a : Kp G σ σ1) (b : Kp G σ1 σ2) : Kp G σ σ2 := fun h => (b h).trans (a h)
theorem Kp.set {i : Nat} {v : Option V} (h : (G.p0 && i == 0) = false) : Kp G σ (σ.set i v) := fun hp => by
  rw [hp, Bool.true_and] at h
  have : i ≠ 0 := by simpa using h
  rw [List.getElem?_set_ne this]
theorem PostS.mono {r : Rs (Fl × En)} (s : Same F F1) (k : Kp G σ σ1) (h : PostS G F Fo σ D r) : PostS G F1 Fo σ1 D r := by
  cases r with
  | ok p =>
    obtain ⟨f, en⟩ := p
    cases f with
    | nx => exact fun σ' F' H' h1 h2 h3 => h σ' F' H' (s.trans h1) h2 (k.trans h3)
    | rt v => exact fun x σ' F' H' h1 h2 h3 => h x σ' F' H' (s.trans h1) h2 (k.trans h3)
  | ex e => exact PostX.mono s (Same.refl _) h
  | bad => exact h
/-- an expression, then the rest -/
theorem rd_bindES {m : ME} {k : Sl × En → Rs (Fl × En)} (h : rdS G (fun en => (m en).bind k) D σ H) :
    rdE G m σ H fun x H1 => ∃ F Fo s en, StR G.w F Fo H1 (some x :: σ) (s :: en) ∧ PostS G F Fo σ D (k (s, en)) := by
  obtain ⟨F, Fo, en, R, h⟩ := h
  refine ⟨F, Fo, en, R, ?_⟩
  cases hm : m en with
  | bad => simp only [hm] at h; exact h.elim
  | ex e => simp only [hm] at h; exact h
  | ok p =>
    simp only [hm] at h
    exact fun x F1 H1 s1 R1 => ⟨F1, Fo, p.1, p.2, R1, PostS.mono s1 Kp.refl h⟩
theorem rd_bindTS {m : MT} {k : Bool × En → Rs (Fl × En)} (h : rdS G (fun en => (m en).bind k) D σ H) :
    rdT G m σ H fun c H1 => ∃ F Fo en, StR G.w F Fo H1 σ en ∧ PostS G F Fo σ D (k (c, en)) := by
  obtain ⟨F, Fo, en, R, h⟩ := h
  refine ⟨F, Fo, en, R, ?_⟩
  cases hm : m en with
  | bad => simp only [hm] at h; exact h.elim
  | ex e => simp only [hm] at h; exact h
  | ok p =>
    simp only [hm] at h
    exact fun F1 H1 s1 R1 => ⟨F1, Fo, p.2, R1, PostS.mono s1 Kp.refl h⟩
end
def mSeq (m n : MS) : MS := fun en => (m en).bind fun p => match p.1 with
  | .nx => n p.2
  | .rt s => .ok (.rt s, p.2)
def mSkip : MS := fun en => .ok (.nx, en)
def mSet (i : Nat) (m : ME) : MS := fun en => (m en).bind fun p => .ok (.nx, p.2.set i p.1)
def mDo (m : ME) : MS := fun en => (m en).bind fun p => .ok (.nx, p.2)
def mRet (m : ME) : MS := fun en => (m en).bind fun p => .ok (.rt p.1, p.2)
/-- return of a name: what is owned is handed over -/
def mMove (i : Nat) : ME := fun en => match sget en i with
  | .no => .bad
  | .fz d => .ok (.fz d, en)
  | .ow d => .ok (.ow d, en.set i .no)
def mCond (c : MT) (m n : MS) : MS := fun en => (c en).bind fun p => if p.1 = true then m p.2 else n p.2
section
variable {X : Cx} {G : Gx} {pos p : Pos} {e a b c : Expr} {st : Stmt} {sts : List Stmt}
theorem rd_seq {m n : MS} {σ : L2.St} {H : Hp} {D : Ends} (h : rdS G (mSeq m n) D σ H) : rdS G m { D with nx := rdS G n D } σ H := by
  obtain ⟨F, Fo, en, R, h⟩ := h
  refine ⟨F, Fo, en, R, ?_⟩
  unfold mSeq at h
  cases hm : m en with
  | bad => simp only [hm] at h; exact h.elim
  | ex e => simp only [hm] at h; exact h
  | ok p =>
    obtain ⟨f, en1⟩ := p
    simp only [hm, Rs.bind] at h
    cases f with
    | nx => exact fun σ' F' H' h1 h2 h3 => ⟨F', Fo, en1, h2, PostS.mono h1 h3 h⟩
    | rt s => exact h
theorem ss_cons {m n : MS} (h1 : PS X st (rdS G m)) (h2 : PSs X sts (rdS G n)) : PSs X (st :: sts) (rdS G (mSeq m n)) := (pss_cons h1 h2).byR fun _ _ _ h => rd_seq h
theorem ss_one {m : MS} (h1 : PS X st (rdS G m)) : PSs X [st] (rdS G m) := pss_one h1
theorem rd_skip {σ : L2.St} {H : Hp} {D : Ends} (h : rdS G mSkip D σ H) : D.nx σ H := by
  obtain ⟨F, Fo, en, R, h⟩ := h
  exact h σ F H (Same.refl _) R Kp.refl
theorem ss_nil : PSs X [] (rdS G mSkip) := pss_nil.byR fun _ _ _ h => rd_skip h
theorem ss_pass : PS X (.Pass pos) (rdS G mSkip) := ps_pass.byR fun _ _ _ h => rd_skip h
def mNever : MS := fun _ => .bad
theorem ss_never : PS X st (rdS G mNever) := ps_never.byR fun _ _ _ h => by
  obtain ⟨F, Fo, en, R, h⟩ := h
  exact h
theorem rd_set {i : Nat} {m : ME} {σ : L2.St} {H : Hp} {D : Ends} (h0 : (G.p0 && i == 0) = false) (h : rdS G (mSet i m) D σ H) : rdE G m σ H fun x H1 => D.nx (σ.set i (some x)) H1 :=
  rdE_imp (fun x H1 q => by
    obtain ⟨F, Fo, s, en, R, q⟩ := q
    exact q _ F H1 (Same.refl _) (R.set i) (Kp.set h0)) (rd_bindES h)
theorem ss_set {i : Nat} {x : Str} {m : ME} {pos' : Pos} (hN : X.N.Nodup) (hi : X.N[i]? = some x) (hx : Loc X.env.scope x) (he : PE X e (rdE G m)) (hs : swapsWith e (some (.Name x pos')) pos.line X.env = pure false := by rfl) (h0 : (G.p0 && i == 0) = false := by rfl) (hf : X.fn x = true ∨ X.env.scope.names.lookup x = some .local := by first | exact .inl rfl | exact .inr rfl | assumption) :
    PS X (.Assign [.Name x pos'] e pos) (rdS G (mSet i m)) := (ps_set hN hi hx he hs hf).byR fun _ _ _ h => rd_set h0 h
theorem ss_do {m : ME} (he : PE X e (rdE G m)) (hs : swapsWith e none pos.line X.env = pure false := by rfl) : PS X (.Expr e pos) (rdS G (mDo m)) :=
  (ps_expr he hs).byR fun σ H D h => rdE_imp (fun x H1 q => by
    obtain ⟨F, Fo, s, en, R, q⟩ := q
    exact q _ F H1 (Same.refl _) R.pop Kp.refl) (rd_bindES h)
theorem ss_ret {m : ME} (he : PE X e (rdE G m)) : PS X (.Return (some e) pos) (rdS G (mRet m)) :=
  (ps_ret he).byR fun σ H D h => rdE_imp (fun x H1 q => by
    obtain ⟨F, Fo, s, en, R, q⟩ := q
    exact q _ _ F H1 (Same.refl _) R Kp.refl) (rd_bindES h)
theorem s_move {i : Nat} (h : PE X e (tVar i)) (hr : PS X (.Return (some e) pos) (tRet (tVar i))) : PS X (.Return (some e) pos) (rdS G (mRet (mMove i))) := hr.byR fun σ H D h => by
  obtain ⟨F, Fo, en, R, h⟩ := h
  unfold mRet mMove at h
  cases hs : sget en i with
  | no => simp only [hs] at h; exact h.elim
  | fz d =>
    simp only [hs] at h
    obtain ⟨v, e, q⟩ := R.fz (sget_eq hs (by simp))
    exact ⟨v, e, h v σ F H (Same.refl _) (R.push (Gr.refl R.fh) q) Kp.refl⟩
  | ow d =>
    simp only [hs] at h
    have hi := sget_eq hs (by simp)
    obtain ⟨a, e, q⟩ := R.ow hi
    refine ⟨_, e, h _ σ F H (Same.refl _) ?_ Kp.refl⟩
    have R' := R.drop i (some (.ref a))
    have es : σ.set i (some (.ref a)) = σ := by
      apply List.ext_getElem?
      intro j
      by_cases hj : i = j
      · subst hj; rw [List.getElem?_set_self', e]; rfl
      · rw [List.getElem?_set_ne hj]
    rw [es] at R'
    have hil : i < en.length := (List.getElem?_eq_some_iff.mp hi).1
    have old : ∀ (j : Nat) (t : Sl), t ≠ .no → (en.set i .no)[j]? = some t → j ≠ i ∧ en[j]? = some t := fun j t ht h => by
      by_cases hj : i = j
      · subst hj
        rw [List.getElem?_set_self hil] at h
        exact (ht (Option.some.inj h).symm).elim
      · rw [List.getElem?_set_ne hj] at h
        exact ⟨fun z => hj z.symm, h⟩
    refine ⟨R'.fh, R'.oh, R'.dj, by simp [R'.len, ← R.len], fun j t ov h1 h2 => ?_, fun j k b dj dk hne h1 h2 h3 h4 => ?_, fun j dj b h1 h2 => ?_⟩
    · cases j with
      | zero => simp at h1 h2; subst h1; subst h2; exact ⟨a, rfl, q⟩
      | succ j => exact R'.sl j t ov (by simpa using h1) (by simpa using h2)
    · cases j with
      | zero =>
        cases k with
        | zero => exact hne rfl
        | succ k =>
          simp at h1 h2 h3 h4
          obtain ⟨hk, h2⟩ := old k _ (by simp) h2
          subst h3
          exact R.ap k i a dk d hk h2 hi h4 e
      | succ j =>
        cases k with
        | zero =>
          simp at h1 h2 h3 h4
          obtain ⟨hj, h1⟩ := old j _ (by simp) h1
          subst h4
          exact R.ap j i a dj d hj h1 hi h3 e
        | succ k => exact R'.ap j k b dj dk (fun z => hne (by rw [z])) (by simpa using h1) (by simpa using h2) (by simpa using h3) (by simpa using h4)
    · cases j with
      | zero => simp at h1 h2; subst h2; exact R.fo i d a hi e
      | succ j => exact R'.fo j dj b (by simpa using h1) (by simpa using h2)
theorem ss_move {i : Nat} (h : PE X e (tVar i)) : PS X (.Return (some e) pos) (rdS G (mRet (mMove i))) := s_move h (ps_ret h)
theorem ss_if {m : MT} {m1 m2 : MS} {st1 st2 : List Stmt} (hc : PT X c (rdT G m)) (ha : PSs X st1 (rdS G m1)) (hb : PSs X st2 (rdS G m2)) : PS X (.If c st1 st2 pos) (rdS G (mCond m m1 m2)) :=
  (ps_if hc ha hb).byR fun σ H D h => rdT_imp (fun c H1 q => by
    obtain ⟨F, Fo, en, R, q⟩ := q
    cases c with
    | true => exact ⟨F, Fo, en, R, q⟩
    | false => exact ⟨F, Fo, en, R, q⟩) (rd_bindTS h)
end

/-! ### targets -/
inductive Tg where
  | nm (i : Nat)
  | tp (ts : List Tg)
mutual
def asg : Tg → Da → En → Option En
  | .nm i, d, en => some (en.set i (.fz d))
  | .tp ts, .tuple ds, en => asgL ts ds en
  | .tp _, _, _ => none
def asgL : List Tg → List Da → En → Option En
  | [], [], en => some en
  | t :: ts, d :: ds, en => (asg t d en).bind fun en1 => asgL ts ds en1
  | _, _, _ => none
end
mutual
def Tg.slots : Tg → List Nat
  | .nm i => [i]
  | .tp ts => slotsL ts
def slotsL : List Tg → List Nat
  | [] => []
  | t :: ts => t.slots ++ slotsL ts
end
/-- agreement but at some places -/
def Bt (is : List Nat) (σ σ' : L2.St) : Prop := σ'.length = σ.length ∧ ∀ j, j ∉ is → σ'[j]? = σ[j]?
theorem Bt.refl {is : List Nat} {σ : L2.St} : Bt is σ σ := ⟨rfl, fun _ _ => rfl⟩
theorem Bt.trans {is js : List Nat} {σ σ1 σ2 : L2.St} (a : Bt is σ σ1) (b : Bt js σ1 σ2) : Bt (is ++ js) σ σ2 :=
  ⟨b.1.trans a.1, fun j h => by
    simp only [List.mem_append, not_or] at h
    rw [b.2 j h.2, a.2 j h.1]⟩
section
variable (G : Gx)
def rdG (t : Tg) : TG := fun v σ H Q => ∃ F Fo en d en', StR G.w F Fo H σ en ∧ Dn G.w F v d ∧ asg t d en = some en' ∧ ∀ σ', StR G.w F Fo H σ' en' → Bt t.slots σ σ' → Q σ' H
def rdGs (ts : List Tg) : TGs := fun vs σ H Q => ∃ F Fo en ds en', StR G.w F Fo H σ en ∧ DnAll G.w F vs ds ∧ asgL ts ds en = some en' ∧ ∀ σ', StR G.w F Fo H σ' en' → Bt (slotsL ts) σ σ' → Q σ' H
end
theorem _root_.L2.PG.byR {X : Cx} {e : Expr} {t t' : TG} (h : PG X e t) (k : ∀ v σ H Q, t' v σ H Q → t v σ H Q) : PG X e t' := ⟨fun pins s σ H v u Q I r q => h.run pins s σ H v u Q I r (k v σ H Q q)⟩
theorem _root_.L2.PGs.byR {X : Cx} {e : List Expr} {t t' : TGs} (h : PGs X e t) (k : ∀ v σ H Q, t' v σ H Q → t v σ H Q) : PGs X e t' := ⟨fun pins s σ H v u Q I r q => h.run pins s σ H v u Q I r (k v σ H Q q)⟩
section
variable {X : Cx} {G : Gx} {pos p : Pos} {e : Expr} {es : List Expr}
theorem g_nm {i : Nat} {x : Str} (hN : X.N.Nodup) (hi : X.N[i]? = some x) (hx : Loc X.env.scope x) (hf : X.fn x = true ∨ X.env.scope.names.lookup x = some .local := by first | exact .inl rfl | exact .inr rfl | assumption) : PG X (.Name x pos) (rdG G (.nm i)) :=
  (pg_name hN hi hx hf).byR fun v σ H Q h => by
    obtain ⟨F, Fo, en, d, en', R, q, ha, h⟩ := h
    simp only [asg, Option.some.injEq] at ha
    subst ha
    refine h _ ((R.push (Gr.refl R.fh) (s := .fz d) q).set i) ⟨by simp, fun j hj => ?_⟩
    have : i ≠ j := fun z => hj (by simp [Tg.slots, z])
    rw [List.getElem?_set_ne this]
theorem gs_nil : PGs X [] (rdGs G []) := pgs_nil.byR fun v σ H Q h => by
  obtain ⟨F, Fo, en, ds, en', R, q, ha, h⟩ := h
  cases ds with
  | nil => cases q; simp only [asgL, Option.some.injEq] at ha; subst ha; exact ⟨rfl, h σ R Bt.refl⟩
  | cons d ds => simp [asgL] at ha
theorem gs_cons {t : Tg} {ts : List Tg} (h1 : PG X e (rdG G t)) (h2 : PGs X es (rdGs G ts)) (hs : (assignEach (e :: es) X.env).map (·.2) = assign e X.env :: (assignEach es X.env).map (·.2) := by rfl) : PGs X (e :: es) (rdGs G (t :: ts)) :=
  (pgs_cons h1 h2 hs).byR fun v σ H Q h => by
    obtain ⟨F, Fo, en, ds, en', R, q, ha, h⟩ := h
    cases ds with
    | nil => simp [asgL] at ha
    | cons d ds =>
      cases q with
      | cons q1 q2 =>
        unfold asgL at ha
        cases h1 : asg t d en with
        | none => rw [h1] at ha; cases ha
        | some en1 =>
          rw [h1] at ha
          refine ⟨_, _, rfl, F, Fo, en, d, en1, R, q1, h1, fun σ1 R1 b1 => ?_⟩
          exact ⟨F, Fo, en1, ds, en', R1, q2, ha, fun σ2 R2 b2 => h σ2 R2 (b1.trans b2)⟩
theorem asgL_len : ∀ {ts : List Tg} {ds : List Da} {en en' : En}, asgL ts ds en = some en' → ds.length = ts.length
  | [], [], _, _, _ => rfl
  | [], _ :: _, _, _, h => by simp [asgL] at h
  | _ :: _, [], _, _, h => by simp [asgL] at h
  | t :: ts, d :: ds, en, en', h => by
    unfold asgL at h
    cases h1 : asg t d en with
    | none => rw [h1] at h; cases h
    | some en1 => rw [h1] at h; simp [asgL_len h]
theorem g_tp {ts : List Tg} {k n : Nat} (hc : X.calm = true) (h : PGs X es (rdGs G ts)) (hl : ts.length = n) (hn : (assignEach es X.env).length = n := by rfl) (hst : (assignEach es X.env).findIdx? (·.1) = none := by rfl) : PG X (.Tuple es k pos) (rdG G (.tp ts)) :=
  (pg_tup hc h hn hst).byR fun v σ H Q h => by
    obtain ⟨F, Fo, en, d, en', R, q, ha, h⟩ := h
    cases d with
    | tuple ds =>
      cases q with
      | tup r q =>
        refine ⟨_, _, rfl, .inl (Rd.mono R.fh r), ?_, F, Fo, en, ds, en', R, q, ha, h⟩
        rw [q.length, ← hl]
        exact asgL_len ha
    | none => simp [asg] at ha
    | bool _ => simp [asg] at ha
    | int _ => simp [asg] at ha
    | str _ => simp [asg] at ha
    | list _ => simp [asg] at ha
    | dict _ => simp [asg] at ha
/-- target = value (no display on the right) -/
def mAsg (t : Tg) (m : ME) : MS := fun en => (m en).bind fun p => match p.1.dat with
  | none => .bad
  | some d => match asg t d p.2 with
    | none => .bad
    | some en' => .ok (.nx, en')
def noZero (G : Gx) (t : Tg) : Bool := !(G.p0 && t.slots.contains 0)
theorem Kp.bt {t : Tg} {σ σ' : L2.St} (h : noZero G t = true) (b : Bt t.slots σ σ') : Kp G σ σ' := fun hp => b.2 0 (by
  unfold noZero at h
  rw [hp, Bool.true_and] at h
  simpa using h)
theorem ss_asg {t : Tg} {m : ME} {tg : Expr} (he : PE X e (rdE G m)) (hg : PG X tg (rdG G t)) (hs : swapsWithSole [tg] e pos.line X.env = pure false := by rfl) (hw : swappedStores [tg] e X.env = pure none := by rfl)
    (h1 : (assignEach [tg] X.env).map (·.2) = [assign tg X.env] := by rfl) (h0 : noZero G t = true := by rfl) : PS X (.Assign [tg] e pos) (rdS G (mAsg t m)) :=
  (ps_asg he hg hs hw h1).byR fun σ H D h => rdE_imp (fun x H1 q => by
    obtain ⟨F, Fo, s, en, R, q⟩ := q
    dsimp only at q
    cases hd : s.dat with
    | none => rw [hd] at q; exact q.elim
    | some d =>
      rw [hd] at q
      obtain ⟨F2, s2, R2, q2⟩ := R.freezeTop hd
      dsimp only at q
      cases ha : asg t d en with
      | none => rw [ha] at q; exact q.elim
      | some en' =>
        rw [ha] at q
        exact ⟨F2, Fo, en, d, en', R2.pop, q2, ha, fun σ' R' b => q σ' F2 H1 s2 R' (Kp.bt h0 b)⟩) (rd_bindES h)
end

/-! ### what is walked -/
/-- J yields the items while the sources stand -/
def ItD (w : World) (src : List V) (ds items : List Da) (J : It) : Prop := ∀ F H, Same F H → Dn1s w F H src ds → ∀ i,
  (∀ d, items[i]? = some d → J.go i H ∧ ∀ x H', J.yld i H x H' → ∃ F', Gr F H F' H' ∧ Dn w F' x d) ∧ (items.length ≤ i → J.stop i H)
structure ItM where
  ops : List Opd
  items : List Da → Option (List Da)
section
variable (G : Gx)
def rdI (it : ItM) : TI := fun σ H R => ∃ F Fo en, StR G.w F Fo H σ en ∧ match evalOps it.ops en with
  | .ok (os, en') => match (resAll en' os).bind it.items with
    | none => False
    | some items => ∃ ds, resAll en' os = some ds ∧ ∀ xs F' H' J, Same F F' → StR G.w F' Fo H' σ en' → OpRel G.w F' σ xs os → ItD G.w xs ds items J → R J H'
  | .ex e => PostX G F Fo e
  | .bad => False
end
theorem _root_.L2.PI.byR {X : Cx} {tg e : Expr} {t t' : TI} (h : PI X tg e t) (k : ∀ σ H Q, t' σ H Q → t σ H Q) : PI X tg e t' := ⟨fun pins s σ H Q I q => h.run pins s σ H Q I (k σ H Q q)⟩
open Classical in
noncomputable def forL (os : List Op) (ds : List Da) (t : Tg) (body : MS) : List Da → En → Rs (Fl × En)
  | [], en => if resAll en os = some ds then .ok (.nx, en) else .bad
  | d :: r, en => if resAll en os = some ds then match asg t d en with
      | none => .bad
      | some en1 => (body en1).bind fun p => match p.1 with
        | .nx => forL os ds t body r p.2
        | .rt s => .ok (.rt s, p.2)
    else .bad
noncomputable def mFor (it : ItM) (t : Tg) (body : MS) : MS := fun en => (evalOps it.ops en).bind fun p => match resAll p.2 p.1 with
  | none => .bad
  | some ds => match it.items ds with
    | none => .bad
    | some items => forL p.1 ds t body items p.2
section
variable {X : Cx} {G : Gx} {pos p : Pos} {e iter tg : Expr} {es : List Expr} {sts : List Stmt}
theorem OpRel.mono {w : World} {F F' : Hp} {σ : L2.St} (s : Same F F') : ∀ {xs : List V} {os : List Op}, OpRel w F σ xs os → OpRel w F' σ xs os
  | _, _, .nil => .nil
  | _, _, .cons (o := o) h t => .cons (by cases o with | «at» i => exact h | va d => exact Dn.mono s h) (t.mono s)
/-- places that the sources name -/
def atSlots : List Op → List Nat
  | [] => []
  | .at i :: r => i :: atSlots r
  | .va _ :: r => atSlots r
theorem src_keep {w : World} {F Fo F' H' : Hp} {σ σ' : L2.St} {en' : En} (R' : StR w F' Fo H' σ' en') (s : Same F F') : ∀ {os : List Op} {xs : List V} {ds : List Da}, OpRel w F σ xs os → resAll en' os = some ds → (∀ i ∈ atSlots os, σ'[i]? = σ[i]?) → Dn1s w F' H' xs ds := fun {os xs ds} h e k => by
  refine resAll_dn R' (os := os) ?_ e
  clear e
  induction h with
  | nil => exact .nil
  | @cons x o xs os h1 h2 ih =>
    cases o with
    | «at» i =>
      refine .cons ?_ (ih fun j hj => k j (by simp [atSlots, hj]))
      exact (k i (by simp [atSlots])).trans h1
    | va d => exact .cons (Dn.mono s h1) (ih fun j hj => k j (by simpa [atSlots] using hj))
/-- the sources' slots are left alone (those of a for's own body and target: no name is walked that is stored) -/
theorem rd_for {it : ItM} {t : Tg} {m : MS} (hsrc : ∀ en os en', evalOps it.ops en = .ok (os, en') → atSlots os = []) (h0 : noZero G t = true) {σ : L2.St} {H : Hp} {D : Ends} (h : rdS G (mFor it t m) D σ H) : tFor (rdI G it) (rdG G t) (rdS G m) D σ H := by
  obtain ⟨F, Fo, en, R, h⟩ := h
  refine ⟨F, Fo, en, R, ?_⟩
  unfold mFor at h
  cases hr : evalOps it.ops en with
  | bad => simp only [hr] at h; exact h.elim
  | ex e => simp only [hr] at h; exact h
  | ok p =>
    obtain ⟨os, en1⟩ := p
    have hat := hsrc _ _ _ hr
    simp only [hr, Rs.bind] at h ⊢
    cases hd : resAll en1 os with
    | none => simp only [hd] at h; exact h.elim
    | some ds =>
      simp only [hd, Option.bind_some] at h ⊢
      cases hit : it.items ds with
      | none => simp only [hit] at h; exact h.elim
      | some items =>
        simp only [hit] at h ⊢
        refine ⟨ds, rfl, fun xs F1 H1 J s1 R1 rel hJ => ?_⟩
        refine ⟨fun i k σ' H' => k = items.length - i ∧ i ≤ items.length ∧ ∃ F' en', Same F1 F' ∧ StR G.w F' Fo H' σ' en' ∧ Kp G σ σ' ∧ PostS G F' Fo σ' D (forL os ds t m (items.drop i) en'), ⟨items.length, by simp, Nat.zero_le _, F1, en1, Same.refl _, R1, Kp.refl, PostS.mono s1 Kp.refl h⟩, ?_⟩
        rintro i k σ' H' ⟨rfl, hi, F', en', s', R', kp, post⟩
        by_cases hlt : i < items.length
        · have hx : items[i]? = some items[i] := List.getElem?_eq_getElem hlt
          have hdrop : items.drop i = items[i] :: items.drop (i + 1) := List.drop_eq_getElem_cons hlt
          rw [hdrop] at post
          unfold forL at post
          split at post
          case isFalse => exact post.elim
          case isTrue hlive =>
            have src := src_keep R' s' rel hlive (by rw [hat]; intro i hi; cases hi)
            obtain ⟨go, yl⟩ := (hJ F' H' R'.fh src i).1 _ hx
            cases ha : asg t items[i] en' with
            | none => rw [ha] at post; exact post.elim
            | some en2 =>
              rw [ha] at post
              refine .inr ⟨go, fun σ2 H2 => ∃ F2 en3, Same F1 F2 ∧ StR G.w F2 Fo H2 σ2 en3 ∧ Kp G σ σ2 ∧ PostS G F2 Fo σ2 D (forL os ds t m (items.drop (i + 1)) en3), fun σ2 H2 hN => ⟨items.length - (i + 1), by omega, rfl, hlt, hN⟩, fun x H2 hy => ?_⟩
              obtain ⟨F2, g2, q2⟩ := yl x H2 hy
              have R2 := R'.grow g2
              refine ⟨F2, Fo, en', items[i], en2, R2, q2, ha, fun σ3 R3 b3 => ?_⟩
              have kp3 : Kp G σ' σ3 := Kp.bt h0 b3
              refine ⟨F2, Fo, en2, R3, ?_⟩
              have post' := PostS.mono g2.ff kp3 post
              cases hm : m en2 with
              | bad => simp only [hm, Rs.bind] at post'; exact post'.elim
              | ex e => simp only [hm, Rs.bind] at post'; exact post'
              | ok p =>
                obtain ⟨f, en3⟩ := p
                simp only [hm, Rs.bind] at post'
                cases f with
                | nx => exact fun σ4 F4 H4 s4 R4 k4 => ⟨F4, en3, s'.trans (g2.ff.trans s4), R4, kp.trans (kp3.trans k4), PostS.mono s4 k4 post'⟩
                | rt s => exact post'
        · have e : i = items.length := by omega
          subst e
          rw [List.drop_length] at post
          unfold forL at post
          split at post
          case isFalse => exact post.elim
          case isTrue hlive =>
            have src := src_keep R' s' rel hlive (by rw [hat]; intro i hi; cases hi)
            exact .inl ⟨(hJ F' H' R'.fh src items.length).2 (Nat.le_refl _), post σ' F' H' (Same.refl _) R' Kp.refl⟩
theorem ss_for {it : ItM} {t : Tg} {m : MS} (hp : PassesOwn (model X.prog X.w) X.A X.env X.xe) (hc : X.calm = true) (hi : PI X tg iter (rdI G it)) (hg : PG X tg (rdG G t)) (hb : PSs X sts (rdS G m))
    (hsrc : ∀ en os en', evalOps it.ops en = .ok (os, en') → atSlots os = []) (h0 : noZero G t = true := by rfl) (hs : ∀ x, foldedSetIterable iter X.env x = pure x := by intro _; rfl) : PS X (.For tg iter sts [] pos) (rdS G (mFor it t m)) :=
  (ps_for hp hc hi hg hb hs).byR fun _ _ _ h => rd_for hsrc h0 h
theorem noAt : ∀ (ms : List ME) (en : En) (os : List Op) (en' : En), evalOps (exs ms) en = .ok (os, en') → atSlots os = []
  | [], _, _, _, h => by cases h; rfl
  | m :: ms, en, os, en', h => by
    unfold exs evalOps at h
    cases hm : m en with
    | bad => rw [hm] at h; cases h
    | ex x => rw [hm] at h; cases h
    | ok q =>
      rw [hm] at h
      simp only [Rs.bind] at h
      cases hd : q.1.dat with
      | none => rw [hd] at h; cases h
      | some d =>
        rw [hd] at h
        cases hr : evalOps (exs ms) q.2 with
        | bad => simp only [hr] at h; cases h
        | ex x => simp only [hr] at h; cases h
        | ok p =>
          simp only [hr] at h
          cases h
          exact noAt ms q.2 p.1 p.2 hr
end
end Sh
set_option Elab.async false
set_option linter.all false
set_option maxRecDepth 100000
set_option autoImplicit false
/-! own layer 4: list comprehensions, stores to owned cells, displays taken apart -/
namespace Sh
open PySem PySem.Spec PyProof.Rows L2

section
variable {w : World} {F Fo H F' H' : Hp} {σ : L2.St} {en : En}
/-- an owned cell is written -/
theorem StR.write (R : StR w F Fo H σ en) {i : Nat} {d d' : Da} {a : Addr} {o : HO} (hi : en[i]? = some (.ow d)) (ha : σ[i]? = some (some (.ref a)))
    (new : ∀ H' : Hp, H' a = some o → Ow w F H' a d') : StR w F Fo (upd H a o) σ (en.set i (.ow d')) := by
  obtain ⟨a', e, q⟩ := R.ow hi
  rw [ha] at e; cases e
  have hFo : Fo a = none := R.fo i d a hi ha
  have hil : i < en.length := (List.getElem?_eq_some_iff.mp hi).1
  have old : ∀ (j : Nat) (t : Sl), (en.set i (.ow d'))[j]? = some t → (j = i ∧ t = .ow d') ∨ (j ≠ i ∧ en[j]? = some t) := fun j t h => by
    by_cases hj : i = j
    · subst hj
      rw [List.getElem?_set_self hil] at h
      cases h; exact .inl ⟨rfl, rfl⟩
    · rw [List.getElem?_set_ne hj] at h
      exact .inr ⟨fun e => hj e.symm, h⟩
  refine ⟨fun b u e => ?_, fun b u e => ?_, R.dj, by simp [R.len], fun j t ov h1 h2 => ?_, fun j k b dj dk hne h1 h2 h3 h4 => ?_, fun j dj b h1 h2 => ?_⟩
  · have hb : b ≠ a := fun z => by subst z; rw [q.1] at e; cases e
    rw [upd_ne hb]; exact R.fh b u e
  · have hb : b ≠ a := fun z => by subst z; rw [hFo] at e; cases e
    rw [upd_ne hb]; exact R.oh b u e
  · rcases old j t h1 with ⟨rfl, rfl⟩ | ⟨hj, h1⟩
    · rw [ha] at h2; cases h2
      exact ⟨a, rfl, new _ upd_same⟩
    · have q' := R.sl j t ov h1 h2
      cases t with
      | no => trivial
      | fz d' => exact q'
      | ow d'' =>
        obtain ⟨b, e, q'⟩ := q'
        subst e
        have hb : b ≠ a := fun e => by subst e; exact R.ap j i b d'' d hj h1 hi h2 ha
        exact ⟨b, rfl, q'.move (Same.refl _) q'.1 fun o e => by rw [upd_ne hb]; exact e⟩
  · have g : ∀ (j : Nat) (dj : Da), (en.set i (.ow d'))[j]? = some (.ow dj) → ∃ d0, en[j]? = some (.ow d0) := fun j dj h => by
      rcases old j _ h with ⟨rfl, _⟩ | ⟨_, h⟩
      · exact ⟨d, hi⟩
      · exact ⟨dj, h⟩
    obtain ⟨_, h1⟩ := g j dj h1
    obtain ⟨_, h2⟩ := g k dk h2
    exact R.ap j k b _ _ hne h1 h2 h3 h4
  · rcases old j _ h1 with ⟨rfl, _⟩ | ⟨_, h1⟩
    · rw [ha] at h2; cases h2; exact hFo
    · exact R.fo j dj b h1 h2
def wipeE (en : En) : List Nat → En
  | [] => en
  | v :: vs => (wipeE en vs).set v .no
theorem StR.wipe (R : StR w F Fo H σ en) : ∀ vs : List Nat, StR w F Fo H (L2.wipe σ vs) (wipeE en vs)
  | [] => R
  | v :: vs => (StR.wipe R vs).drop v none
def frzE (en : En) : List Nat → En
  | [] => en
  | v :: vs => match sget (frzE en vs) v with
    | .ow d => (frzE en vs).set v (.fz d)
    | _ => frzE en vs
theorem StR.frz (R : StR w F Fo H σ en) : ∀ vs : List Nat, ∃ F', Same F F' ∧ StR w F' Fo H σ (frzE en vs)
  | [] => ⟨F, Same.refl _, R⟩
  | v :: vs => by
    obtain ⟨F1, s1, R1⟩ := StR.frz R vs
    unfold frzE
    split
    · rename_i d hs
      have hi := sget_eq hs (by simp)
      obtain ⟨a, e, _⟩ := R1.ow hi
      obtain ⟨F2, s2, _, R2, _⟩ := R1.freeze hi e
      exact ⟨F2, s1.trans s2, R2⟩
    · exact ⟨F1, s1, R1⟩
theorem frzE_len : ∀ (en : En) (vs : List Nat), (frzE en vs).length = en.length
  | _, [] => rfl
  | en, v :: vs => by
    unfold frzE
    split
    · rw [List.length_set, frzE_len en vs]
    · exact frzE_len en vs
theorem frzE_no (en : En) : ∀ (vs : List Nat) (j : Nat) (d : Da), j ∈ vs → (frzE en vs)[j]? ≠ some (.ow d)
  | [], _, _, h, _ => by cases h
  | v :: vs, j, d, h, e => by
    unfold frzE at e
    by_cases hj : v = j
    · subst hj
      split at e
      · rename_i d' hs
        have := (List.getElem?_eq_some_iff.mp (sget_eq hs (by simp))).1
        rw [List.getElem?_set_self this] at e; cases e
      · rename_i hs
        exact hs d (by unfold sget; rw [List.getD_eq_getElem?_getD, e]; rfl)
    · have hj' : j ∈ vs := by
        rcases List.mem_cons.mp h with z | z
        · exact (hj z.symm).elim
        · exact z
      split at e
      · rw [List.getElem?_set_ne hj] at e
        exact frzE_no en vs j d hj' e
      · exact frzE_no en vs j d hj' e
def restE (en0 en : En) : List Nat → En
  | [] => en
  | v :: vs => (restE en0 en vs).set v (sget en0 v)
theorem restE_len (en0 en : En) : ∀ vs : List Nat, (restE en0 en vs).length = en.length
  | [] => rfl
  | v :: vs => by unfold restE; rw [List.length_set, restE_len en0 en vs]
theorem restE_get (en0 en : En) : ∀ (vs : List Nat) (j : Nat) (t : Sl), (restE en0 en vs)[j]? = some t → (j ∈ vs ∧ t = sget en0 j) ∨ (j ∉ vs ∧ en[j]? = some t)
  | [], j, t, h => .inr ⟨by simp, h⟩
  | v :: vs, j, t, h => by
    unfold restE at h
    by_cases hj : v = j
    · subst hj
      rw [List.getElem?_set_self'] at h
      cases e : (restE en0 en vs)[v]? with
      | none => rw [e] at h; cases h
      | some u => rw [e] at h; cases h; exact .inl ⟨by simp, rfl⟩
    · rw [List.getElem?_set_ne hj] at h
      rcases restE_get en0 en vs j t h with ⟨h1, h2⟩ | ⟨h1, h2⟩
      · exact .inl ⟨by simp [h1], h2⟩
      · exact .inr ⟨by simp [h1]; exact fun z => hj z.symm, h2⟩
/-- out of a block: its own slots are as they were -/
theorem StR.rest {en0 enw : En} {vs : List Nat} (hl : en0.length = σ.length) (hv : ∀ (j : Nat) (ov : Option V) (d : Da), j ∈ vs → σ[j]? = some ov → en0[j]? = some (.fz d) → ∃ v, ov = some v ∧ Dn w F' v d) (hno : ∀ (j : Nat) (d : Da), j ∈ vs → en0[j]? ≠ some (.ow d)) (R : StR w F' Fo H' (L2.wipe σ vs) enw) : StR w F' Fo H' σ (restE en0 enw vs) := by
  have lw : (L2.wipe σ vs).length = σ.length := wipe_length σ vs
  have out : ∀ j, j ∉ vs → (L2.wipe σ vs)[j]? = σ[j]? := fun j h => wipe_out h
  have len : enw.length = σ.length := R.len.trans lw
  have sg : ∀ (j : Nat) (ov : Option V), σ[j]? = some ov → en0[j]? = some (sget en0 j) := fun j ov h2 => by
    have hjl : j < en0.length := by
      rw [hl]
      exact (List.getElem?_eq_some_iff.mp h2).1
    unfold sget
    rw [List.getD_eq_getElem?_getD, List.getElem?_eq_getElem hjl]; rfl
  refine ⟨R.fh, R.oh, R.dj, by rw [restE_len, len], fun j t ov h1 h2 => ?_, fun j k a dj dk hne h1 h2 h3 h4 => ?_, fun j d a h1 h2 => ?_⟩
  · rcases restE_get en0 enw vs j t h1 with ⟨hj, rfl⟩ | ⟨hj, h1⟩
    · have e0 := sg j ov h2
      cases hs : sget en0 j with
      | no => trivial
      | fz d => exact hv j ov d hj h2 (by rw [e0, hs])
      | ow d => exact (hno j d hj (by rw [e0, hs])).elim
    · exact R.sl j t ov h1 (by rw [out j hj]; exact h2)
  · have g : ∀ (j : Nat) (dj : Da), (restE en0 enw vs)[j]? = some (.ow dj) → σ[j]? = some (some (.ref a)) → enw[j]? = some (.ow dj) ∧ (L2.wipe σ vs)[j]? = some (some (.ref a)) := fun j dj h h' => by
      rcases restE_get en0 enw vs j _ h with ⟨hj, e⟩ | ⟨hj, h⟩
      · exact (hno j dj hj (by rw [e]; exact sg j _ h')).elim
      · exact ⟨h, by rw [out j hj]; exact h'⟩
    obtain ⟨a1, a2⟩ := g j dj h1 h3
    obtain ⟨b1, b2⟩ := g k dk h2 h4
    exact R.ap j k a dj dk hne a1 b1 a2 b2
  · rcases restE_get en0 enw vs j _ h1 with ⟨hj, e⟩ | ⟨hj, h1⟩
    · exact (hno j d hj (by rw [e]; exact sg j _ h2)).elim
    · exact R.fo j d a h1 (by rw [out j hj]; exact h2)
end

theorem wipe_get {σ : L2.St} : ∀ {vs : List Nat} {j : Nat}, j ∈ vs → j < σ.length → (L2.wipe σ vs)[j]? = some none
  | [], _, h, _ => by cases h
  | v :: vs, j, h, hl => by
    unfold L2.wipe
    by_cases hj : v = j
    · subst hj
      rw [List.getElem?_set_self (by rw [wipe_length]; exact hl)]
    · rw [List.getElem?_set_ne hj]
      rcases List.mem_cons.mp h with z | z
      · exact (hj z.symm).elim
      · exact wipe_get z hl
/-- a block's state but for its own slots is what it was -/
theorem wipe_bt {σ σ2 : L2.St} {is vs : List Nat} (hs : ∀ i ∈ is, i ∈ vs) (b : Bt is (L2.wipe σ vs) σ2) : L2.wipe σ2 vs = L2.wipe σ vs := by
  have hl : σ2.length = σ.length := by rw [b.1, wipe_length]
  apply List.ext_getElem?
  intro j
  by_cases hj : j ∈ vs
  · by_cases hjl : j < σ.length
    · rw [wipe_get hj hjl, wipe_get hj (by omega)]
    · rw [List.getElem?_eq_none (by rw [wipe_length]; omega), List.getElem?_eq_none (by rw [wipe_length]; omega)]
  · rw [wipe_out hj, b.2 j fun z => hj (hs j z)]

/-! ### list comprehensions -/
def Gx.blk (G : Gx) : Gx := { G with EX := fun _ _ _ => False, p0 := false }
def noEx {α : Type} : Rs α → Rs α
  | .ok a => .ok a
  | _ => .bad
def mYes : MT := fun en => .ok (true, en)
open Classical in
noncomputable def lcL (os : List Op) (ds : List Da) (t : Tg) (tt : MT) (elt : ME) (vs : List Nat) : List Da → List Da → En → Rs (List Da × En)
  | [], acc, en => if resAll en os = some ds then .ok (acc, en) else .bad
  | d :: r, acc, en => if resAll en os = some ds then match asg t d en with
      | none => .bad
      | some en1 => (noEx (tt en1)).bind fun p => if p.1 = true then (noEx (elt p.2)).bind fun q => match q.1.dat with
          | none => .bad
          | some y => if acc.length < 1000000 then lcL os ds t tt elt vs r (acc ++ [y]) (wipeE q.2 vs) else .bad
        else lcL os ds t tt elt vs r acc (wipeE p.2 vs)
    else .bad
noncomputable def mLc (it : ItM) (t : Tg) (tt : MT) (elt : ME) (vs : List Nat) : ME := fun en => (evalOps it.ops en).bind fun p => match resAll p.2 p.1 with
  | none => .bad
  | some ds => match it.items ds with
    | none => .bad
    | some items => if (atSlots p.1).all (fun i => !vs.contains i) = true then (lcL p.1 ds t tt elt vs items [] (wipeE (frzE p.2 vs) vs)).bind fun q => .ok (.ow (.list q.1), restE (frzE p.2 vs) q.2 vs) else .bad
theorem million {n : Nat} (h : n < 1000000) : n < sizeLine := Nat.lt_trans h (by decide)
section
variable {X : Cx} {G : Gx} {pos p : Pos} {e iter tg elt : Expr} {es ifs : List Expr}
theorem rd_lc {it : ItM} {t : Tg} {tt : MT} {m : ME} {vs : List Nat} (hts : t.slots.all (fun i => vs.contains i) = true) {σ : L2.St} {H : Hp} {Q : VK} (h : rdE G (mLc it t tt m vs) σ H Q) :
    tLc (rdI G it) (rdG G.blk t) (rdT G.blk tt) (rdE G.blk m) vs σ H Q := by
  have hts' : ∀ i ∈ t.slots, i ∈ vs := fun i hi => by
    have := List.all_eq_true.mp hts i hi
    simpa using this
  obtain ⟨F, Fo, en, R, h⟩ := h
  refine ⟨F, Fo, en, R, ?_⟩
  unfold mLc at h
  cases hr : evalOps it.ops en with
  | bad => simp only [hr] at h; exact h.elim
  | ex e => simp only [hr] at h; exact h
  | ok p =>
    obtain ⟨os, en1⟩ := p
    simp only [hr, Rs.bind] at h ⊢
    cases hd : resAll en1 os with
    | none => simp only [hd] at h; exact h.elim
    | some ds =>
      simp only [hd, Option.bind_some] at h ⊢
      cases hit : it.items ds with
      | none => simp only [hit] at h; exact h.elim
      | some items =>
        simp only [hit] at h ⊢
        refine ⟨ds, rfl, fun xs F1 H1 J s1 R1 rel hJ => ?_⟩
        split at h
        case isFalse => exact h.elim
        case isTrue hat =>
        have hat' : ∀ i ∈ atSlots os, i ∉ vs := fun i hi => by
          have := List.all_eq_true.mp hat i hi
          simpa using this
        intro D hD
        obtain ⟨F2, s2, R2⟩ := R1.frz vs
        have hno := frzE_no en1 vs
        generalize frzE en1 vs = en0 at h R2 hno
        have Rw := R2.wipe vs
        have hFD : F2 D = none := R2.fh.free hD
        -- the new list is held on top
        have RD : StR G.w F2 Fo (upd H1 D (.lst [])) (some (.ref D) :: L2.wipe σ vs) (.ow (.list []) :: wipeE en0 vs) :=
          Rw.push (Gr.new R2.fh hD) ⟨D, rfl, hD, hFD, .inl ⟨[], [], rfl, upd_same, .nil⟩⟩
        have rel2 : OpRel G.w F2 σ xs os := rel.mono s2
        refine ⟨fun i k H' => k = items.length - i ∧ i ≤ items.length ∧ ∃ F' en' acc, Same F2 F' ∧ StR G.w F' Fo H' (some (.ref D) :: L2.wipe σ vs) (.ow (.list acc) :: en') ∧
          PostE G F Fo σ Q ((lcL os ds t tt m vs (items.drop i) acc en').bind fun q => .ok (.ow (.list q.1), restE en0 q.2 vs)), ⟨items.length, by simp, Nat.zero_le _, F2, _, [], Same.refl _, RD, h⟩, ?_⟩
        rintro i k H' ⟨rfl, hi, F', en', acc, s', R', post⟩
        have src : resAll en' os = some ds → Dn1s G.w F' H' xs ds := fun hl => src_keep R'.pop s' rel2 hl fun i hi => wipe_out (hat' i hi)
        by_cases hlt : i < items.length
        · have hx : items[i]? = some items[i] := List.getElem?_eq_getElem hlt
          have hdrop : items.drop i = items[i] :: items.drop (i + 1) := List.drop_eq_getElem_cons hlt
          rw [hdrop] at post
          unfold lcL at post
          split at post
          case isFalse => exact post.elim
          case isTrue hlive =>
            obtain ⟨go, yl⟩ := (hJ F' H' R'.fh (src hlive) i).1 _ hx
            cases ha : asg t items[i] en' with
            | none => rw [ha] at post; exact post.elim
            | some en2 =>
              rw [ha] at post
              dsimp only at post
              refine .inr ⟨go, fun H2 => ∃ F2' en3 acc', Same F2 F2' ∧ StR G.w F2' Fo H2 (some (.ref D) :: L2.wipe σ vs) (.ow (.list acc') :: en3) ∧
                PostE G F Fo σ Q ((lcL os ds t tt m vs (items.drop (i + 1)) acc' en3).bind fun q => .ok (.ow (.list q.1), restE en0 q.2 vs)), fun H2 hN => ⟨items.length - (i + 1), by omega, rfl, hlt, hN⟩, fun x H2 hy => ?_⟩
              obtain ⟨F3, g3, q3⟩ := yl x H2 hy
              have R3 := R'.grow g3
              obtain ⟨Fo3, R3h, so3, back⟩ := R3.hold
              refine ⟨F3, Fo3, en', items[i], en2, R3h, q3, ha, fun σ2 R4 b4 => ⟨wipe_bt hts' b4, ?_⟩⟩
              have hw := wipe_bt hts' b4
              refine ⟨F3, Fo3, en2, R4, ?_⟩
              cases htt : tt en2 with
              | bad => simp only [htt, noEx, Rs.bind] at post; exact post.elim
              | ex e => simp only [htt, noEx, Rs.bind] at post; exact post.elim
              | ok pb =>
                obtain ⟨bb, en3⟩ := pb
                simp only [htt, noEx, Rs.bind] at post
                intro F5 H5 s5 R5
                cases bb with
                | false =>
                  have R5w := R5.wipe vs
                  rw [hw] at R5w
                  have R5b := back F5 H5 _ _ s5 R5w
                  exact ⟨F5, _, acc, s'.trans (g3.ff.trans s5), R5b, post⟩
                | true =>
                  simp only [if_true] at post ⊢
                  refine ⟨F5, Fo3, en3, R5, ?_⟩
                  cases hel : m en3 with
                  | bad => simp only [hel, noEx, Rs.bind] at post; exact post.elim
                  | ex e => simp only [hel, noEx, Rs.bind] at post; exact post.elim
                  | ok pq =>
                    obtain ⟨sv, en4⟩ := pq
                    simp only [hel, noEx, Rs.bind] at post
                    intro y F6 H6 s6 R6
                    cases hdat : sv.dat with
                    | none => simp only [hdat] at post; exact post.elim
                    | some yd =>
                      simp only [hdat] at post
                      by_cases hsz : acc.length < 1000000
                      case neg => rw [if_neg hsz] at post; exact post.elim
                      case pos =>
                        rw [if_pos hsz] at post
                        obtain ⟨F7, s7, R7, q7⟩ := R6.freezeTop hdat
                        have R7w := R7.pop.wipe vs
                        rw [hw] at R7w
                        have R7b := back F7 H6 _ _ ((s5.trans s6).trans s7) R7w
                        obtain ⟨aD, eD, oD⟩ := R7b.ow (i := 0) (by rfl)
                        simp at eD
                        subst eD
                        obtain ⟨nD, ⟨accV, ads, ed, hDv, dn⟩ | ⟨es, kvs, ed, _⟩⟩ := oD
                        case inr => cases ed
                        cases ed
                        refine ⟨accV, hDv, million (by rw [dn.length]; exact hsz), F7, _, acc ++ [yd], s'.trans (g3.ff.trans ((s5.trans s6).trans s7)), ?_, post⟩
                        have R8 := R7b.write (i := 0) (d' := .list (acc ++ [yd])) (o := .lst (accV ++ [y])) (by rfl) (by rfl) fun H' e => ⟨nD, .inl ⟨_, _, rfl, e, dn.append (.cons q7 .nil)⟩⟩
                        simpa using R8
        · have e : i = items.length := by omega
          subst e
          rw [List.drop_length] at post
          unfold lcL at post
          split at post
          case isFalse => exact post.elim
          case isTrue hlive =>
            refine .inl ⟨(hJ F' H' R'.fh (src hlive) items.length).2 (Nat.le_refl _), ?_⟩
            refine post (.ref D) F' H' ((s1.trans s2).trans s') ?_
            obtain ⟨Fo3, R3h, so3, back⟩ := R'.hold
            have Rr : StR G.w F' Fo3 H' σ (restE en0 en' vs) := StR.rest R2.len (fun j ov d _ h1 h2 => by
              obtain ⟨v, e, q⟩ := R2.sl j _ ov h2 h1
              exact ⟨v, e, q.mono s'⟩) hno R3h
            exact back F' H' σ _ (Same.refl _) Rr
end
end Sh
set_option Elab.async false
set_option linter.all false
set_option maxRecDepth 100000
set_option autoImplicit false
/-! own layer 5: comprehensions and stores as statements, calls, defs -/
namespace Sh
open PySem PySem.Spec PyProof.Rows L2

section
variable {X : Cx} {G : Gx} {pos p : Pos} {e iter tg elt : Expr} {es ifs : List Expr}
theorem _root_.L2.PTs.byR {t t' : TT} (h : PTs X ifs t) (k : ∀ σ H Q, t' σ H Q → t σ H Q) : PTs X ifs t' := ⟨fun pins s σ H Q I q => h.run pins s σ H Q I (k σ H Q q)⟩
theorem ts_nil : PTs X [] (rdT G mYes) := pts_nil.byR fun σ H Q h => by
  obtain ⟨F, Fo, en, R, h⟩ := h
  exact h F H (Same.refl _) R
theorem ts_one {c : Expr} {m : MT} (h : PT X c (rdT G m)) : PTs X [c] (rdT G m) := pts_one h
theorem s_lc {it : ItM} {t : Tg} {tt : MT} {m : ME} {scope : Scope} {own : List (Str × Nat)} (hc : X.calm = true) (hN : X.N.Nodup) (hi : PI X tg iter (rdI G it)) (ok : BlkOk X.N X.env.scope scope own)
    (hg : ∀ (s : Shared) (H : Hp) (C : Addr) (cl : List (Str × Addr)) (fp : List Addr), PG (X.blk s H scope (compEnvC scope cl C X.env) fp) tg (rdG G.blk t)) (ht : ∀ (s : Shared) (H : Hp) (C : Addr) (cl : List (Str × Addr)) (fp : List Addr), PTs (X.blk s H scope (compEnvC scope cl C X.env) fp) ifs (rdT G.blk tt))
    (he : ∀ (s : Shared) (H : Hp) (C : Addr) (cl : List (Str × Addr)) (fp : List Addr), PE (X.blk s H scope (compEnvC scope cl C X.env) fp) elt (rdE G.blk m)) (hts : t.slots.all (fun i => (own.map (·.2)).contains i) = true := by rfl) (hs : ∀ x, foldedSetIterable iter X.env x = pure x := by intro _; rfl) :
    PE X (.ListComp elt [⟨tg, iter, ifs, 0⟩] scope pos) (rdE G (mLc it t tt m (own.map (·.2)))) :=
  (pe_lc hc hN hi ok hg ht he hs).byR fun _ _ _ h => rd_lc hts h
theorem ss_setLc {i : Nat} {y : Str} {py spos : Pos} {it : ItM} {t : Tg} {tt : MT} {m : ME} {scope : Scope} {own : List (Str × Nat)} (hc : X.calm = true) (hN : X.N.Nodup) (hy : X.N[i]? = some y) (hyl : X.env.scope.names.lookup y = some .local)
    (hsw : swapsWith (.ListComp elt [⟨tg, iter, ifs, 0⟩] scope pos) (some (.Name y py)) spos.line X.env = pure true) (hi : PI X tg iter (rdI G it)) (ok : BlkOk X.N X.env.scope scope own)
    (hg : ∀ (s : Shared) (H : Hp) (C : Addr) (cl : List (Str × Addr)) (fp : List Addr), PG (X.blk s H scope (compEnvC scope cl C X.env) fp) tg (rdG G.blk t)) (ht : ∀ (s : Shared) (H : Hp) (C : Addr) (cl : List (Str × Addr)) (fp : List Addr), PTs (X.blk s H scope (compEnvC scope cl C X.env) fp) ifs (rdT G.blk tt))
    (he : ∀ (s : Shared) (H : Hp) (C : Addr) (cl : List (Str × Addr)) (fp : List Addr), PE (X.blk s H scope (compEnvC scope cl C X.env) fp) elt (rdE G.blk m)) (hts : t.slots.all (fun i => (own.map (·.2)).contains i) = true := by rfl) (h0 : (G.p0 && i == 0) = false := by rfl) (hs : ∀ x, foldedSetIterable iter X.env x = pure x := by intro _; rfl) :
    PS X (.Assign [.Name y py] (.ListComp elt [⟨tg, iter, ifs, 0⟩] scope pos) spos) (rdS G (mSet i (mLc it t tt m (own.map (·.2))))) :=
  (ps_setLc hc hN hy hyl hsw hi ok hg ht he hs).byR fun σ H D h => rd_lc hts (rd_set h0 h)
end

/-! ### xs.append(e), xs[k] = e -/
def mAppend (i : Nat) (m : ME) : MS := fun en => match sget en i with
  | .ow (.list _) => (m en).bind fun p => match p.1.dat with
    | none => .bad
    | some y => match sget p.2 i with
      | .ow (.list ds) => if ds.length < 1000000 then .ok (.nx, p.2.set i (.ow (.list (ds ++ [y])))) else .bad
      | _ => .bad
  | _ => .bad
def mPut (i : Nat) (mk m : ME) : MS := fun en => (m en).bind fun p => match p.1.dat with
  | none => .bad
  | some y => match sget p.2 i with
    | .ow (.list _) => (mk p.2).bind fun q => match q.1 with
      | .fz (.int k) => match sget q.2 i with
        | .ow (.list ds) => match ixN ds.length k with
          | none => .bad
          | some j => .ok (.nx, q.2.set i (.ow (.list (ds.set j y))))
        | _ => .bad
      | _ => .bad
    | _ => .bad
section
variable {X : Cx} {G : Gx} {pos p : Pos} {e o k : Expr} {es : List Expr}
theorem Ow.list {w : World} {F H : Hp} {a : Addr} {ds : List Da} (h : Ow w F H a (.list ds)) : ∃ xs, H a = some (.lst xs) ∧ DnAll w F xs ds := by
  obtain ⟨_, ⟨xs, ds', e, h1, h2⟩ | ⟨es, kvs, e, _⟩⟩ := h
  · cases e; exact ⟨xs, h1, h2⟩
  · cases e
theorem ss_append {i : Nat} {m : ME} {apos cpos : Pos} (ho : PE X o (tVar i)) (he : PE X e (rdE G m)) (hs : swapsWith (.Call (.Attribute o "append" apos) [e] [] cpos) none pos.line X.env = pure false := by rfl)
    (hbase : attributeBase o "append" X.env (eval o X.env) = eval o X.env := by rfl)
    (hfew : ((backTo cpos (starEach [e] X.env)).all (fun x => !x.1) && (backToKw cpos (keywordEach [] X.env)).all (fun x => x.1.isSome)
      && decide (([e] : List Expr).length + ([] : List Keyword).length + (if ([] : List Keyword).isEmpty then 0 else 1) < 30)) = true := by rfl)
    (hline : (apos.endLine == cpos.line) = true := by rfl) (hst : starEach [e] X.env = (false, eval e X.env) :: starEach [] X.env := by rfl) :
    PS X (.Expr (.Call (.Attribute o "append" apos) [e] [] cpos) pos) (rdS G (mAppend i m)) :=
  (ps_expr (pe_bm PySem.F.plainAttrs_list PySem.F.slot_list_append PySem.F.type_list_append mt_append ho (pa_cons he pa_nil hst) hbase hfew hline hst rfl) hs).byR fun σ H D h => by
    obtain ⟨F, Fo, en, R, h⟩ := h
    unfold mAppend at h
    split at h
    case h_2 => exact h.elim
    case h_1 d0 hs0 =>
    obtain ⟨a, ea, q0⟩ := R.ow (sget_eq hs0 (by simp))
    obtain ⟨xs0, hx0, _⟩ := q0.list
    refine ⟨_, ea, .inl ⟨rfl, xs0, SqL.of hx0⟩, F, Fo, en, R, ?_⟩
    cases hm : m en with
    | bad => simp only [hm, Rs.bind] at h; exact h.elim
    | ex x => simp only [hm, Rs.bind] at h; exact h
    | ok pq =>
      obtain ⟨s, en1⟩ := pq
      simp only [hm, Rs.bind] at h
      intro y F1 H1 s1 R1
      cases hd : s.dat with
      | none => simp only [hd] at h; exact h.elim
      | some yd =>
        simp only [hd] at h
        obtain ⟨F2, s2, R2, q2⟩ := R1.freezeTop hd
        have R3 := R2.pop
        split at h
        case h_2 => exact h.elim
        case h_1 d1 hs1 =>
        split at h
        case isFalse => exact h.elim
        case isTrue hl =>
        have hi1 := sget_eq hs1 (by simp)
        obtain ⟨b, eb, q3⟩ := R3.ow hi1
        rw [ea] at eb; cases eb
        obtain ⟨xs, hx, dn⟩ := q3.list
        refine ⟨_, xs, y, rfl, rfl, hx, million (by rw [dn.length]; exact hl), ?_⟩
        exact h σ F2 _ (s1.trans s2) (R3.write hi1 ea fun H' e => ⟨q3.1, .inl ⟨_, _, rfl, e, dn.append (.cons q2 .nil)⟩⟩) Kp.refl
theorem ss_put {i : Nat} {mk m : ME} {tpos : Pos} (ho : PE X o (tVar i)) (hk : PE X k (rdE G mk)) (he : PE X e (rdE G m)) (hs : swapsWithSole [.Subscript o k tpos] e pos.line X.env = pure false := by rfl) (hw : swappedStores [.Subscript o k tpos] e X.env = pure none := by rfl)
    (h1 : (assignEach [.Subscript o k tpos] X.env).map (·.2) = [assign (.Subscript o k tpos) X.env] := by rfl)
    (ha : ∀ v, assign (.Subscript o k tpos) X.env v = (do
      let ov ← holding [v] (eval o X.env)
      let iv ← holding [v, ov] (eval k X.env)
      standAt tpos
      holding [v, ov, iv] (setItem ov iv v)
      release [v, ov, iv] []) := by intro _; rfl) : PS X (.Assign [.Subscript o k tpos] e pos) (rdS G (mPut i mk m)) :=
  (ps_asg he (pg_sub ho hk set_list ha) hs hw h1).byR fun σ H D h => rdE_imp (fun y H1 q => by
    obtain ⟨F, Fo, s, en, R, q⟩ := q
    dsimp only at q
    cases hd : s.dat with
    | none => rw [hd] at q; exact q.elim
    | some yd =>
      rw [hd] at q
      obtain ⟨F2, s2, R2, q2⟩ := R.freezeTop hd
      have R3 := R2.pop
      dsimp only at q
      split at q
      case h_2 => exact q.elim
      case h_1 d0 hs0 =>
      obtain ⟨a, ea, q0⟩ := R3.ow (sget_eq hs0 (by simp))
      refine ⟨_, ea, F2, Fo, en, R3, ?_⟩
      cases hm : mk en with
      | bad => simp only [hm, Rs.bind] at q; exact q.elim
      | ex x => simp only [hm, Rs.bind] at q; exact PostX.mono s2 (Same.refl _) q
      | ok pq =>
        obtain ⟨sk, en1⟩ := pq
        simp only [hm, Rs.bind] at q
        intro kv F4 H4 s4 R4
        split at q
        case h_2 => exact q.elim
        case h_1 kk =>
        split at q
        case h_2 => exact q.elim
        case h_1 ds hs1 =>
        cases hj : ixN ds.length kk with
        | none => simp only [hj] at q; exact q.elim
        | some j =>
          simp only [hj] at q
          obtain ⟨v, ev, qk⟩ := R4.fz (i := 0) (by rfl)
          simp at ev; subst ev
          cases qk
          have R5 := R4.pop
          have hi1 := sget_eq hs1 (by simp)
          obtain ⟨b, eb, q3⟩ := R5.ow hi1
          rw [ea] at eb; cases eb
          obtain ⟨xs, hx, dn⟩ := q3.list
          refine ⟨_, xs, kk, j, rfl, rfl, hx, by rw [dn.length]; exact hj, ?_⟩
          exact q σ F4 _ (s2.trans s4) (R5.write hi1 ea fun H' e => ⟨q3.1, .inl ⟨_, _, rfl, e, DnAll.set (q2.mono s4) j dn⟩⟩) Kp.refl) (rd_bindES h)
end

/-! ### a, b = x, y -/
/-- values held side by side -/
def evalHold : List ME → En → Rs (List Sl × En)
  | [], en => .ok ([], en)
  | m :: r, en => (m en).bind fun p => (evalHold r p.2).bind fun q => .ok (p.1 :: q.1, q.2)
def setsE (en : En) : List Nat → List Sl → En
  | i :: is, s :: ss => (setsE en is ss).set i s
  | _, _ => en
def setsV (σ : L2.St) : List Nat → List V → L2.St
  | i :: is, v :: vs => (setsV σ is vs).set i (some v)
  | _, _ => σ
def mPar (is : List Nat) (ms : List ME) : MS := fun en => if ms.length = is.length then (evalHold ms en).bind fun p => .ok (.nx, setsE p.2 is p.1) else .bad
def rdH (G : Gx) (ms : List ME) : TA := fun σ H Q => ∃ F Fo en, StR G.w F Fo H σ en ∧ match evalHold ms en with
  | .ok (ss, en') => ∀ xs F' H', Same F F' → StR G.w F' Fo H' (xs.map some ++ σ) (ss ++ en') → xs.length = ss.length → Q xs H'
  | .ex e => PostX G F Fo e
  | .bad => False
section
variable {X : Cx} {G : Gx} {pos p : Pos} {e o k : Expr} {es : List Expr}
theorem sh_nil : PA X [] (rdH G []) := pa_nil.byR fun σ H Q h => by
  obtain ⟨F, Fo, en, R, h⟩ := h
  exact h [] F H (Same.refl _) (by simpa using R) rfl
theorem sh_cons {m : ME} {ms : List ME} (h : PE X e (rdE G m)) (hr : PA X es (rdH G ms)) (hs : starEach (e :: es) X.env = (false, eval e X.env) :: starEach es X.env := by rfl) : PA X (e :: es) (rdH G (m :: ms)) :=
  (pa_cons h hr hs).byR fun σ H Q h => by
    obtain ⟨F, Fo, en, R, h⟩ := h
    refine ⟨F, Fo, en, R, ?_⟩
    unfold evalHold at h
    cases hm : m en with
    | bad => simp only [hm, Rs.bind] at h
    | ex x => simp only [hm, Rs.bind] at h; exact h
    | ok pq =>
      obtain ⟨s, en1⟩ := pq
      simp only [hm, Rs.bind] at h
      intro x F1 H1 s1 R1
      obtain ⟨Fo1, R1h, so, back⟩ := R1.hold
      refine ⟨F1, Fo1, en1, R1h, ?_⟩
      cases hr : evalHold ms en1 with
      | bad => simp only [hr] at h
      | ex y => simp only [hr] at h; exact PostX.mono s1 so h
      | ok qq =>
        simp only [hr] at h
        intro xs F2 H2 s2 R2 hl
        exact h (x :: xs) F2 H2 (s1.trans s2) (back F2 H2 _ _ s2 R2) (by simp [hl])
theorem StR.sets {w : World} {F Fo H : Hp} {σ : L2.St} {en : En} : ∀ {xs : List V} {ss : List Sl} {is : List Nat}, xs.length = ss.length → ss.length = is.length → StR w F Fo H (xs.map some ++ σ) (ss ++ en) → StR w F Fo H (setsV σ is xs) (setsE en is ss)
  | [], [], [], _, _, R => by simpa [setsV, setsE] using R
  | x :: xs, s :: ss, i :: is, h1, h2, R => by
    have R0 : StR w F Fo H (some x :: (xs.map some ++ σ)) (s :: (ss ++ en)) := R
    obtain ⟨Fo1, Rh, so, back⟩ := R0.hold
    have R1 := StR.sets (is := is) (by simpa using h1) (by simpa using h2) Rh
    exact (back F H _ _ (Same.refl _) R1).set i
  | [], _ :: _, _, h, _, _ => by cases h
  | _ :: _, [], _, h, _, _ => by cases h
  | [], [], _ :: _, _, h, _ => by cases h
  | _ :: _, _ :: _, [], _, h, _ => by cases h
theorem setsV_len (σ : L2.St) : ∀ (is : List Nat) (vs : List V), (setsV σ is vs).length = σ.length
  | [], _ => rfl
  | _ :: _, [] => rfl
  | i :: is, v :: vs => by unfold setsV; rw [List.length_set, setsV_len σ is vs]
theorem setsV_kp {σ : L2.St} : ∀ {is : List Nat} {vs : List V}, (G.p0 && is.contains 0) = false → Kp G σ (setsV σ is vs)
  | [], _, _ => Kp.refl
  | _ :: _, [], _ => Kp.refl
  | i :: is, v :: vs, h => by
    intro hp
    rw [hp, Bool.true_and] at h
    simp at h
    unfold setsV
    rw [List.getElem?_set_ne (fun z => h.1 z.symm)]
    exact setsV_kp (is := is) (vs := vs) (by rw [hp, Bool.true_and]; simpa using h.2) hp
/-- the names of the targets, with their slots -/
inductive Nms (X : Cx) : List Expr → List Str → List Nat → Prop
  | nil : Nms X [] [] []
  | cons {x : Str} {i : Nat} {px : Pos} {es : List Expr} {xs : List Str} {is : List Nat} : X.N[i]? = some x → X.env.scope.names.lookup x = some .local → Nms X es xs is → Nms X (.Name x px :: es) (x :: xs) (i :: is)
theorem Nms.len {ts : List Expr} {xs : List Str} {is : List Nat} (h : Nms X ts xs is) : xs.length = is.length := by
  induction h with
  | nil => rfl
  | cons _ _ _ ih => simp [ih]
theorem store_all {pins : List (Addr × Obj)} {H : Hp} (hN : X.N.Nodup) : ∀ {ts : List Expr} {xs : List Str} {is : List Nat} {vs : List V} {us : List Value} {σ : L2.St} {s : Shared} {Q : Unit → Shared → Prop} {M : Model} {A : Around} {E : Value → Shared → Prop} {fs : List (Value → Sem Unit)} {ws : List Value}, Nms X ts xs is → Vals vs us → vs.length = is.length → Inv X pins σ H s →
    (∀ s', Inv X pins (setsV σ is vs) H s' → wpAny M A (assignInOrder fs ws) Q E s') → wpAny M A (assignInOrder (xs.reverse.map (fun n => bindName X.env n) ++ fs) (us.reverse ++ ws)) Q E s
  | _, _, _, _, _, _, _, _, _, _, _, _, _, .nil, r, hl, I, h => by
    cases r with
    | nil => exact h _ I
    | cons _ _ => cases hl
  | _, _, _, vs, us, σ, s, Q, M, A, E, fs, ws, .cons (x := x) (i := i) (xs := xs) h1 h2 t, r, hl, I, h => by
    cases r with
    | nil => cases hl
    | @cons v u vs us r1 r2 =>
      rw [List.reverse_cons, List.reverse_cons, List.map_append, List.append_assoc, List.append_assoc]
      refine store_all hN t r2 (by simpa using hl) I fun s' I' => ?_
      show wpAny M A (assignInOrder ((fun n => bindName X.env n) x :: fs) (u :: ws)) Q E s'
      exact assignInOrder_cons (wpAny_bindName (store_ok I' hN h1 (.inl h2) r1 (fun s2 I2 => h s2 I2) (.inr h2)))
/-- a, b, .. = x, y, .. with plain local names: the display is taken apart, stored from the right -/
theorem ss_par {ts : List Expr} {xs : List Str} {is : List Nat} {ms : List ME} {kt k2 : _} {pt pt2 : Pos} (hc : X.calm = true) (hN : X.N.Nodup) (hn : Nms X ts xs is) (ha : PA X es (rdH G ms)) (hl : is.length ≤ 1000)
    (hw : swappedStores [.Tuple ts kt pt] (.Tuple es k2 pt2) X.env = pure (some xs))
    (hs : swapsWithSole [.Tuple ts kt pt] (.Tuple es k2 pt2) pos.line X.env = pure false := by rfl) (h0 : (G.p0 && is.contains 0) = false := by rfl) :
    PS X (.Assign [.Tuple ts kt pt] (.Tuple es k2 pt2) pos) (rdS G (mPar is ms)) := by
  have hxs : xs.length = is.length := hn.len
  refine ⟨fun pins s σ H D I h => ?_⟩
  obtain ⟨F, Fo, en, R, h⟩ := h
  unfold mPar at h
  split at h
  case isFalse => exact h.elim
  case isTrue hms =>
  have hta : rdH G ms σ H fun vs H1 => vs.length = is.length ∧ D.nx (setsV σ is vs) H1 := by
    refine ⟨F, Fo, en, R, ?_⟩
    cases hr : evalHold ms en with
    | bad => simp only [hr] at h; exact h.elim
    | ex y => simp only [hr] at h; exact h
    | ok qq =>
      obtain ⟨ss, en1⟩ := qq
      simp only [hr, Rs.bind] at h
      intro vs F2 H2 s2 R2 hl2
      have hss : ss.length = ms.length := by
        clear h R2 hl2 hms ha R
        induction ms generalizing en ss en1 with
        | nil => cases hr; rfl
        | cons m ms ih =>
          unfold evalHold at hr
          cases hm : m en with
          | bad => simp only [hm, Rs.bind] at hr; cases hr
          | ex y => simp only [hm, Rs.bind] at hr; cases hr
          | ok p =>
            simp only [hm, Rs.bind] at hr
            cases hq : evalHold ms p.2 with
            | bad => simp only [hq] at hr; cases hr
            | ex y => simp only [hq] at hr; cases hr
            | ok q =>
              simp only [hq] at hr
              cases hr
              simp [ih _ _ _ hq]
      have e2 : ss.length = is.length := hss.trans hms
      exact ⟨hl2.trans e2, h _ F2 H2 s2 (R2.sets hl2 e2) (setsV_kp h0)⟩
  rw [exec_Assign_arm]
  refine wpAny_bind (wpAny_standAt ?_)
  rw [hs]
  refine wpAny_bind (wpAny_pure ?_)
  rw [if_neg (by decide)]
  refine wpAny_bind (Tuple_ (thn (ha.run _ pins s σ H _ I hta) fun us s1 ⟨vs, H1, I1, r1, hl1, q1⟩ => ?_))
  have hul : us.length = is.length := by rw [← r1.length]; exact hl1
  refine wpAny_newObj_type ?_ (by show us.toArray.size ≤ sizeLine; rw [List.size_toArray, hul]; exact small1000' hl)
  have I2 : Inv X pins σ H1 { s1 with heap := s1.heap.push { cls := .type "tuple", data := .seq us.toArray } } := I1.kept (t' := s1.toks) fun b o e => Heap.get?_push_of_some _ e
  rw [hw]
  refine wpAny_bind (wpAny_pure ?_)
  show wpAny (model X.prog X.w) X.A (do rule "assign.swapped-stores"; let items ← unpackItems (.ref s1.heap.objs.size) xs.length none; assignInOrder (xs.reverse.map fun n => bindName X.env n) items.reverse; pure Flow.next) _ _ _
  have hux : us.toArray.size = xs.length := by rw [List.size_toArray, hul, hxs]
  rw [← hux]
  refine wpAny_bind (wpAny_rule (wpAny_bind (unpackItems_tuple (items := us.toArray) (I.ok.hd hc) (IsTup.new s1.heap _) fun h' hx' => ?_)))
  have I3 := I2.kept (h' := h') (t' := s1.toks) fun b o e => hx' b o (Nat.ne_of_lt (Heap.lt_size e)) e
  have fin := store_all (ts := ts) (M := model X.prog X.w) (A := X.A) (E := X.xe) (fs := []) (ws := []) (Q := fun _ s' => wpAny (model X.prog X.w) X.A (pure Flow.next) (SP X pins D) X.xe s') hN hn r1 hl1 I3 fun s' I' => assignInOrder_nil (wpAny_pure ⟨_, H1, I', q1⟩)
  rw [List.append_nil, List.append_nil] at fin
  refine wpAny_bind ?_
  simpa using fin
end
end Sh
set_option Elab.async false
set_option linter.all false
set_option maxRecDepth 100000
set_option autoImplicit false
/-! own layer 6: defs, calls -/
namespace Sh
open PySem PySem.Spec PyProof.Rows L2

structure Gc where
  w : World
  cl : Str → Option Value
def Gc.g (c : Gc) (EX : XK) (p0 : Bool) : Gx := ⟨c.w, c.cl, EX, p0⟩
/-- what a def of data promises -/
def spP (c : Gc) (n : Nat) (f : List Da → Rs Sl) : Sp := fun vs H Q E => ∃ F ds, Same F H ∧ DnAll c.w F vs ds ∧ ds.length = n ∧ match f ds with
  | .ok s => ∀ x F' H', Gr F H F' H' → Nw c.w F' H H' x s → Q x H'
  | .ex e => False
  | .bad => False
/-- all but one cell grows -/
structure GrB (a : Addr) (F H F' H' : Hp) : Prop where
  ff : Same F F'
  hh : ∀ b o, b ≠ a → H b = some o → H' b = some o
  fh : Same F' H'
  nw : ∀ x o, F' x = some o → F x = some o ∨ H x = none
/-- what a def of a deck and data promises -/
def spD (c : Gc) (n : Nat) (g : List Da → List Da → Rs (Sl × List Da)) : Sp := fun vs H Q E => ∃ F a vs' dk ds, vs = .ref a :: vs' ∧ Same F H ∧ Ow c.w F H a (.list dk) ∧ DnAll c.w F vs' ds ∧ ds.length + 1 = n ∧ match g dk ds with
  | .ok (s, dk') => ∀ x F' H', GrB a F H F' H' → Ow c.w F' H' a (.list dk') → Nw c.w F' H H' x s → Q x H'
  | .ex e => False
  | .bad => False
theorem spP.len {c : Gc} {n : Nat} {f : List Da → Rs Sl} (vs : List V) (H : Hp) (Q : VK) (E : XK) (h : spP c n f vs H Q E) : vs.length = n := by
  obtain ⟨F, ds, _, dn, hl, _⟩ := h
  rw [dn.length, hl]
theorem spD.len {c : Gc} {n : Nat} {g : List Da → List Da → Rs (Sl × List Da)} (vs : List V) (H : Hp) (Q : VK) (E : XK) (h : spD c n g vs H Q E) : vs.length = n := by
  obtain ⟨F, a, vs', dk, ds, rfl, _, _, dn, hl, _⟩ := h
  rw [List.length_cons, dn.length, hl]
def fnP (k : Nat) (m : MS) : List Da → Rs Sl := fun ds => (m (ds.map .fz ++ List.replicate k .no)).bind fun p => match p.1 with
  | .nx => .ok (.fz .none)
  | .rt .no => .bad
  | .rt s => .ok s
def fnD (k : Nat) (m : MS) : List Da → List Da → Rs (Sl × List Da) := fun dk ds => (m (.ow (.list dk) :: ds.map .fz ++ List.replicate k .no)).bind fun p => match sget p.2 0 with
  | .ow (.list dk') => match p.1 with
    | .nx => .ok (.fz .none, dk')
    | .rt .no => .bad
    | .rt s => .ok (s, dk')
  | _ => .bad
/-- all that is not frozen is others' -/
def foreign (F H : Hp) : Hp := fun x => match F x with
  | none => H x
  | some _ => none
theorem foreign_none {F H : Hp} {x : Addr} {o : HO} (h : foreign F H x = some o) : F x = none ∧ H x = some o := by
  unfold foreign at h
  cases e : F x with
  | none => rw [e] at h; exact ⟨rfl, h⟩
  | some u => rw [e] at h; cases h
theorem foreign_at {F H : Hp} {x : Addr} {o : HO} (h : F x = none) (e : H x = some o) : foreign F H x = some o := by
  unfold foreign; rw [h]; exact e
theorem DnAll.slots {w : World} {F H : Hp} : ∀ {vs : List V} {ds : List Da} {i : Nat} {s : Sl} {ov : Option V}, DnAll w F vs ds → (ds.map Sl.fz)[i]? = some s → (vs.map some)[i]? = some ov → SlR w F H ov s
  | _, _, _, _, _, .nil, h, _ => by simp at h
  | _, _, 0, _, _, .cons h _, h1, h2 => by simp at h1 h2; subst h1; subst h2; exact ⟨_, rfl, h⟩
  | _, _, i + 1, _, _, .cons _ t, h1, h2 => t.slots (i := i) (by simpa using h1) (by simpa using h2)
theorem get_app {α : Type} {xs ys : List α} {i : Nat} {s : α} (h : (xs ++ ys)[i]? = some s) : xs[i]? = some s ∨ (xs.length ≤ i ∧ ys[i - xs.length]? = some s) := by
  by_cases hi : i < xs.length
  · rw [List.getElem?_append_left hi] at h; exact .inl h
  · rw [List.getElem?_append_right (by omega)] at h; exact .inr ⟨by omega, h⟩
theorem start_R {w : World} {F H : Hp} {vs : List V} {ds : List Da} {k n : Nat} (s : Same F H) (dn : DnAll w F vs ds) (hk : n = k) :
    StR w F (foreign F H) H (vs.map some ++ List.replicate n none) (ds.map .fz ++ List.replicate k .no) := by
  have hl := dn.length
  refine ⟨s, fun x o e => (foreign_none e).2, fun x o e => (foreign_none e).1, by simp [hl, hk], fun i t ov h1 h2 => ?_, fun i j a di dj _ h1 _ _ _ => ?_, fun i d a h1 _ => ?_⟩
  · rcases get_app h1 with h1 | ⟨hi, h1⟩
    · have hi : i < (vs.map some).length := by
        have := (List.getElem?_eq_some_iff.mp h1).1
        simp at this ⊢; omega
      rw [List.getElem?_append_left hi] at h2
      exact dn.slots h1 h2
    · rw [List.getElem?_replicate] at h1
      split at h1
      · cases h1; trivial
      · cases h1
  · rcases get_app h1 with h1 | ⟨hi, h1⟩
    · rw [List.getElem?_map] at h1
      cases e : ds[i]? with
      | none => rw [e] at h1; cases h1
      | some d => rw [e] at h1; cases h1
    · rw [List.getElem?_replicate] at h1
      split at h1 <;> cases h1
  · rcases get_app h1 with h1 | ⟨hi, h1⟩
    · rw [List.getElem?_map] at h1
      cases e : ds[i]? with
      | none => rw [e] at h1; cases h1
      | some d => rw [e] at h1; cases h1
    · rw [List.getElem?_replicate] at h1
      split at h1 <;> cases h1
/-- from a body's end to the caller -/
theorem end_gr {w : World} {F H F' H' : Hp} {σ : L2.St} {en : En} (s0 : Same F H) (s : Same F F') (R : StR w F' (foreign F H) H' σ en) : Gr F H F' H' := by
  refine ⟨s, fun b o e => ?_, R.fh, fun x o e => ?_⟩
  · cases q : F b with
    | none => exact R.oh b o (foreign_at q e)
    | some u =>
      have h1 := s0 b u q
      rw [e] at h1; cases h1
      exact R.fh b _ (s b _ q)
  · cases q : F x with
    | some u => rw [s x u q] at e; exact .inl e
    | none =>
      cases q2 : H x with
      | none => exact .inr rfl
      | some v =>
        rw [R.dj x v (foreign_at q q2)] at e; cases e
theorem end_nw {w : World} {F H F' H' : Hp} {σ : L2.St} {en : En} {x : V} {s : Sl} (sF : Same F F') (hs : s ≠ .no) (R : StR w F' (foreign F H) H' (some x :: σ) (s :: en)) : Nw w F' H H' x s := by
  cases s with
  | no => exact (hs rfl).elim
  | fz d =>
    obtain ⟨v, e, q⟩ := R.fz (i := 0) (by rfl)
    simp at e; subst e; exact q
  | ow d =>
    obtain ⟨a, e, q⟩ := R.ow (i := 0) (by rfl)
    simp at e; subst e
    refine ⟨a, rfl, ?_, q⟩
    have h1 : foreign F H a = none := R.fo 0 d a (by rfl) (by rfl)
    have h2 : F a = none := sF.free q.1
    unfold foreign at h1
    rw [h2] at h1; exact h1
section
variable {P : Program} {K : PySem.W.Frag} {mg : Str → Option Value} {base : Heap} {c : Gc}
/-- a def of data by its body; nothing is raised -/
theorem fn_P {x qual : Str} {st : Stmt} {f : Addr} {fd : FuncData} {N ps : List Str} {k n : Nat} {m : MS} (F : Fun K x qual st f fd) (S : FnScope N ps (defScope st)) (hn : N.length - ps.length = n)
    (hbody : ∀ (cdv : Value) (A : Around) (outer : List Env) (s : Shared) (H : Hp), Room k (A.deeper (envOfC qual (defScope st) s.heap.objs.size f cdv)) →
      PSs (cxOf CX0 P c.w K mg base N qual (defScope st) f cdv A outer s H E0).nox (defBody st) (rdS (c.g E0 false) m)) : FnOk P c.w K mg base CX0 (k + 1) f fd ps (spP c ps.length (fnP n m)) := by
  refine F.ok S (fun vs H Q E h => spP.len vs H Q E h) fun cdv A outer s H vs Q E hr h => ?_
  obtain ⟨F0, ds, sF, dn, hl, h⟩ := h
  have hb := hbody cdv A outer s H hr
  refine ⟨rdS (c.g E0 false) m, ?_, F0, foreign F0 H, ds.map .fz ++ List.replicate n .no, ?_, ?_⟩
  · exact hb
  · unfold L2.start
    refine start_R sF dn ?_
    rw [dn.length, hl, hn]
  · unfold fnP at h
    cases hm : m (ds.map .fz ++ List.replicate n .no) with
    | bad => simp only [hm, Rs.bind] at h
    | ex e => simp only [hm, Rs.bind] at h
    | ok p =>
      obtain ⟨fl, en'⟩ := p
      simp only [hm, Rs.bind] at h
      cases fl with
      | nx => exact fun σ' F' H' s1 R1 _ => h .non F' H' (end_gr sF s1 R1) .non
      | rt sv =>
        intro v σ' F' H' s1 R1 _
        cases sv with
        | no => exact h.elim
        | fz d => exact h v F' H' (end_gr sF s1 R1.pop) (end_nw s1 (by simp) R1)
        | ow d => exact h v F' H' (end_gr sF s1 R1.pop) (end_nw s1 (by simp) R1)
/-- a def whose first argument is a deck -/
theorem fn_D {x qual : Str} {st : Stmt} {f : Addr} {fd : FuncData} {N ps : List Str} {k n : Nat} {m : MS} (F : Fun K x qual st f fd) (S : FnScope N ps (defScope st)) (hn : N.length - ps.length = n)
    (hbody : ∀ (cdv : Value) (A : Around) (outer : List Env) (s : Shared) (H : Hp), Room k (A.deeper (envOfC qual (defScope st) s.heap.objs.size f cdv)) →
      PSs (cxOf CX0 P c.w K mg base N qual (defScope st) f cdv A outer s H E0).nox (defBody st) (rdS (c.g E0 true) m)) : FnOk P c.w K mg base CX0 (k + 1) f fd ps (spD c ps.length (fnD n m)) := by
  refine F.ok S (fun vs H Q E h => spD.len vs H Q E h) fun cdv A outer s H vs Q E hr h => ?_
  obtain ⟨F0, a, vs', dk, ds, rfl, sF, oa, dn, hl, h⟩ := h
  have hb := hbody cdv A outer s H hr
  obtain ⟨oo, hoo⟩ := oa.has
  -- the frozen part, the deck's cell, and the others'
  have R0 : StR c.w F0 (foreign (upd F0 a oo) H) H (some (.ref a) :: (vs'.map some ++ List.replicate (N.length - (V.ref a :: vs').length) none)) (.ow (.list dk) :: (ds.map .fz ++ List.replicate n .no)) := by
    have hq : StR c.w F0 (foreign F0 H) H (vs'.map some ++ List.replicate (N.length - (V.ref a :: vs').length) none) (ds.map .fz ++ List.replicate n .no) := start_R sF dn (by rw [List.length_cons, dn.length, hl, hn])
    have nob : ∀ (i : Nat) (d : Da), (ds.map Sl.fz ++ List.replicate n .no)[i]? ≠ some (.ow d) := fun i d h1 => by
      rcases get_app h1 with h1 | ⟨hi, h1⟩
      · rw [List.getElem?_map] at h1
        cases e : ds[i]? with
        | none => rw [e] at h1; cases h1
        | some d => rw [e] at h1; cases h1
      · rw [List.getElem?_replicate] at h1
        split at h1 <;> cases h1
    refine ⟨sF, fun b o e => (foreign_none e).2, fun b o e => ?_, by simp [hq.len], fun i t ov h1 h2 => ?_, fun i j b di dj hne h1 h2 _ _ => ?_, fun i d b h1 h2 => ?_⟩
    · have h1 := (foreign_none e).1
      by_cases hb : b = a
      · subst hb; exact oa.1
      · rw [upd_ne hb] at h1; exact h1
    · cases i with
      | zero => simp at h1 h2; subst h1; subst h2; exact ⟨a, rfl, oa⟩
      | succ i => exact hq.sl i t ov (by simpa using h1) (by simpa using h2)
    · cases i with
      | zero =>
        cases j with
        | zero => exact hne rfl
        | succ j => exact nob j dj (by simpa using h2)
      | succ i => exact nob i di (by simpa using h1)
    · cases i with
      | zero =>
        simp at h1 h2
        subst h2
        unfold foreign
        rw [upd_same]
      | succ i => exact (nob i d (by simpa using h1)).elim
  have fin : ∀ {x : V} {sv : Sl} {σ' : L2.St} {F' H' : Hp} {en' : En} {dk' : List Da}, Same F0 F' → StR c.w F' (foreign (upd F0 a oo) H) H' σ' en' → sget en' 0 = .ow (.list dk') → σ'[0]? = some (some (.ref a)) → GrB a F0 H F' H' ∧ Ow c.w F' H' a (.list dk') := fun {x sv σ' F' H' en' dk'} s1 R1 e0 e1 => by
    obtain ⟨b, eb, ob⟩ := R1.ow (sget_eq e0 (by simp))
    rw [e1] at eb; cases eb
    refine ⟨⟨s1, fun b o hb e => ?_, R1.fh, fun y o e => ?_⟩, ob⟩
    · cases q : F0 b with
      | none => exact R1.oh b o (foreign_at (by rw [upd_ne hb]; exact q) e)
      | some u =>
        have h1 := sF b u q
        rw [e] at h1; cases h1
        exact R1.fh b _ (s1 b _ q)
    · cases q : F0 y with
      | some u => rw [s1 y u q] at e; exact .inl e
      | none =>
        cases q2 : H y with
        | none => exact .inr rfl
        | some v =>
          by_cases hy : y = a
          · subst hy; rw [ob.1] at e; cases e
          · rw [R1.dj y v (foreign_at (by rw [upd_ne hy]; exact q) q2)] at e; cases e
  refine ⟨rdS (c.g E0 true) m, hb, F0, foreign (upd F0 a oo) H, (.ow (.list dk) :: (ds.map Sl.fz ++ List.replicate n Sl.no) : En), R0, ?_⟩
  unfold fnD at h
  cases hm : m (.ow (.list dk) :: (ds.map .fz ++ List.replicate n .no)) with
  | bad => simp only [List.cons_append, hm, Rs.bind] at h
  | ex e => simp only [List.cons_append, hm, Rs.bind] at h
  | ok p =>
    obtain ⟨fl, en'⟩ := p
    simp only [List.cons_append, hm, Rs.bind] at h
    by_cases hs : ∃ dk', sget en' 0 = .ow (.list dk')
    · obtain ⟨dk', hs⟩ := hs
      simp only [hs] at h
      cases fl with
      | nx =>
        intro σ' F' H' s1 R1 kp
        obtain ⟨g, ob⟩ := fin (x := .non) (sv := .no) s1 R1 hs ((kp rfl).trans rfl)
        exact h .non F' H' g ob .non
      | rt sv =>
        intro v σ' F' H' s1 R1 kp
        obtain ⟨g, ob⟩ := fin (x := .non) (sv := .no) s1 R1.pop hs ((kp rfl).trans rfl)
        have nw : sv ≠ .no → Nw c.w F' H H' v sv := fun hsv => by
          cases sv with
          | no => exact (hsv rfl).elim
          | fz d =>
            obtain ⟨v', e, q⟩ := R1.fz (i := 0) (by rfl)
            simp at e; subst e; exact q
          | ow d =>
            obtain ⟨b, e, q⟩ := R1.ow (i := 0) (by rfl)
            simp at e; subst e
            refine ⟨b, rfl, ?_, q⟩
            have h1 : foreign (upd F0 a oo) H b = none := R1.fo 0 d b (by rfl) (by rfl)
            have h2 : F0 b = none := s1.free q.1
            have e1 : σ'[0]? = some (some (.ref a)) := (kp rfl).trans rfl
            have hb : b ≠ a := fun z => by
              subst z
              have e0 := sget_eq hs (by simp)
              exact R1.ap 0 1 b d (.list dk') (by decide) (by rfl) (by simpa using e0) (by rfl) (by simpa using e1)
            unfold foreign at h1
            rw [upd_ne hb, h2] at h1; exact h1
        cases sv with
        | no => exact h.elim
        | fz d => exact h v F' H' g ob (nw (by simp))
        | ow d => exact h v F' H' g ob (nw (by simp))
    · split at h
      case h_1 q => 
        split at q
        case h_1 dk' e => exact (hs ⟨dk', e⟩).elim
        case h_2 => cases q
      case h_2 => exact h.elim
      case h_3 => exact h.elim
end

/-! ### calls -/
def flatS : Sl → Bool
  | .fz .none => true
  | .fz (.bool _) => true
  | .fz (.int _) => true
  | .fz (.str _) => true
  | _ => false
theorem flat_nw {w : World} {F F' H H' : Hp} {x : V} {s : Sl} (h : flatS s = true) (n : Nw w F' H H' x s) : Nw w F H H' x s := by
  cases s with
  | no => cases h
  | ow d => cases h
  | fz d =>
    cases d with
    | none => cases n; exact .non
    | bool b => cases n; exact .bl b
    | int i => cases n; exact .int i
    | str z => cases n; exact .str z
    | list _ => cases h
    | tuple _ => cases h
    | dict _ => cases h
def mCall (f : List Da → Rs Sl) (ops : List Opd) : ME := fun en => (evalOps ops en).bind fun p => match resAll p.2 p.1 with
  | none => .bad
  | some ds => (noEx (f ds)).bind fun s => .ok (s, if flatS s = true then p.2 else frzE p.2 (atSlots p.1))
def mCallD (g : List Da → List Da → Rs (Sl × List Da)) (i : Nat) (ops : List Opd) : ME := fun en => match sget en i with
  | .ow (.list _) => (evalOps ops en).bind fun p => match sget p.2 i with
    | .ow (.list dk) => match resAll p.2 p.1 with
      | none => .bad
      | some ds => if (atSlots p.1).contains i = true then .bad else (noEx (g dk ds)).bind fun q => .ok (q.1, (frzE p.2 (atSlots p.1)).set i (.ow (.list q.2)))
    | _ => .bad
  | _ => .bad
theorem frzE_dat (en : En) : ∀ (vs : List Nat) (j : Nat), (sget (frzE en vs) j).dat = (sget en j).dat
  | [], _ => rfl
  | v :: vs, j => by
    unfold frzE
    split
    · rename_i d hs
      by_cases hj : v = j
      · subst hj
        have hi := sget_eq hs (by simp)
        have hl := (List.getElem?_eq_some_iff.mp hi).1
        rw [← frzE_dat en vs v, hs]
        unfold sget
        rw [List.getD_eq_getElem?_getD, List.getElem?_set_self hl]
        rfl
      · rw [← frzE_dat en vs j]
        unfold sget
        rw [List.getD_eq_getElem?_getD, List.getElem?_set_ne hj, List.getD_eq_getElem?_getD]
    · exact frzE_dat en vs j
theorem frz_dn {w : World} {F Fo H : Hp} {σ : L2.St} {en : En} {vs : List Nat} (R : StR w F Fo H σ (frzE en vs)) : ∀ {os : List Op} {xs : List V} {ds : List Da}, OpRel w F σ xs os → resAll en os = some ds → (∀ i ∈ atSlots os, i ∈ vs) → DnAll w F xs ds
  | [], _, _, h, e, _ => by cases h; cases e; exact .nil
  | o :: os, _, ds, h, e, hv => by
    cases h with
    | cons h1 h2 =>
      unfold resAll at e
      cases ho : res en o with
      | none => rw [ho] at e; cases e
      | some d =>
        rw [ho] at e
        cases hr : resAll en os with
        | none => simp [hr] at e
        | some ds' =>
          simp [hr] at e
          subst e
          cases o with
          | «at» i =>
            refine .cons ?_ (frz_dn R h2 hr fun j hj => hv j (by simp [atSlots, hj]))
            have hd : (sget (frzE en vs) i).dat = some d := by rw [frzE_dat]; exact ho
            cases hs : sget (frzE en vs) i with
            | no => rw [hs] at hd; cases hd
            | fz d' =>
              rw [hs] at hd; cases hd
              obtain ⟨v, ev, q⟩ := R.fz (sget_eq hs (by simp))
              have e2 : σ[i]? = some (some _) := h1
              rw [ev] at e2; cases e2; exact q
            | ow d' => exact (frzE_no en vs i d' (hv i (by simp [atSlots])) (sget_eq hs (by simp))).elim
          | va d' => cases ho; exact .cons h1 (frz_dn R h2 hr fun j hj => hv j (by simpa [atSlots] using hj))
theorem evalOps_len : ∀ {ops : List Opd} {en en1 : En} {os : List Op}, evalOps ops en = .ok (os, en1) → os.length = ops.length := by
  intro ops
  induction ops with
  | nil => intro en en1 os h; cases h; rfl
  | cons o ops ih =>
    intro en en1 os h
    cases o with
    | sl i =>
      unfold evalOps at h
      split at h
      · cases hq : evalOps ops en with
        | bad => simp only [hq, Rs.bind] at h; cases h
        | ex e => simp only [hq, Rs.bind] at h; cases h
        | ok q => simp only [hq, Rs.bind] at h; cases h; simp [ih hq]
      · cases h
    | ex m =>
      unfold evalOps at h
      cases hm : m en with
      | bad => simp only [hm, Rs.bind] at h; cases h
      | ex e => simp only [hm, Rs.bind] at h; cases h
      | ok p =>
        simp only [hm, Rs.bind] at h
        cases hd : p.1.dat with
        | none => simp only [hd] at h; cases h
        | some d =>
          simp only [hd] at h
          cases hq : evalOps ops p.2 with
          | bad => simp only [hq] at h; cases h
          | ex e => simp only [hq] at h; cases h
          | ok q => simp only [hq] at h; cases h; simp [ih hq]
theorem opRel_len {w : World} {F : Hp} {σ : L2.St} {ops : List Opd} {en en1 : En} {os : List Op} {xs : List V} (h : evalOps ops en = .ok (os, en1)) (rel : OpRel w F σ xs os) : xs.length = ops.length := by
  rw [← evalOps_len h]
  clear h
  induction rel with
  | nil => rfl
  | cons _ _ ih => simp [ih]
theorem frzE_out (en : En) : ∀ (vs : List Nat) (j : Nat), j ∉ vs → (frzE en vs)[j]? = en[j]?
  | [], _, _ => rfl
  | v :: vs, j, h => by
    simp only [List.mem_cons, not_or] at h
    unfold frzE
    split
    · rw [List.getElem?_set_ne (fun z => h.1 z.symm), frzE_out en vs j h.2]
    · exact frzE_out en vs j h.2
section
variable {G : Gx} {σ : L2.St} {H : Hp}
theorem rd_call {c : Gc} {n : Nat} {f : List Da → Rs Sl} {ops : List Opd} {Q : VK} (hc : c.w = G.w) (hn : ops.length = n) (h : rdE G (mCall f ops) σ H Q) : rdOs G ops σ H fun xs H1 => spP c n f xs H1 Q G.EX := by
  obtain ⟨F, Fo, en, R, h⟩ := h
  refine ⟨F, Fo, en, R, ?_⟩
  unfold mCall at h
  cases hr : evalOps ops en with
  | bad => rw [hr] at h; exact h.elim
  | ex e => rw [hr] at h; exact h
  | ok p =>
    obtain ⟨os, en1⟩ := p
    rw [hr] at h
    intro xs F1 H1 s1 R1 rel
    simp only [Rs.bind] at h
    cases hd : resAll en1 os with
    | none => simp only [hd] at h; exact h.elim
    | some ds =>
      simp only [hd] at h
      obtain ⟨F2, s2, R2⟩ := R1.frz (atSlots os)
      have dn : DnAll G.w F2 xs ds := frz_dn R2 (rel.mono s2) hd fun i hi => hi
      have hlen : ds.length = n := by rw [← dn.length, ← hn]; exact opRel_len hr rel
      refine ⟨F2, ds, R2.fh, by rw [hc]; exact dn, hlen, ?_⟩
      cases hf : f ds with
      | bad => simp only [hf, noEx] at h; exact h.elim
      | ex e => simp only [hf, noEx] at h; exact h.elim
      | ok s =>
        simp only [hf, noEx] at h
        rw [hc]
        intro x F3 H3 g nw
        by_cases hfl : flatS s = true
        · rw [if_pos hfl] at h
          have g1 : Gr F1 H1 F1 H3 := ⟨Same.refl _, g.hh, R1.fh.trans g.hh, fun _ _ e => .inl e⟩
          exact h x F1 H3 s1 (R1.push g1 (flat_nw hfl nw))
        · rw [if_neg hfl] at h
          exact h x F3 H3 (s1.trans (s2.trans g.ff)) (R2.push g nw)
theorem StR.pushO {w : World} {F Fo H : Hp} {σ : L2.St} {en : En} {p : Addr} {d : Da} (R : StR w F Fo H σ en) (o : Ow w F H p d) (hne : ∀ (i : Nat) (d' : Da), en[i]? = some (.ow d') → σ[i]? ≠ some (some (.ref p))) (hf : Fo p = none) : StR w F Fo H (some (.ref p) :: σ) (.ow d :: en) := by
  refine ⟨R.fh, R.oh, R.dj, by simp [R.len], fun j t v h1 h2 => ?_, fun j k b dj dk hn h1 h2 h3 h4 => ?_, fun j dj b h1 h2 => ?_⟩
  · cases j with
    | zero => simp at h1 h2; subst h1; subst h2; exact ⟨p, rfl, o⟩
    | succ j => exact R.sl j t v (by simpa using h1) (by simpa using h2)
  · cases j with
    | zero =>
      cases k with
      | zero => exact hn rfl
      | succ k =>
        simp at h1 h2 h3 h4
        subst h3
        exact hne k dk h2 h4
    | succ j =>
      cases k with
      | zero =>
        simp at h1 h2 h3 h4
        subst h4
        exact hne j dj h1 h3
      | succ k => exact R.ap j k b dj dk (fun e => hn (by rw [e])) (by simpa using h1) (by simpa using h2) (by simpa using h3) (by simpa using h4)
  · cases j with
    | zero => simp at h1 h2; subst h2; exact hf
    | succ j => exact R.fo j dj b (by simpa using h1) (by simpa using h2)
/-- the deck's cell is changed, all else grows -/
theorem StR.growB {w : World} {F Fo H F' H' : Hp} {σ : L2.St} {en : En} {i : Nat} {a : Addr} {d d' : Da} (R : StR w F Fo H σ en) (hi : en[i]? = some (.ow d)) (ha : σ[i]? = some (some (.ref a))) (g : GrB a F H F' H') (o : Ow w F' H' a d') : StR w F' Fo H' σ (en.set i (.ow d')) := by
  have hFo : Fo a = none := R.fo i d a hi ha
  obtain ⟨a', e, q⟩ := R.ow hi
  rw [ha] at e; cases e
  have keep : ∀ b u, b ≠ a → F b = none → H b = some u → F' b = none := fun b u hb h1 h2 => by
    cases q : F' b with
    | none => rfl
    | some z =>
      rcases g.nw b z q with y | y
      · rw [h1] at y; cases y
      · rw [h2] at y; cases y
  have hil : i < en.length := (List.getElem?_eq_some_iff.mp hi).1
  have old : ∀ (j : Nat) (t : Sl), (en.set i (.ow d'))[j]? = some t → (j = i ∧ t = .ow d') ∨ (j ≠ i ∧ en[j]? = some t) := fun j t h => by
    by_cases hj : i = j
    · subst hj
      rw [List.getElem?_set_self hil] at h
      cases h; exact .inl ⟨rfl, rfl⟩
    · rw [List.getElem?_set_ne hj] at h
      exact .inr ⟨fun e => hj e.symm, h⟩
  have ne : ∀ b u, Fo b = some u → b ≠ a := fun b u h z => by subst z; rw [hFo] at h; cases h
  refine ⟨g.fh, fun b u e => g.hh b u (ne b u e) (R.oh b u e), fun b u e => keep b u (ne b u e) (R.dj b u e) (R.oh b u e), by simp [R.len], fun j t ov h1 h2 => ?_, fun j k b dj dk hne h1 h2 h3 h4 => ?_, fun j dj b h1 h2 => ?_⟩
  · rcases old j t h1 with ⟨rfl, rfl⟩ | ⟨hj, h1⟩
    · rw [ha] at h2; cases h2; exact ⟨a, rfl, o⟩
    · have q' := R.sl j t ov h1 h2
      cases t with
      | no => trivial
      | fz d =>
        obtain ⟨v, e, q'⟩ := q'
        exact ⟨v, e, q'.mono g.ff⟩
      | ow d'' =>
        obtain ⟨b, e, q'⟩ := q'
        subst e
        have hb : b ≠ a := fun e => by subst e; exact R.ap j i b d'' d hj h1 hi h2 ha
        obtain ⟨ob, hob⟩ := q'.has
        exact ⟨b, rfl, q'.move g.ff (keep b ob hb q'.1 hob) fun o e => g.hh b o hb e⟩
  · have gt : ∀ (j : Nat) (dj : Da), (en.set i (.ow d'))[j]? = some (.ow dj) → ∃ d0, en[j]? = some (.ow d0) := fun j dj h => by
      rcases old j _ h with ⟨rfl, _⟩ | ⟨_, h⟩
      · exact ⟨d, hi⟩
      · exact ⟨dj, h⟩
    obtain ⟨_, h1⟩ := gt j dj h1
    obtain ⟨_, h2⟩ := gt k dk h2
    exact R.ap j k b _ _ hne h1 h2 h3 h4
  · rcases old j _ h1 with ⟨rfl, _⟩ | ⟨_, h1⟩
    · rw [ha] at h2; cases h2; exact hFo
    · exact R.fo j dj b h1 h2
theorem rd_callD {c : Gc} {n i : Nat} {g : List Da → List Da → Rs (Sl × List Da)} {ops : List Opd} {Q : VK} (hc : c.w = G.w) (hn : ops.length + 1 = n) (h : rdE G (mCallD g i ops) σ H Q) : tVar i σ H fun x H0 => rdOs G ops σ H0 fun xs H1 => spD c n g (x :: xs) H1 Q G.EX := by
  obtain ⟨F, Fo, en, R, h⟩ := h
  unfold mCallD at h
  split at h
  case h_2 => exact h.elim
  case h_1 dk0 hs0 =>
  obtain ⟨a, ea, q0⟩ := R.ow (sget_eq hs0 (by simp))
  refine ⟨_, ea, F, Fo, en, R, ?_⟩
  cases hr : evalOps ops en with
  | bad => rw [hr] at h; exact h.elim
  | ex e => rw [hr] at h; exact h
  | ok p =>
    obtain ⟨os, en1⟩ := p
    rw [hr] at h
    intro xs F1 H1 s1 R1 rel
    simp only [Rs.bind] at h
    split at h
    case h_2 => exact h.elim
    case h_1 dk hs1 =>
    cases hd : resAll en1 os with
    | none => simp only [hd] at h; exact h.elim
    | some ds =>
      simp only [hd] at h
      split at h
      case isTrue => exact h.elim
      case isFalse hni =>
      have hni' : i ∉ atSlots os := by simpa using hni
      obtain ⟨F2, s2, R2⟩ := R1.frz (atSlots os)
      have dn : DnAll G.w F2 xs ds := frz_dn R2 (rel.mono s2) hd fun i hi => hi
      have hlen : ds.length + 1 = n := by rw [← dn.length, ← hn, opRel_len hr rel]
      have hi1 : en1[i]? = some (.ow (.list dk)) := sget_eq hs1 (by simp)
      have hi2 : (frzE en1 (atSlots os))[i]? = some (.ow (.list dk)) := by rw [frzE_out _ _ _ hni']; exact hi1
      obtain ⟨b, eb, ob⟩ := R2.ow hi2
      rw [ea] at eb; cases eb
      refine ⟨F2, a, xs, dk, ds, rfl, R2.fh, by rw [hc]; exact ob, by rw [hc]; exact dn, hlen, ?_⟩
      cases hg : g dk ds with
      | bad => simp only [hg, noEx] at h; exact h.elim
      | ex e => simp only [hg, noEx] at h; exact h.elim
      | ok q =>
        obtain ⟨s, dk'⟩ := q
        simp only [hg, noEx] at h
        rw [hc]
        intro x F3 H3 gr o3 nw
        have R3 := R2.growB hi2 ea gr o3
        refine h x F3 H3 (s1.trans (s2.trans gr.ff)) ?_
        cases s with
        | no => exact nw.elim
        | fz d => exact R3.push (Gr.refl R3.fh) (s := .fz d) nw
        | ow d =>
          obtain ⟨p, e, hp, op⟩ := nw
          subst e
          refine R3.pushO op (fun j d' h1 h2 => ?_) (R2.oh.free hp)
          have : ∃ d0, (frzE en1 (atSlots os))[j]? = some (.ow d0) := by
            by_cases hj : i = j
            · subst hj; exact ⟨_, hi2⟩
            · rw [List.getElem?_set_ne hj] at h1; exact ⟨_, h1⟩
          obtain ⟨d0, h0⟩ := this
          obtain ⟨b, eb, ob'⟩ := R2.ow h0
          rw [h2] at eb; cases eb
          obtain ⟨oo, hoo⟩ := ob'.has
          rw [hp] at hoo; cases hoo
end
section
variable {X : Cx} {c : Gc} {EX : XK} {p0 : Bool} {CX : CXT} {k n : Nat} {f : Addr} {fd : FuncData} {ps : List Str} {x : Str} {p pos : Pos} {e o : Expr} {es : List Expr} {ops : List Opd}
theorem s_call {fm : List Da → Rs Sl} (Fk : FnOk X.prog X.w X.K X.mg X.base CX k f fd ps (spP c n fm)) (hr : Room k X.A) (hg : Gl X x) (hm : X.mg x = some (.ref f)) (hk : PySem.W.keepIn X.K (.ref f) = true) (hb : Binds X.K fd ps []) (hx : Passes CX X EX)
    (ha : PA X (e :: es) (rdOs (c.g EX p0) ops)) (hn : ops.length = n := by rfl) (hdb : (x == ("__debug__" : Str)) = false := by decide) (he : starEach (e :: es) X.env = (false, eval e X.env) :: starEach es X.env := by rfl) (hpl : (backTo pos (starEach es X.env)).any (·.1) = false := by rfl) :
    PE X (.Call (.Name x p) (e :: es) [] pos) (rdE (c.g EX p0) (mCall fm ops)) :=
  (pe_call (dvs := []) (ds := []) Fk hr hg hm hk hb .nil hx ha hdb he hpl).byR fun σ H Q h => by
    have q := rd_call (c := c) (n := n) (f := fm) rfl hn h
    show rdOs (c.g EX p0) ops σ H fun vs H1 => spP c n fm (vs ++ []) H1 Q (c.g EX p0).EX
    simpa only [List.append_nil] using q
theorem s_callD {i : Nat} {gm : List Da → List Da → Rs (Sl × List Da)} (Fk : FnOk X.prog X.w X.K X.mg X.base CX k f fd ps (spD c n gm)) (hr : Room k X.A) (hg : Gl X x) (hm : X.mg x = some (.ref f)) (hk : PySem.W.keepIn X.K (.ref f) = true) (hb : Binds X.K fd ps []) (hx : Passes CX X EX)
    (ho : PE X o (tVar i)) (ha : PA X es (rdOs (c.g EX p0) ops)) (hn : ops.length + 1 = n := by rfl) (hdb : (x == ("__debug__" : Str)) = false := by decide) (he : starEach (o :: es) X.env = (false, eval o X.env) :: starEach es X.env := by rfl) (hpl : (backTo pos (starEach es X.env)).any (·.1) = false := by rfl) :
    PE X (.Call (.Name x p) (o :: es) [] pos) (rdE (c.g EX p0) (mCallD gm i ops)) :=
  (pe_call (dvs := []) (ds := []) Fk hr hg hm hk hb .nil hx (pa_cons ho ha he) hdb he hpl).byR fun σ H Q h => by
    have q := rd_callD (c := c) (n := n) (g := gm) rfl hn h
    show tVar i σ H fun x H0 => rdOs (c.g EX p0) ops σ H0 fun xs H1 => spD c n gm ((x :: xs) ++ []) H1 Q (c.g EX p0).EX
    simpa only [List.append_nil] using q
end
end Sh
set_option Elab.async false
set_option linter.all false
set_option maxRecDepth 100000
set_option autoImplicit false
/-! own layer 7: operations on data -/
namespace Sh
open PySem PySem.Spec PyProof.Rows L2

/-! ### from our data to the library's readings -/
mutual
theorem Dn.reads {P : Program} {w w0 : World} {H : Hp} {h : Heap} (ok : HOk P w0 H h) : ∀ {d : Da} {x : V} {u : Value}, Dn w H x d → RelV x u → ∃ as, Reads h u d as
  | .none, _, _, q, r => by cases q; cases r; exact ⟨_, .none⟩
  | .bool b, _, _, q, r => by cases q; cases r; exact ⟨_, .bool b⟩
  | .int i, _, _, q, r => by cases q; obtain ⟨t, rfl⟩ := r; exact ⟨_, .int i t⟩
  | .str z, _, _, q, r => by cases q; obtain ⟨t, rfl⟩ := r; exact ⟨_, .str z t⟩
  | .list ds, _, _, q, r => by
    cases q with
    | lst rd t =>
      cases r
      obtain ⟨_, its, n, vs, e⟩ := rd.ok ok
      obtain ⟨as, ra⟩ := DnAll.reads ok t vs
      exact ⟨_, .list e rfl rfl (by simpa using ra)⟩
  | .tuple ds, _, _, q, r => by
    cases q with
    | tup rd t =>
      cases r
      obtain ⟨_, its, vs, o, e, c, n, hd⟩ := rd.ok ok
      obtain ⟨as, ra⟩ := DnAll.reads ok t vs
      exact ⟨_, .tuple e c hd (by simpa using ra)⟩
  | .dict kvs, _, _, q, r => by
    cases q with
    | dic rd t =>
      cases r
      obtain ⟨_, _, vs, kv, o, es, ep, e, c, hd, _, hp, _⟩ := dk_rd ok rd
      obtain ⟨as, bs, r1, r2⟩ := DnEnt.reads ok t kv hp
      exact ⟨_, .dict e c.1 hd (by simpa using r1) (by simpa using r2)⟩
theorem DnAll.reads {P : Program} {w w0 : World} {H : Hp} {h : Heap} (ok : HOk P w0 H h) : ∀ {ds : List Da} {xs : List V} {us : List Value}, DnAll w H xs ds → Vals xs us → ∃ as, ReadsAll h us ds as
  | [], _, _, q, r => by cases q; cases r; exact ⟨_, .nil⟩
  | d :: ds, _, _, q, r => by
    cases q with
    | cons a b =>
      cases r with
      | cons r1 r2 =>
        obtain ⟨as, h1⟩ := Dn.reads ok a r1
        obtain ⟨bs, h2⟩ := DnAll.reads ok b r2
        exact ⟨_, .cons h1 h2⟩
theorem DnEnt.reads {P : Program} {w w0 : World} {H : Hp} {h : Heap} (ok : HOk P w0 H h) : ∀ {kvs : List (Da × Da)} {es : List (Key × V)} {vs : List (Key × Value)} {en : List DictEntry}, DnEnt w H es kvs → KV es vs → Pairs (mixKind P w0) en vs → ∃ as bs, ReadsAll h (en.map (·.key)) (kvs.map (·.1)) as ∧ ReadsAll h (en.map (·.val)) (kvs.map (·.2)) bs
  | [], _, _, _, q, k, p => by cases q; cases k; cases p; exact ⟨_, _, .nil, .nil⟩
  | (dk, dv) :: kvs, _, _, _, q, k, p => by
    cases q with
    | @cons x v _ es' _ a b =>
      cases k with
      | @cons _ bb _ l2 k1 k2 =>
        cases p with
        | @cons e _ es _ p1 p2 p3 =>
          obtain ⟨as, h1⟩ := Dn.reads ok a k1.2
          obtain ⟨cs, ds, h3, h4⟩ := DnEnt.reads ok b k2 p3
          have p1' : keyIs (Sum.inr x) e.key = true := by
            have e0 : (Sum.inr x : Key) = bb.1 := k1.1
            rw [e0]
            exact p1
          have g1 : ∃ as, Reads h e.key (.str x) as := by
            rcases keyIs_shape p1' with ⟨i, t, e1, e2⟩ | ⟨y, t, e1, e2⟩
            · cases e1
            · cases e1
              rw [e2]
              exact ⟨_, Reads.str _ t⟩
          obtain ⟨bs, g1⟩ := g1
          rw [← p2] at h1
          exact ⟨_, _, .cons g1 h3, .cons h1 h4⟩
end
section
variable {w : World} {F H : Hp}
theorem Dn1s.inv0 {ds : List Da} (h : Dn1s w F H [] ds) : ds = [] := by cases h; rfl
theorem Dn1s.inv1 {x : V} {ds : List Da} (h : Dn1s w F H [x] ds) : ∃ d, ds = [d] ∧ Dn1 w F H x d := by
  cases h with
  | cons a b => cases b; exact ⟨_, rfl, a⟩
theorem Dn1s.inv2 {x y : V} {ds : List Da} (h : Dn1s w F H [x, y] ds) : ∃ d e, ds = [d, e] ∧ Dn1 w F H x d ∧ Dn1 w F H y e := by
  cases h with
  | cons a b =>
    obtain ⟨e, rfl, c⟩ := b.inv1
    exact ⟨_, _, rfl, a, c⟩
theorem Dn1s.inv3 {x y z : V} {ds : List Da} (h : Dn1s w F H [x, y, z] ds) : ∃ d e f, ds = [d, e, f] ∧ Dn1 w F H x d ∧ Dn1 w F H y e ∧ Dn1 w F H z f := by
  cases h with
  | cons a b =>
    obtain ⟨e, f, rfl, c⟩ := b.inv2
    exact ⟨_, _, _, rfl, a, c⟩
theorem Dn1.int {x : V} {i : Int} (h : Dn1 w F H x (.int i)) : x = .int i := by
  rcases h with h | ⟨a, _, h⟩
  · cases h; rfl
  · obtain ⟨_, ⟨_, _, e, _⟩ | ⟨_, _, e, _⟩⟩ := h <;> cases e
theorem Dn1.str {x : V} {i : Str} (h : Dn1 w F H x (.str i)) : x = .str i := by
  rcases h with h | ⟨a, _, h⟩
  · cases h; rfl
  · obtain ⟨_, ⟨_, _, e, _⟩ | ⟨_, _, e, _⟩⟩ := h <;> cases e
theorem Dn1.bool {x : V} {i : Bool} (h : Dn1 w F H x (.bool i)) : x = .bl i := by
  rcases h with h | ⟨a, _, h⟩
  · cases h; rfl
  · obtain ⟨_, ⟨_, _, e, _⟩ | ⟨_, _, e, _⟩⟩ := h <;> cases e
theorem Dn1.none {x : V} (h : Dn1 w F H x .none) : x = .non := by
  rcases h with h | ⟨a, _, h⟩
  · cases h; rfl
  · obtain ⟨_, ⟨_, _, e, _⟩ | ⟨_, _, e, _⟩⟩ := h <;> cases e
theorem Dn1.list {x : V} {ds : List Da} (s : Same F H) (h : Dn1 w F H x (.list ds)) : ∃ a xs, x = .ref a ∧ Rd H a (.lst xs) ∧ DnAll w F xs ds := by
  rcases h with h | ⟨a, e, h⟩
  · cases h with
    | lst r t => exact ⟨_, _, rfl, Rd.mono s r, t⟩
  · obtain ⟨xs, h1, h2⟩ := h.list
    exact ⟨a, xs, e, .inl h1, h2⟩
theorem Dn1.tuple {x : V} {ds : List Da} (h : Dn1 w F H x (.tuple ds)) : ∃ a xs, x = .ref a ∧ Rd F a (.tup xs) ∧ DnAll w F xs ds := by
  rcases h with h | ⟨a, _, h⟩
  · cases h with
    | tup r t => exact ⟨_, _, rfl, r, t⟩
  · obtain ⟨_, ⟨_, _, e, _⟩ | ⟨_, _, e, _⟩⟩ := h <;> cases e
end
/-! ### results -/
section
variable {w : World} {F H : Hp}
/-- a new list -/
theorem new_lst {xs : List V} {ds : List Da} {p : Addr} (s : Same F H) (hp : H p = none) (dn : DnAll w F xs ds) : Gr F H F (upd H p (.lst xs)) ∧ Nw w F H (upd H p (.lst xs)) (.ref p) (.ow (.list ds)) :=
  ⟨Gr.new s hp, p, rfl, hp, s.free hp, .inl ⟨xs, ds, rfl, upd_same, dn⟩⟩
theorem new_tup {xs : List V} {ds : List Da} {p : Addr} (s : Same F H) (hp : H p = none) (dn : DnAll w F xs ds) : Gr F H (upd F p (.tup xs)) (upd H p (.tup xs)) ∧ Nw w (upd F p (.tup xs)) H (upd H p (.tup xs)) (.ref p) (.fz (.tuple ds)) :=
  ⟨Gr.newF s hp, .tup (.inl upd_same) (dn.mono (same_upd (s.free hp)))⟩
end
theorem OpR.z {X : Cx} {w : World} {f : Value → Value → Sem Value} {r : R2} {op : List Da → Option Sl} (h : OpR X f r) (k : ∀ x y H Q, Rz w op [x, y] H Q → r x y H Q) : OpZ X w f op :=
  fun pins s σ H x y v u Q I rx ry q => h pins s σ H x y v u Q I rx ry (k x y H Q q)
/-- the operation splits by its data -/
theorem OpZ.or {X : Cx} {w : World} {f : Value → Value → Sem Value} {op op' : List Da → Option Sl} (h : OpZ X w f op) (h' : OpZ X w f op') : OpZ X w f (fun ds => (op ds).or (op' ds)) := by
  intro pins s σ H x y v u Q I rx ry q
  obtain ⟨F, ds, sl, sf, dn, ho, k⟩ := q
  dsimp only at ho
  cases e : op ds with
  | some z => rw [e] at ho; exact h pins s σ H x y v u Q I rx ry ⟨F, ds, sl, sf, dn, by rw [e]; exact ho, k⟩
  | none => rw [e] at ho; exact h' pins s σ H x y v u Q I rx ry ⟨F, ds, sl, sf, dn, ho, k⟩
theorem CallR.orZ {X : Cx} {w : World} {f : Value} {op op' : List Da → Option Sl} (h : CallR X f (Rz w op)) (h' : CallR X f (Rz w op')) : CallR X f (Rz w (fun ds => (op ds).or (op' ds))) := by
  intro pins s σ H xs us Q I r q
  obtain ⟨F, ds, sl, sf, dn, ho, k⟩ := q
  dsimp only at ho
  cases e : op ds with
  | some z => rw [e] at ho; exact h pins s σ H xs us Q I r ⟨F, ds, sl, sf, dn, by rw [e]; exact ho, k⟩
  | none => rw [e] at ho; exact h' pins s σ H xs us Q I r ⟨F, ds, sl, sf, dn, ho, k⟩

/-! ### comparisons -/
def okc (d e : Da) : Bool := d.plain && e.plain && decide (min d.depth e.depth ≤ 60)
def isNon : Da → Bool
  | .none => true
  | _ => false
theorem isNon_ne {d : Da} (h : isNon d = false) : d ≠ .none := fun e => by subst e; cases h
def okl (d e : Da) : Bool := PySem.W.alike d e && !isNon d && decide (min d.depth e.depth ≤ 60)
def opEq : List Da → Option Sl
  | [d, e] => if okc d e = true then some (.fz (.bool (PyData.eqv d e))) else none
  | _ => none
def opNe : List Da → Option Sl
  | [d, e] => if okc d e = true then some (.fz (.bool (!PyData.eqv d e))) else none
  | _ => none
def opLt : List Da → Option Sl
  | [d, e] => if okl d e = true then some (.fz (.bool (PySem.W.dataLt d e))) else none
  | _ => none
def opGt : List Da → Option Sl
  | [d, e] => if okl d e = true then some (.fz (.bool (PySem.W.dataLt e d))) else none
  | _ => none
def opLe : List Da → Option Sl
  | [d, e] => if okl d e = true then some (.fz (.bool (!PySem.W.dataLt e d))) else none
  | _ => none
def opGe : List Da → Option Sl
  | [d, e] => if okl d e = true then some (.fz (.bool (!PySem.W.dataLt d e))) else none
  | _ => none
section
variable {X : Cx} {w : World}
theorem cmp_z {f : Value → Value → Sem Value} {op : List Da → Option Sl} (ok : Da → Da → Bool) (g : Da → Da → Bool) (hop : ∀ ds, op ds = match ds with | [d, e] => if ok d e = true then some (.fz (.bool (g d e))) else none | _ => none)
    (rule : ∀ (s : Shared) (v u : Value) (d e : Da) (as bs : List Addr) (Q : Value → Shared → Prop) (E : Value → Shared → Prop), Reads s.heap v d as → Reads s.heap u e bs → ok d e = true → Q (.bool (g d e)) s → wpAny (model X.prog X.w) X.A (f v u) Q E s) : OpZ X w f op := by
  intro pins s σ H x y v u Q I rx ry q
  obtain ⟨F, ds, sl, sf, dn, ho, k⟩ := q
  obtain ⟨d, e, rfl, d1, d2⟩ := dn.inv2
  rw [hop] at ho
  simp only at ho
  split at ho
  case isFalse => cases ho
  case isTrue hc =>
  cases ho
  obtain ⟨as, r1⟩ := Dn.reads I.hok (d1.now sf) rx
  obtain ⟨bs, r2⟩ := Dn.reads I.hok (d2.now sf) ry
  exact rule s v u d e as bs _ _ r1 r2 hc ⟨.bl _, H, I, rfl, k _ F H (Gr.refl sf) (.bl _)⟩
theorem okc_of {d e : Da} {n : Nat} (h : okc d e = true) (hu : n + 64 < cLine) : d.plain = true ∧ e.plain = true ∧ n + min d.depth e.depth < cLine := by
  unfold okc at h
  simp only [Bool.and_eq_true, decide_eq_true_eq] at h
  exact ⟨h.1.1, h.1.2, by omega⟩
theorem okl_of {d e : Da} {n : Nat} (h : okl d e = true) (hu : n + 64 < cLine) : PySem.W.alike d e = true ∧ d ≠ .none ∧ n + min d.depth e.depth < cLine := by
  unfold okl at h
  simp only [Bool.and_eq_true, decide_eq_true_eq, Bool.not_eq_true'] at h
  exact ⟨h.1.1, isNon_ne h.1.2, by omega⟩
theorem z_eq (hu : X.A.units + 64 < cLine) : OpZ X w (compareOp .Eq) opEq := cmp_z okc (fun d e => PyData.eqv d e) (fun ds => by unfold opEq; rfl) fun s v u d e as bs Q E r1 r2 h q => SeqAt.eq_plain r1 r2 (okc_of h hu).1 (okc_of h hu).2.1 (okc_of h hu).2.2 q
theorem z_ne (hu : X.A.units + 64 < cLine) : OpZ X w (compareOp .NotEq) opNe := cmp_z okc (fun d e => !PyData.eqv d e) (fun ds => by unfold opNe; rfl) fun s v u d e as bs Q E r1 r2 h q => SeqAt.ne_plain r1 r2 (okc_of h hu).1 (okc_of h hu).2.1 (okc_of h hu).2.2 q
theorem z_lt (hu : X.A.units + 64 < cLine) : OpZ X w (compareOp .Lt) opLt := cmp_z okl (fun d e => PySem.W.dataLt d e) (fun ds => by unfold opLt; rfl) fun s v u d e as bs Q E r1 r2 h q => PySem.W.lt_data r1 r2 (okl_of h hu).1 (okl_of h hu).2.1 (okl_of h hu).2.2 q
theorem z_gt (hu : X.A.units + 64 < cLine) : OpZ X w (compareOp .Gt) opGt := cmp_z okl (fun d e => PySem.W.dataLt e d) (fun ds => by unfold opGt; rfl) fun s v u d e as bs Q E r1 r2 h q => PySem.W.gt_data r1 r2 (okl_of h hu).1 (okl_of h hu).2.1 (okl_of h hu).2.2 q
theorem z_le (hu : X.A.units + 64 < cLine) : OpZ X w (compareOp .LtE) opLe := cmp_z okl (fun d e => !PySem.W.dataLt e d) (fun ds => by unfold opLe; rfl) fun s v u d e as bs Q E r1 r2 h q => PySem.W.le_data r1 r2 (okl_of h hu).1 (okl_of h hu).2.1 (okl_of h hu).2.2 q
theorem z_ge (hu : X.A.units + 64 < cLine) : OpZ X w (compareOp .GtE) opGe := cmp_z okl (fun d e => !PySem.W.dataLt d e) (fun ds => by unfold opGe; rfl) fun s v u d e as bs Q E r1 r2 h q => PySem.W.ge_data r1 r2 (okl_of h hu).1 (okl_of h hu).2.1 (okl_of h hu).2.2 q
end
/-! ### in, not in -/
def inOk (d : Da) (xs : List Da) : Bool := d.plain && PyData.plainAll xs && decide (min (PyData.depthAll xs) d.depth ≤ 60)
def opIn : List Da → Option Sl
  | [d, .list xs] => if inOk d xs = true then some (.fz (.bool (xs.any fun y => PyData.eqv y d))) else none
  | [d, .tuple xs] => if inOk d xs = true then some (.fz (.bool (xs.any fun y => PyData.eqv y d))) else none
  | [.str z, .str y] => match z.cps.toList with
    | [c] => some (.fz (.bool (decide (c ∈ y.cps.toList))))
    | _ => none
  | _ => none
def opNotIn : List Da → Option Sl
  | [d, .list xs] => if inOk d xs = true then some (.fz (.bool (!xs.any fun y => PyData.eqv y d))) else none
  | [d, .tuple xs] => if inOk d xs = true then some (.fz (.bool (!xs.any fun y => PyData.eqv y d))) else none
  | _ => none
section
variable {X : Cx} {w : World}
theorem inOk_of {d : Da} {xs : List Da} {n : Nat} (h : inOk d xs = true) (hu : n + 64 < cLine) : PyData.plainAll xs = true ∧ d.plain = true ∧ n + 1 + min (PyData.depthAll xs) d.depth < cLine := by
  unfold inOk at h
  simp only [Bool.and_eq_true, decide_eq_true_eq] at h
  exact ⟨h.1.2, h.1.1, by omega⟩
theorem one_sign {z : Str} {c : Nat} (h : z.cps.toList = [c]) : z = ⟨#[c]⟩ := by
  cases z with
  | mk cps =>
    have h' : cps.toList = (#[c] : Array Nat).toList := h
    have := Array.toList_inj.mp h'
    rw [this]
theorem z_in (hu : X.A.units + 64 < cLine) : OpZ X w (compareOp .In) opIn := by
  intro pins s σ H x y v u Q I rx ry q
  obtain ⟨F, ds, sl, sf, dn, ho, k⟩ := q
  obtain ⟨d, e, rfl, d1, d2⟩ := dn.inv2
  unfold opIn at ho
  split at ho
  · rename_i d' xs e'
    cases e'
    split at ho
    case isFalse => cases ho
    case isTrue hc =>
    cases ho
    obtain ⟨as, r1⟩ := Dn.reads I.hok (d1.now sf) rx
    obtain ⟨bs, r2⟩ := Dn.reads I.hok (d2.now sf) ry
    obtain ⟨h1, h2, h3⟩ := inOk_of hc hu
    exact SeqAt.in_list_data r2 r1 h1 h2 h3 ⟨.bl _, H, I, rfl, k _ F H (Gr.refl sf) (.bl _)⟩
  · rename_i d' xs e'
    cases e'
    split at ho
    case isFalse => cases ho
    case isTrue hc =>
    cases ho
    obtain ⟨as, r1⟩ := Dn.reads I.hok (d1.now sf) rx
    obtain ⟨bs, r2⟩ := Dn.reads I.hok (d2.now sf) ry
    obtain ⟨h1, h2, h3⟩ := inOk_of hc hu
    exact SeqAt.in_tuple_data r2 r1 h1 h2 h3 ⟨.bl _, H, I, rfl, k _ F H (Gr.refl sf) (.bl _)⟩
  · rename_i z y' e'
    cases e'
    split at ho
    case h_2 => cases ho
    case h_1 c hz =>
    cases ho
    have e1 := d1.str
    have e2 := d2.str
    have e3 := one_sign hz
    subst e1 e2 e3
    exact op_in_sign pins s σ H _ _ v u Q I rx ry ⟨c, _, rfl, rfl, k _ F H (Gr.refl sf) (.bl _)⟩
  · cases ho
theorem z_notIn (hu : X.A.units + 64 < cLine) : OpZ X w (compareOp .NotIn) opNotIn := by
  intro pins s σ H x y v u Q I rx ry q
  obtain ⟨F, ds, sl, sf, dn, ho, k⟩ := q
  obtain ⟨d, e, rfl, d1, d2⟩ := dn.inv2
  unfold opNotIn at ho
  split at ho
  · rename_i d' xs e'
    cases e'
    split at ho
    case isFalse => cases ho
    case isTrue hc =>
    cases ho
    obtain ⟨as, r1⟩ := Dn.reads I.hok (d1.now sf) rx
    obtain ⟨bs, r2⟩ := Dn.reads I.hok (d2.now sf) ry
    obtain ⟨h1, h2, h3⟩ := inOk_of hc hu
    exact SeqAt.notIn_list_data r2 r1 h1 h2 h3 ⟨.bl _, H, I, rfl, k _ F H (Gr.refl sf) (.bl _)⟩
  · rename_i d' xs e'
    cases e'
    split at ho
    case isFalse => cases ho
    case isTrue hc =>
    cases ho
    obtain ⟨as, r1⟩ := Dn.reads I.hok (d1.now sf) rx
    obtain ⟨bs, r2⟩ := Dn.reads I.hok (d2.now sf) ry
    obtain ⟨h1, h2, h3⟩ := inOk_of hc hu
    exact SeqAt.notIn_tuple_data r2 r1 h1 h2 h3 ⟨.bl _, H, I, rfl, k _ F H (Gr.refl sf) (.bl _)⟩
  · cases ho
end
/-! ### is None, is True -/
def opIs : List Da → Option Sl
  | [d, .none] => some (.fz (.bool (isNon d)))
  | [.bool a, .bool b] => some (.fz (.bool (decide (a = b))))
  | _ => none
def opIsNot : List Da → Option Sl
  | [d, .none] => some (.fz (.bool (!isNon d)))
  | [.bool a, .bool b] => some (.fz (.bool (!decide (a = b))))
  | _ => none
theorem non_iff {w : World} {F H : Hp} {x : V} {d : Da} (sf : Same F H) (h : Dn1 w F H x d) : decide (x = .non) = isNon d := by
  have q := h.now sf
  cases q <;> simp [isNon]
section
variable {X : Cx} {w : World}
theorem z_is : OpZ X w (compareOp .Is) opIs := by
  intro pins s σ H x y v u Q I rx ry q
  obtain ⟨F, ds, sl, sf, dn, ho, k⟩ := q
  obtain ⟨d, e, rfl, d1, d2⟩ := dn.inv2
  unfold opIs at ho
  split at ho
  · rename_i e'
    cases e'
    cases ho
    have e2 := d2.none
    subst e2
    exact op_isN pins s σ H x _ v u Q I rx ry ⟨rfl, by rw [non_iff sf d1]; exact k _ F H (Gr.refl sf) (.bl _)⟩
  · rename_i e'
    cases e'
    cases ho
    have e1 := d1.bool
    have e2 := d2.bool
    subst e1 e2
    exact op_isBl pins s σ H _ _ v u Q I rx ry ⟨_, _, rfl, rfl, k _ F H (Gr.refl sf) (.bl _)⟩
  · cases ho
theorem z_isNot : OpZ X w (compareOp .IsNot) opIsNot := by
  intro pins s σ H x y v u Q I rx ry q
  obtain ⟨F, ds, sl, sf, dn, ho, k⟩ := q
  obtain ⟨d, e, rfl, d1, d2⟩ := dn.inv2
  unfold opIsNot at ho
  split at ho
  · rename_i e'
    cases e'
    cases ho
    have e2 := d2.none
    subst e2
    exact op_notN pins s σ H x _ v u Q I rx ry ⟨rfl, by rw [non_iff sf d1]; exact k _ F H (Gr.refl sf) (.bl _)⟩
  · rename_i e'
    cases e'
    cases ho
    have e1 := d1.bool
    have e2 := d2.bool
    subst e1 e2
    exact op_notBl pins s σ H _ _ v u Q I rx ry ⟨_, _, rfl, rfl, k _ F H (Gr.refl sf) (.bl _)⟩
  · cases ho
end
/-! ### ints; + of lists, tuples, texts -/
def opAdd : List Da → Option Sl
  | [.int i, .int j] => some (.fz (.int (i + j)))
  | [.bool b, .int j] => some (.fz (.int ((if b = true then 1 else 0) + j)))
  | [.list a, .list b] => if a.length + b.length ≤ 1000000 then some (.ow (.list (a ++ b))) else none
  | [.tuple a, .tuple b] => if a.length + b.length ≤ 1000000 then some (.fz (.tuple (a ++ b))) else none
  | [.str a, .str b] => if a.length + b.length ≤ 1000000 then some (.fz (.str (a ++ b))) else none
  | _ => none
def opSub : List Da → Option Sl
  | [.int i, .int j] => some (.fz (.int (i - j)))
  | [.bool b, .int j] => some (.fz (.int ((if b = true then 1 else 0) - j)))
  | _ => none
def opMul : List Da → Option Sl
  | [.int i, .int j] => if i.natAbs < 2 ^ 64 ∧ j.natAbs < 2 ^ 64 then some (.fz (.int (i * j))) else none
  | [.list a, .int k] => if 0 ≤ k ∧ k ≤ 1000 ∧ a.length ≤ 1000 then some (.ow (.list (List.replicate k.toNat a).flatten)) else none
  | [.tuple a, .int k] => if a ≠ [] ∧ 2 ≤ k ∧ k ≤ 1000 ∧ a.length ≤ 1000 then some (.fz (.tuple (List.replicate k.toNat a).flatten)) else none
  | _ => none
def opMod : List Da → Option Sl
  | [.int i, .int j] => if 0 < j then some (.fz (.int (i % j))) else none
  | _ => none
def opFdiv : List Da → Option Sl
  | [.int i, .int j] => if 0 < j ∧ j < 1073741824 then some (.fz (.int (i / j))) else none
  | _ => none
def opPow : List Da → Option Sl
  | [.int i, .int j] => if 0 ≤ j ∧ j ≤ 1000 ∧ i.natAbs < 2 ^ 64 then some (.fz (.int (i ^ j.toNat))) else none
  | _ => none
def opNeg : List Da → Option Sl
  | [.int i] => some (.fz (.int (-i)))
  | _ => none
theorem line_ge {n : Nat} (h : n ≤ 1000000) : n ≤ sizeLine := Nat.le_trans h (by decide)
theorem DnAll.rep {w : World} {F : Hp} {vs : List V} {ds : List Da} (h : DnAll w F vs ds) : ∀ n : Nat, DnAll w F (List.replicate n vs).flatten (List.replicate n ds).flatten
  | 0 => .nil
  | n + 1 => by
    rw [List.replicate_succ, List.replicate_succ, List.flatten_cons, List.flatten_cons]
    exact h.append (DnAll.rep h n)
theorem DnAll.nil_iff {w : World} {F : Hp} {vs : List V} {ds : List Da} (h : DnAll w F vs ds) : vs = [] ↔ ds = [] := by
  cases h <;> simp
section
variable {X : Cx} {w : World}
theorem cat_l : OpR X (binaryOp .Add) (fun x y H Q => ∃ l b xs zs, x = .ref l ∧ y = .ref b ∧ Rd H l (.lst xs) ∧ Rd H b (.lst zs) ∧ xs.length + zs.length ≤ sizeLine ∧ ∀ p, H p = none → Q (.ref p) (upd H p (.lst (xs ++ zs)))) := by
  intro pins s σ H x y v u Q I rx ry h
  obtain ⟨l, b, xs, zs, rfl, rfl, hH, hB, hz, q⟩ := h
  cases rx
  cases ry
  obtain ⟨z, its, n, r, e⟩ := hH.ok I.hok
  obtain ⟨z2, its2, n2, r2, e2⟩ := hB.ok I.hok
  have hl := r.length
  have hl2 := r2.length
  refine PySem.P.add_list e e2 ?_ (by rw [List.size_toArray, List.size_toArray]; omega)
  have ea : its.toArray ++ its2.toArray = (its ++ its2).toArray := by simp
  rw [ea]
  exact ⟨.ref _, _, I.lnew (t' := s.toks) (r.append r2) (by rw [List.length_append]; omega), rfl, q _ I.fresh⟩
theorem z_add : OpZ X w (binaryOp .Add) opAdd := by
  intro pins s σ H x y v u Q I rx ry q
  obtain ⟨F, ds, sl, sf, dn, ho, k⟩ := q
  obtain ⟨d, e, rfl, d1, d2⟩ := dn.inv2
  unfold opAdd at ho
  split at ho
  · rename_i e'
    cases e'
    cases ho
    have e1 := d1.int
    have e2 := d2.int
    subst e1 e2
    exact op_add pins s σ H _ _ v u Q I rx ry ⟨_, _, rfl, rfl, k _ F H (Gr.refl sf) (.int _)⟩
  · rename_i e'
    cases e'
    cases ho
    have e1 := d1.bool
    have e2 := d2.int
    subst e1 e2
    cases rx
    obtain ⟨t, rfl⟩ := ry
    exact PySem.IntBool.add_bool_int ⟨.int _, H, I.tok _, ⟨_, rfl⟩, k _ F H (Gr.refl sf) (.int _)⟩
  · rename_i a b e'
    cases e'
    split at ho
    case isFalse => cases ho
    case isTrue hc =>
    cases ho
    obtain ⟨p1, xs, rfl, h1, n1⟩ := d1.list sf
    obtain ⟨p2, ys, rfl, h2, n2⟩ := d2.list sf
    refine cat_l pins s σ H _ _ v u Q I rx ry ⟨_, _, xs, ys, rfl, rfl, h1, h2, line_ge (by rw [n1.length, n2.length]; exact hc), fun p hp => ?_⟩
    obtain ⟨g, n⟩ := new_lst sf hp (n1.append n2)
    exact k _ _ _ g n
  · rename_i a b e'
    cases e'
    split at ho
    case isFalse => cases ho
    case isTrue hc =>
    cases ho
    obtain ⟨p1, xs, rfl, h1, n1⟩ := d1.tuple
    obtain ⟨p2, ys, rfl, h2, n2⟩ := d2.tuple
    refine op_catA pins s σ H _ _ v u Q I rx ry ⟨_, _, xs, ys, rfl, rfl, .inl (Rd.mono sf h1), .inl (Rd.mono sf h2), line_ge (by rw [n1.length, n2.length]; exact hc), fun e0 => ?_, fun _ e0 => ?_, fun _ _ p hp => ?_⟩
    · subst e0
      cases n1
      exact k _ F H (Gr.refl sf) (.tup h2 n2)
    · subst e0
      cases n2
      exact k _ F H (Gr.refl sf) (show Dn w F _ _ from by rw [List.append_nil]; exact .tup h1 n1)
    · obtain ⟨g, n⟩ := new_tup sf hp (n1.append n2)
      exact k _ _ _ g n
  · rename_i a b e'
    cases e'
    split at ho
    case isFalse => cases ho
    case isTrue hc =>
    cases ho
    have e1 := d1.str
    have e2 := d2.str
    subst e1 e2
    exact op_add_str pins s σ H _ _ v u Q I rx ry ⟨_, _, rfl, rfl, line_ge hc, k _ F H (Gr.refl sf) (.str _)⟩
  · cases ho
theorem z_sub : OpZ X w (binaryOp .Sub) opSub := by
  intro pins s σ H x y v u Q I rx ry q
  obtain ⟨F, ds, sl, sf, dn, ho, k⟩ := q
  obtain ⟨d, e, rfl, d1, d2⟩ := dn.inv2
  unfold opSub at ho
  split at ho
  · rename_i e'
    cases e'
    cases ho
    have e1 := d1.int
    have e2 := d2.int
    subst e1 e2
    exact op_sub pins s σ H _ _ v u Q I rx ry ⟨_, _, rfl, rfl, k _ F H (Gr.refl sf) (.int _)⟩
  · rename_i e'
    cases e'
    cases ho
    have e1 := d1.bool
    have e2 := d2.int
    subst e1 e2
    cases rx
    obtain ⟨t, rfl⟩ := ry
    exact PySem.IntBool.sub_bool_int ⟨.int _, H, I.tok _, ⟨_, rfl⟩, k _ F H (Gr.refl sf) (.int _)⟩
  · cases ho
theorem rep_l : OpR X (binaryOp .Mult) (fun x y H Q => ∃ l k xs, x = .ref l ∧ y = .int k ∧ Rd H l (.lst xs) ∧ 0 ≤ k ∧ k ≤ 1000 ∧ xs.length ≤ 1000 ∧ ∀ p, H p = none → Q (.ref p) (upd H p (.lst (List.replicate k.toNat xs).flatten))) := by
  intro pins s σ H x y v u Q I rx ry h
  obtain ⟨l, k, xs, rfl, rfl, hH, k0, k1, hz, q⟩ := h
  cases rx
  obtain ⟨t, rfl⟩ := ry
  obtain ⟨_, its, n, r, e⟩ := hH.ok I.hok
  have hl := r.length
  have hk : k.toNat ≤ 1000 := by omega
  have hm : xs.length * k.toNat ≤ sizeLine := line_ge (Nat.le_trans (Nat.mul_le_mul hz hk) (by decide))
  have hsz : its.toArray.size * k.toNat ≤ sizeLine := by rw [List.size_toArray, ← hl]; exact hm
  have cap : ¬ its.toArray.size * k.toNat > (2 ^ 63 - 1) / 8 := by
    have z : (sizeLine : Nat) ≤ (2 ^ 63 - 1) / 8 := by decide
    omega
  have fit : ¬ (!Builtin.List.listFitsIndex k) = true := by rw [fitsIndex_both (by omega) (by omega)]; exact Bool.false_ne_true
  have nlong : ¬ Builtin.List.listTooLong (its.toArray.size * k.toNat) = true := by rw [notLongL hsz]; exact Bool.false_ne_true
  have made : List.foldl (fun x1 x2 => x1 ++ x2) #[] (List.replicate (if its.toArray.isEmpty = true then 0 else k.toNat) its.toArray) = (List.replicate k.toNat its).flatten.toArray := by
    rw [size_rep its]
    cases its with
    | nil => simp
    | cons a r' => rw [if_neg (by simp)]
  refine wpAny_binaryOp_repeat_ref (T := "list") (U := "int") (by decide) ⟨_, e, rfl⟩ (fun s' => typeIs_int s' k t) noFill_list_mul F.fills_int_mul F.slot_int_rmul repeat_list F.slot_int_index.lookup
    (call_meets F.slot_int_rmul (typeIs_int s k t) F.entry_int_rmul (F.args_int_rmul_2 _ _) (int___rmul___int_list k t l its.toArray n)
      ⟨e, rfl, ⟨_, e, rfl⟩, call_meets F.slot_list_mul ⟨_, e, rfl⟩ F.entry_list_mul (F.args_list_mul_2 _ _) (AutoListH.list___mul___list_int_3 l its.toArray n k t fit cap nlong) ⟨e, ?_⟩⟩)
  rw [made]
  exact ⟨.ref _, _, I.lnew (t' := s.toks) (r.rep k.toNat) (by rw [PyProof.Rows.lm_len_rep_flat, Nat.mul_comm]; exact hm), rfl, q _ I.fresh⟩
theorem z_mul : OpZ X w (binaryOp .Mult) opMul := by
  intro pins s σ H x y v u Q I rx ry q
  obtain ⟨F, ds, sl, sf, dn, ho, k⟩ := q
  obtain ⟨d, e, rfl, d1, d2⟩ := dn.inv2
  unfold opMul at ho
  split at ho
  · rename_i i j e'
    cases e'
    split at ho
    case isFalse => cases ho
    case isTrue hc =>
    cases ho
    have e1 := d1.int
    have e2 := d2.int
    subst e1 e2
    exact op_mulW pins s σ H _ _ v u Q I rx ry ⟨_, _, rfl, rfl, wide_mul hc.1 hc.2 (by decide) (by decide) (by decide), k _ F H (Gr.refl sf) (.int _)⟩
  · rename_i a kk e'
    cases e'
    split at ho
    case isFalse => cases ho
    case isTrue hc =>
    cases ho
    obtain ⟨p1, xs, rfl, h1, n1⟩ := d1.list sf
    have e2 := d2.int
    subst e2
    refine rep_l pins s σ H _ _ v u Q I rx ry ⟨_, _, xs, rfl, rfl, h1, hc.1, hc.2.1, by rw [n1.length]; exact hc.2.2, fun p hp => ?_⟩
    obtain ⟨g, n⟩ := new_lst sf hp (n1.rep kk.toNat)
    exact k _ _ _ g n
  · rename_i a kk e'
    cases e'
    split at ho
    case isFalse => cases ho
    case isTrue hc =>
    cases ho
    obtain ⟨p1, xs, rfl, h1, n1⟩ := d1.tuple
    have e2 := d2.int
    subst e2
    refine op_repT pins s σ H _ _ v u Q I rx ry ⟨_, _, xs, rfl, rfl, .inl (Rd.mono sf h1), fun z => hc.1 (n1.nil_iff.mp z), hc.2.1, hc.2.2.1, by rw [n1.length]; exact hc.2.2.2, fun p hp => ?_⟩
    obtain ⟨g, n⟩ := new_tup sf hp (n1.rep kk.toNat)
    exact k _ _ _ g n
  · cases ho
end
end Sh
set_option Elab.async false
set_option linter.all false
set_option maxRecDepth 100000
set_option autoImplicit false
/-! own layer 8: more operations on data -/
namespace Sh
open PySem PySem.Spec PyProof.Rows L2

section
variable {X : Cx} {w : World}
theorem z_mod : OpZ X w (binaryOp .Mod) opMod := by
  intro pins s σ H x y v u Q I rx ry q
  obtain ⟨F, ds, sl, sf, dn, ho, k⟩ := q
  obtain ⟨d, e, rfl, d1, d2⟩ := dn.inv2
  unfold opMod at ho
  split at ho
  · rename_i e'
    cases e'
    split at ho
    case isFalse => cases ho
    case isTrue hc =>
    cases ho
    have e1 := d1.int
    have e2 := d2.int
    subst e1 e2
    exact op_mod pins s σ H _ _ v u Q I rx ry ⟨_, _, rfl, rfl, hc, k _ F H (Gr.refl sf) (.int _)⟩
  · cases ho
theorem z_fdiv : OpZ X w (binaryOp .FloorDiv) opFdiv := by
  intro pins s σ H x y v u Q I rx ry q
  obtain ⟨F, ds, sl, sf, dn, ho, k⟩ := q
  obtain ⟨d, e, rfl, d1, d2⟩ := dn.inv2
  unfold opFdiv at ho
  split at ho
  · rename_i e'
    cases e'
    split at ho
    case isFalse => cases ho
    case isTrue hc =>
    cases ho
    have e1 := d1.int
    have e2 := d2.int
    subst e1 e2
    exact op_fdiv pins s σ H _ _ v u Q I rx ry ⟨_, _, rfl, rfl, hc, k _ F H (Gr.refl sf) (.int _)⟩
  · cases ho
theorem z_pow : OpZ X w (binaryOp .Pow) opPow := by
  intro pins s σ H x y v u Q I rx ry q
  obtain ⟨F, ds, sl, sf, dn, ho, k⟩ := q
  obtain ⟨d, e, rfl, d1, d2⟩ := dn.inv2
  unfold opPow at ho
  split at ho
  · rename_i e'
    cases e'
    split at ho
    case isFalse => cases ho
    case isTrue hc =>
    cases ho
    have e1 := d1.int
    have e2 := d2.int
    subst e1 e2
    exact op_pow pins s σ H _ _ v u Q I rx ry ⟨_, _, rfl, rfl, ⟨hc.1, by omega, hc.2.2⟩, k _ F H (Gr.refl sf) (.int _)⟩
  · cases ho
theorem z_neg : UnZ X w (unaryOp .USub) opNeg := by
  intro pins s σ H x v Q I rx q
  obtain ⟨F, ds, sl, sf, dn, ho, k⟩ := q
  obtain ⟨d, rfl, d1⟩ := dn.inv1
  unfold opNeg at ho
  split at ho
  · rename_i e'
    cases e'
    cases ho
    have e1 := d1.int
    subst e1
    exact un_neg pins s σ H _ v Q I rx ⟨_, rfl, k _ F H (Gr.refl sf) (.int _)⟩
  · cases ho

/-! ### len -/
end
def opLen : List Da → Option Sl
  | [.list a] => some (.fz (.int a.length))
  | [.tuple a] => some (.fz (.int a.length))
  | [.str z] => if z.length ≤ 1000000 then some (.fz (.int z.length)) else none
  | _ => none
section
variable {X : Cx} {w : World}
theorem z_len : CallR X (.builtin "len") (Rz w opLen) := by
  intro pins s σ H xs us Q I r q
  obtain ⟨F, ds, sl, sf, dn, ho, k⟩ := q
  unfold opLen at ho
  split at ho
  · rename_i a
    cases ho
    obtain ⟨x, rfl, d1⟩ := dn.one
    obtain ⟨p1, xs, rfl, h1, n1⟩ := d1.list sf
    exact call_len pins s σ H _ us Q I r ⟨_, _, rfl, .inl ⟨xs, .inl h1, rfl⟩, by rw [n1.length]; exact k _ F H (Gr.refl sf) (.int _)⟩
  · rename_i a
    cases ho
    obtain ⟨x, rfl, d1⟩ := dn.one
    obtain ⟨p1, xs, rfl, h1, n1⟩ := d1.tuple
    exact call_len pins s σ H _ us Q I r ⟨_, _, rfl, .inr ⟨xs, .inl (Rd.mono sf h1), rfl⟩, by rw [n1.length]; exact k _ F H (Gr.refl sf) (.int _)⟩
  · rename_i z
    split at ho
    case isFalse => cases ho
    case isTrue hc =>
    cases ho
    obtain ⟨x, rfl, d1⟩ := dn.one
    have e1 := d1.str
    subst e1
    exact call_len pins s σ H _ us Q I r ⟨_, _, rfl, ⟨line_ge hc, rfl⟩, k _ F H (Gr.refl sf) (.int _)⟩
  · cases ho
end
/-! ### isinstance -/
def kindIs (T : String) (d : Da) : Option Bool :=
  if T = "int" then some d.isInt else if T = "bool" then some d.isBool else if T = "str" then some d.isStr else if T = "list" then some d.isList else if T = "tuple" then some d.isTuple else none
def opIsi (T : String) : List Da → Option Sl
  | [d] => (kindIs T d).map fun b => .fz (.bool b)
  | _ => none
theorem kindIs_of {T : String} {d : Da} {b : Bool} (h : kindIs T d = some b) : (T = "int" ∧ b = d.isInt) ∨ (T = "bool" ∧ b = d.isBool) ∨ (T = "str" ∧ b = d.isStr) ∨ (T = "list" ∧ b = d.isList) ∨ (T = "tuple" ∧ b = d.isTuple) := by
  unfold kindIs at h
  split at h
  · exact .inl ⟨by assumption, (Option.some.inj h).symm⟩
  · split at h
    · exact .inr (.inl ⟨by assumption, (Option.some.inj h).symm⟩)
    · split at h
      · exact .inr (.inr (.inl ⟨by assumption, (Option.some.inj h).symm⟩))
      · split at h
        · exact .inr (.inr (.inr (.inl ⟨by assumption, (Option.some.inj h).symm⟩)))
        · split at h
          · exact .inr (.inr (.inr (.inr ⟨by assumption, (Option.some.inj h).symm⟩)))
          · cases h
section
variable {X : Cx} {w : World} {G : Gx} {e : Expr} {o : Opd} {p p2 p3 pos : Pos}
theorem isi_run {T : String} {pins : List (Addr × Obj)} {s : Shared} {σ : L2.St} {H : Hp} {v : Value} {d : Da} {as : List Addr} {b : Bool} {Q : VK} (I : L2.Inv X pins σ H s) (r : Reads s.heap v d as) (hk : kindIs T d = some b) (q : Q (.bl b) H) :
    wpAny (model X.prog X.w) X.A (call (.builtin "isinstance") [v, .type T]) (EP X pins σ Q) X.xe s := by
  have fin : ∀ tk, s.toks ≤ tk → EP X pins σ Q (.bool b) { s with toks := tk } := fun tk _ => ⟨.bl b, H, I.tok tk, rfl, q⟩
  rcases kindIs_of hk with ⟨rfl, rfl⟩ | ⟨rfl, rfl⟩ | ⟨rfl, rfl⟩ | ⟨rfl, rfl⟩ | ⟨rfl, rfl⟩
  · exact PySem.W.isinstance_int_data r fin
  · exact PySem.W.isinstance_bool_data r fin
  · exact PySem.W.isinstance_str_data r fin
  · exact PySem.W.isinstance_list_data r fin
  · exact PySem.W.isinstance_tuple_data r fin
theorem z_isi {T : String} : CallR X (.builtin "isinstance") (fun xs H Q => ∃ x, xs = [x, .ty T] ∧ Rz w (opIsi T) [x] H Q) := by
  intro pins s σ H xs us Q I r q
  obtain ⟨x, rfl, F, ds, sl, sf, dn, ho, k⟩ := q
  obtain ⟨u1, u2, rfl, r1, r2⟩ := vals2 r
  cases (show u2 = Value.type T from r2)
  obtain ⟨d, rfl, d1⟩ := dn.inv1
  unfold opIsi at ho
  simp only at ho
  cases hk : kindIs T d with
  | none => rw [hk] at ho; cases ho
  | some b =>
    rw [hk] at ho
    cases ho
    obtain ⟨as, r3⟩ := Dn.reads I.hok (d1.now sf) r1
    exact isi_run I r3 hk (k _ F H (Gr.refl sf) (.bl _))
theorem s_isi {T : Str} {T' : String} (hg : Gl X "isinstance") (hm : X.mg "isinstance" = none) (he : PE X e (rdO G o)) (hgT : Gl X T) (hmT : X.mg T = none) (hv : bootBuiltins T = some (.type T')) (hn : T ≠ "__name__" := by decide) (hdb : (T == ("__debug__" : Str)) = false := by decide)
    (hs1 : starEach [e, .Name T p2] X.env = (false, eval e X.env) :: starEach [.Name T p2] X.env := by rfl) (hs2 : starEach [.Name T p2] X.env = (false, eval (.Name T p2) X.env) :: starEach [] X.env := by rfl) (hpl : (backTo pos (starEach [.Name T p2] X.env)).any (·.1) = false := by rfl) :
    PE X (.Call (.Name "isinstance" p) [e, .Name T p2] [] pos) (rdE G (mPure (opIsi T') [o])) :=
  (pe_callB (z_isi (w := G.w) (T := T')) hg hm (by decide +kernel) (pa_cons he (pa_cons (pe_bltn (v := .ty T') hgT hmT hv rfl hn hdb) pa_nil hs2) hs1) (by decide) (by decide) hs1 hpl).byR fun σ H Q h =>
    rdO_imp (fun x H1 q => ⟨x, rfl, q⟩) (rdOs_1 (rz_of h))
/-- isinstance(e, (T, U)) -/
def opIsi2 (T U : String) : List Da → Option Sl
  | [d] => (kindIs T d).bind fun b => (kindIs U d).map fun c => .fz (.bool (b || c))
  | _ => none
def tyN : Da → String
  | .none => "NoneType"
  | .bool _ => "bool"
  | .int _ => "int"
  | .str _ => "str"
  | .list _ => "list"
  | .tuple _ => "tuple"
  | .dict _ => "dict"
theorem kit_da {pins : List (Addr × Obj)} {σ : L2.St} {H : Hp} {s : Shared} {u : Value} {d : Da} {as : List Addr} (r : Reads s.heap u d as) : ∃ P : Heap → Prop, PySem.W.KitX X.K u (.type (tyN d)) P ∧ P s.heap ∧ u ≠ .builtin "__main__.__loader__#opaque" := by
  cases r with
  | none => exact ⟨_, PySem.W.kitx_none, True.intro, fun z => nomatch z⟩
  | bool b => exact ⟨_, PySem.W.kitx_bool, True.intro, fun z => nomatch z⟩
  | int i t => exact ⟨_, PySem.W.kitx_int, True.intro, fun z => nomatch z⟩
  | str x t => exact ⟨_, PySem.W.kitx_str, True.intro, fun z => nomatch z⟩
  | list h1 h2 h3 h4 => exact ⟨_, PySem.W.kitx_list, ⟨_, h1, h2⟩, fun z => nomatch z⟩
  | tuple h1 h2 h3 h4 => exact ⟨_, PySem.W.kitx_tuple, ⟨_, h1, h2⟩, fun z => nomatch z⟩
  | dict h1 h2 h3 h4 => exact ⟨_, PySem.W.kitx_dict, ⟨_, h1, h2⟩, fun z => nomatch z⟩
theorem kit_tt {K : PySem.W.Frag} : PySem.W.kitAny K (.type "tuple") [.type "tuple", .type "list"] = some true := kitAny_cons (b := true) (kit_ty (by decide +kernel)) (fun z => nomatch z) (fun _ => rfl)
theorem kit_ll {K : PySem.W.Frag} : PySem.W.kitAny K (.type "list") [.type "tuple", .type "list"] = some true := kitAny_cons (b := false) (kit_ty (by decide +kernel)) (fun _ => kitAny_cons (b := true) (kit_ty (by decide +kernel)) (fun z => nomatch z) (fun _ => rfl)) (fun z => nomatch z)
theorem kit_no {K : PySem.W.Frag} {a : String} (h1 : kitB a "tuple" = some false) (h2 : kitB a "list" = some false) : PySem.W.kitAny K (.type a) [.type "tuple", .type "list"] = some false :=
  kitAny_cons (b := false) (kit_ty h1) (fun _ => kitAny_cons (b := false) (kit_ty h2) (fun _ => kitAny_nil) (fun z => nomatch z)) (fun z => nomatch z)
theorem z_isi2 : CallR X (.builtin "isinstance") (fun xs H Q => ∃ x tp, xs = [x, .ref tp] ∧ H tp = some (.tup [.ty "tuple", .ty "list"]) ∧ Rz w (opIsi2 "tuple" "list") [x] H Q) := by
  intro pins s σ H xs us Q I r q
  obtain ⟨x, tp, rfl, hT, F, ds, sl, sf, dn, ho, k⟩ := q
  obtain ⟨u1, u2, rfl, r1, r2⟩ := vals2 r
  cases (show u2 = Value.ref tp from r2)
  obtain ⟨d, rfl, d1⟩ := dn.inv1
  obtain ⟨as, r3⟩ := Dn.reads I.hok (d1.now sf) r1
  obtain ⟨P, Z, p, hx⟩ := kit_da (X := X) (pins := pins) (σ := σ) (H := H) r3
  obtain ⟨_, its, rv, o, h1, h2, n, h3⟩ := (show ObjOk X.prog X.w H s.heap tp (.tup [.ty "tuple", .ty "list"]) from I.hok tp _ hT)
  have e3 := ClsV.all (.cons (.ty "tuple") (.cons (.ty "list") .nil)) rv
  subst e3
  obtain ⟨oc, od, dt, sl'⟩ := o
  simp only at h2 h3
  subst h2 h3
  obtain ⟨b, hb1, hb2⟩ : ∃ b, PySem.W.kitAny X.K (.type (tyN d)) [.type "tuple", .type "list"] = some b ∧ sl = .fz (.bool b) := by
    cases d <;> cases ho
    case tuple => exact ⟨true, kit_tt, rfl⟩
    case list => exact ⟨true, kit_ll, rfl⟩
    case none => exact ⟨false, kit_no (by decide +kernel) (by decide +kernel), rfl⟩
    case bool => exact ⟨false, kit_no (a := "bool") (by decide +kernel) (by decide +kernel), rfl⟩
    case int => exact ⟨false, kit_no (a := "int") (by decide +kernel) (by decide +kernel), rfl⟩
    case str => exact ⟨false, kit_no (a := "str") (by decide +kernel) (by decide +kernel), rfl⟩
    case dict => exact ⟨false, kit_no (a := "dict") (by decide +kernel) (by decide +kernel), rfl⟩
  subst hb2
  exact PySem.W.kia_tup Z I.kIn p h1 hb1 hx fun tk => ⟨.bl b, H, I.tok tk, rfl, k _ F H (Gr.refl sf) (.bl _)⟩
end
/-! ### growth of readings -/
section
variable {w : World} {F H F' H' : Hp}
theorem Dn1.grow {x : V} {d : Da} (h : Dn1 w F H x d) (g : Gr F H F' H') : Dn1 w F' H' x d := by
  rcases h with h | ⟨a, e, h⟩
  · exact .inl (h.mono g.ff)
  · obtain ⟨o, ho⟩ := h.has
    exact .inr ⟨a, e, h.move g.ff (g.keep h.1 ho) fun o => g.hh a o⟩
theorem Dn1s.grow : ∀ {xs : List V} {ds : List Da}, Dn1s w F H xs ds → Gr F H F' H' → Dn1s w F' H' xs ds
  | _, _, .nil, _ => .nil
  | _, _, .cons a b, g => .cons (a.grow g) (b.grow g)
theorem Nw.back {H1 : Hp} {x : V} {s : Sl} (h : Nw w F' H1 H' x s) (sm : Same H H1) : Nw w F' H H' x s := by
  cases s with
  | no => exact h
  | fz d => exact h
  | ow d =>
    obtain ⟨a, e, h1, h2⟩ := h
    exact ⟨a, e, sm.free h1, h2⟩
theorem Rz.new {op : List Da → Option Sl} {xs : List V} {Q : VK} {p : Addr} {o : HO} (h : Rz w op xs H Q) (hp : H p = none) : Rz w op xs (upd H p o) Q := by
  obtain ⟨F, ds, sl, sf, dn, ho, k⟩ := h
  have g : Gr F H F (upd H p o) := Gr.new sf hp
  exact ⟨F, ds, sl, g.fh, dn.grow g, ho, fun x F2 H2 g2 n => k x F2 H2 (g.trans g2) (n.back g.hh)⟩
end
section
variable {X : Cx} {w : World} {G : Gx} {e a b : Expr} {o o' : Opd} {p p2 p3 p4 p5 pos : Pos}
theorem s_isi2 {kt : _} (hg : Gl X "isinstance") (hm : X.mg "isinstance" = none) (he : PE X e (rdO G o)) (hg1 : Gl X "tuple") (hm1 : X.mg "tuple" = none) (hg2 : Gl X "list") (hm2 : X.mg "list" = none)
    (hs1 : starEach [e, .Tuple [.Name "tuple" p2, .Name "list" p3] kt p4] X.env = (false, eval e X.env) :: starEach [.Tuple [.Name "tuple" p2, .Name "list" p3] kt p4] X.env := by rfl)
    (hs2 : starEach [.Tuple [.Name "tuple" p2, .Name "list" p3] kt p4] X.env = (false, eval (.Tuple [.Name "tuple" p2, .Name "list" p3] kt p4) X.env) :: starEach [] X.env := by rfl)
    (hs3 : starEach [.Name "tuple" p2, .Name "list" p3] X.env = (false, eval (.Name "tuple" p2) X.env) :: starEach [.Name "list" p3] X.env := by rfl)
    (hs4 : starEach [.Name "list" p3] X.env = (false, eval (.Name "list" p3) X.env) :: starEach [] X.env := by rfl)
    (hpl : (backTo pos (starEach [.Tuple [.Name "tuple" p2, .Name "list" p3] kt p4] X.env)).any (·.1) = false := by rfl) :
    PE X (.Call (.Name "isinstance" p) [e, .Tuple [.Name "tuple" p2, .Name "list" p3] kt p4] [] pos) (rdE G (mPure (opIsi2 "tuple" "list") [o])) :=
  (pe_callB (z_isi2 (w := G.w)) hg hm (by decide +kernel) (pa_cons he (pa_cons (pe_tup (pa_cons (pe_bltn (v := .ty "tuple") hg1 hm1 (by decide +kernel) rfl) (pa_cons (pe_bltn (v := .ty "list") hg2 hm2 (by decide +kernel) rfl) pa_nil hs4) hs3)) pa_nil hs2) hs1) (by decide) (by decide) hs1 hpl).byR fun σ H Q h =>
    rdO_imp (fun x H1 q => ⟨by show 2 ≤ sizeLine; decide, fun tp ht => ⟨x, tp, rfl, upd_same, q.new ht⟩⟩) (rdOs_1 (rz_of h))

/-! ### items -/
end
def opIx : List Da → Option Sl
  | [.list a, .int i] => (atI a i).map .fz
  | [.tuple a, .int i] => (atI a i).map .fz
  | [.str z, .int i] => if z.length ≤ 1000000 then (atI z.cps.toList i).map fun c => .fz (.str ⟨#[c]⟩) else none
  | _ => none
theorem DnAll.atI {w : World} {F : Hp} {xs : List V} {ds : List Da} {i : Int} {d : Da} (h : DnAll w F xs ds) (e : L2.atI ds i = some d) : ∃ v, L2.atI xs i = some v ∧ Dn w F v d := by
  unfold L2.atI at e ⊢
  rw [h.length]
  cases hj : ixN ds.length i with
  | none => rw [hj] at e; cases e
  | some j =>
    rw [hj] at e
    exact h.get e
section
variable {X : Cx} {w : World} {G : Gx} {e a b : Expr} {o o' o'' : Opd} {p p2 p3 p4 p5 pos : Pos}
theorem z_ix : IxR X (fun x y H Q => Rz w opIx [x, y] H Q) := by
  intro value slice pins s σ H x y v u Q I rx ry q hs
  obtain ⟨F, ds, sl, sf, dn, ho, k⟩ := q
  obtain ⟨d, e, rfl, d1, d2⟩ := dn.inv2
  unfold opIx at ho
  split at ho
  · rename_i a i e'
    cases e'
    cases hd : L2.atI a i with
    | none => rw [hd] at ho; cases ho
    | some z =>
      rw [hd] at ho
      cases ho
      obtain ⟨p1, xs, rfl, h1, n1⟩ := d1.list sf
      have e2 := d2.int
      subst e2
      obtain ⟨vv, h2, n2⟩ := n1.atI hd
      exact ix_list value slice pins s σ H _ _ v u Q I rx ry ⟨_, xs, _, vv, rfl, rfl, .inl h1, h2, k _ F H (Gr.refl sf) n2⟩ hs
  · rename_i a i e'
    cases e'
    cases hd : L2.atI a i with
    | none => rw [hd] at ho; cases ho
    | some z =>
      rw [hd] at ho
      cases ho
      obtain ⟨p1, xs, rfl, h1, n1⟩ := d1.tuple
      have e2 := d2.int
      subst e2
      obtain ⟨vv, h2, n2⟩ := n1.atI hd
      exact ix_tup value slice pins s σ H _ _ v u Q I rx ry ⟨_, xs, _, vv, rfl, rfl, .inl (Rd.mono sf h1), h2, k _ F H (Gr.refl sf) n2⟩ hs
  · rename_i z i e'
    cases e'
    split at ho
    case isFalse => cases ho
    case isTrue hc =>
    cases hd : L2.atI z.cps.toList i with
    | none => rw [hd] at ho; cases ho
    | some c =>
      rw [hd] at ho
      cases ho
      have e1 := d1.str
      have e2 := d2.int
      subst e1 e2
      exact ix_str value slice pins s σ H _ _ v u Q I rx ry ⟨_, _, c, rfl, rfl, line_ge hc, hd, k _ F H (Gr.refl sf) (.str _)⟩ hs
  · cases ho
theorem s_ix (ha : PE X a (rdO G o)) (hb : PE X b (rdO G o')) (hs : PlainIx b) : PE X (.Subscript a b pos) (rdE G (mPure opIx [o, o'])) :=
  (pe_ix (z_ix (w := G.w)) ha hb hs).byR fun _ _ _ h => rdOs_2 (rz_of h)

/-! ### slices -/
end
def cutD {α : Type} (xs : List α) (lo hi : Option Int) : List α := (xs.drop (HT.sIx xs.length 0 lo)).take (HT.sIx xs.length xs.length hi - HT.sIx xs.length 0 lo)
theorem DnAll.cut {w : World} {F : Hp} {xs : List V} {ds : List Da} (h : DnAll w F xs ds) (lo hi : Option Int) : DnAll w F (cutV xs lo hi) (cutD ds lo hi) := by
  unfold cutV cutD
  rw [h.length]
  exact (h.drop _).take _
def sliced (lo hi : Option Int) : Da → Option Sl
  | .list a => some (.ow (.list (cutD a lo hi)))
  | .tuple a => some (.fz (.tuple (cutD a lo hi)))
  | .str z => if z.length ≤ 1000000 then some (.fz (.str (cutS z lo hi))) else none
  | _ => none
def opSl (lo hi : Option Int) : List Da → Option Sl
  | [d] => sliced lo hi d
  | _ => none
def opSlLo : List Da → Option Sl
  | [d, .int i] => sliced (some i) none d
  | _ => none
def opSlHi : List Da → Option Sl
  | [d, .int i] => sliced none (some i) d
  | _ => none
section
variable {X : Cx} {w : World} {G : Gx} {e a b : Expr} {o o' o'' : Opd} {p p2 p3 p4 p5 pos : Pos}
theorem z_sl : L2.SlR X (fun x lo hi H Q => Rz w (opSl lo hi) [x] H Q) := by
  intro pins s σ H x v vl vu lo hi sl Q I rx hs pl pu q
  obtain ⟨F, ds, sv, sf, dn, ho, k⟩ := q
  obtain ⟨d, rfl, d1⟩ := dn.inv1
  have ho' : sliced lo hi d = some sv := ho
  unfold sliced at ho'
  split at ho'
  · cases ho'
    obtain ⟨p1, xs, rfl, h1, n1⟩ := d1.list sf
    refine sl_list pins s σ H _ v vl vu lo hi sl Q I rx hs pl pu ⟨_, xs, rfl, .inl h1, fun p hp => ?_⟩
    obtain ⟨g, n⟩ := new_lst sf hp (n1.cut lo hi)
    exact k _ _ _ g n
  · cases ho'
    obtain ⟨p1, xs, rfl, h1, n1⟩ := d1.tuple
    refine sl_tupA pins s σ H _ v vl vu lo hi sl Q I rx hs pl pu ⟨_, xs, rfl, .inl (Rd.mono sf h1), fun hw => ?_, fun _ p hp => ?_⟩
    · refine k _ F H (Gr.refl sf) (show Dn w F _ _ from .tup h1 ?_)
      have := n1.cut lo hi
      unfold cutV at this
      rw [hw.1, hw.2, Nat.sub_zero, List.drop_zero, List.take_length] at this
      exact this
    · obtain ⟨g, n⟩ := new_tup sf hp (n1.cut lo hi)
      exact k _ _ _ g n
  · split at ho'
    case isFalse => cases ho'
    case isTrue hc =>
    cases ho'
    have e1 := d1.str
    subst e1
    exact sl_str pins s σ H _ v vl vu lo hi sl Q I rx hs pl pu ⟨_, rfl, line_ge hc, k _ F H (Gr.refl sf) (.str _)⟩
  · cases ho'
theorem s_slLo (he : PE X e (rdO G o)) (ha : PE X a (rdO G o')) : PE X (.Subscript e (.Slice (some a) none none p2) pos) (rdE G (mPure opSlLo [o, o'])) :=
  (pe_slice (z_sl (w := G.w)) he (po_some ha) po_none).byR fun σ H Q h => rdO_imp (fun x H1 q => rdO_imp (fun y H2 q => by
    obtain ⟨F, ds, sv, sf, dn, ho, k⟩ := q
    obtain ⟨d, i, rfl, d1, d2⟩ := dn.inv2
    unfold opSlLo at ho
    split at ho
    · rename_i e'
      cases e'
      have e2 := d2.int
      subst e2
      exact ⟨_, rfl, F, [_], sv, sf, .cons d1 .nil, ho, k⟩
    · cases ho) q) (rdOs_2 (rz_of h))
theorem s_slHi (he : PE X e (rdO G o)) (ha : PE X a (rdO G o')) : PE X (.Subscript e (.Slice none (some a) none p2) pos) (rdE G (mPure opSlHi [o, o'])) :=
  (pe_slice (z_sl (w := G.w)) he po_none (po_some ha)).byR fun σ H Q h => rdO_imp (fun x H1 q => rdO_imp (fun y H2 q => by
    obtain ⟨F, ds, sv, sf, dn, ho, k⟩ := q
    obtain ⟨d, i, rfl, d1, d2⟩ := dn.inv2
    unfold opSlHi at ho
    split at ho
    · rename_i e'
      cases e'
      have e2 := d2.int
      subst e2
      exact ⟨_, rfl, F, [_], sv, sf, .cons d1 .nil, ho, k⟩
    · cases ho) q) (rdOs_2 (rz_of h))
theorem s_slCC {i j : Int} {j1 j2 : _} (he : PE X e (rdO G o)) : PE X (.Subscript e (.Slice (some (.Constant (.int i) j1 p3)) (some (.Constant (.int j) j2 p4)) none p2) pos) (rdE G (mPure (opSl (some i) (some j)) [o])) :=
  (pe_slice (z_sl (w := G.w)) he (po_some pe_int) (po_some pe_int)).byR fun σ H Q h => rdO_imp (fun x H1 q => ⟨i, rfl, j, rfl, q⟩) (rdOs_1 (rz_of h))

/-! ### turned about -/
theorem fm_congr {α β : Type} {f g : α → Option β} : ∀ {l : List α}, (∀ a ∈ l, f a = g a) → l.filterMap f = l.filterMap g
  | [], _ => rfl
  | a :: l, h => by
    rw [List.filterMap_cons, List.filterMap_cons, h a (by simp), fm_congr (l := l) fun b hb => h b (by simp [hb])]
theorem getItem_tuple_rev {prog : Program} {w : World} {A : Around} {E : Value → Shared → Prop} {s : Shared} {t sl : Addr} {items : Array Value} {vl vu vs : Value} {Q : Value → Shared → Prop} (ht : IsTup s.heap t items) (hs : s.heap.IsSliceOf sl vl vu vs) (pl : IsPart vl none) (pu : IsPart vu none) (ps : IsPart vs (some (-1)))
    (h : Q (.ref s.heap.objs.size) { s with heap := s.heap.push { cls := .type "tuple", data := .seq items.toList.reverse.toArray } }) (hsz : items.size ≤ sizeLine) : wpAny (model prog w) A (getItem (.ref t) (.ref sl)) Q E s := by
  obtain ⟨os, hos, hcs, hds⟩ := id hs
  have hTs : s.TypeIs (.ref sl) "slice" := ⟨os, hos, hcs⟩
  have fits : sizeOk (.seq items.toList.reverse.toArray) := by
    show items.toList.reverse.toArray.size ≤ sizeLine
    rw [List.size_toArray, List.length_reverse, Array.length_toList]
    exact hsz
  unfold getItem
  try with_reducible refine wpAny_holding ?_
  first | refine wpAny_bind (wpAny_pure ?_) | skip
  refine wpAny_bind (wpAny_sequenceKey ht.typeIs (by decide) ?_)
  refine wpAny_bind (wpAny_callSpecial?_slot (name := Str.ofString "__getitem__") ht.typeIs PyProof.Rows.slot_tuple_getitem (wpAny_call_entry PyProof.Rows.slot_tuple_getitem ht.typeIs PyProof.Rows.entry_tuple_getitem ?_ (PyProof.Rows.args_tuple_getitem _ _)))
  show wpAny _ _ (Builtin.Tuple.tupleItemsOf (.ref t) >>= _) _ _ s
  refine wpAny_bind (tupleItemsOf_ ht ?_)
  refine wpAny_bind (wpAny_typeOf hTs ?_)
  rw [if_pos (by decide)]
  have appl : ∀ {Q : Int × Int × Nat → Shared → Prop} {E : Value → Shared → Prop} {A : Around}, Q ((items.size : Int) - 1, -1, items.size) s → wpAny (model prog w) A (Builtin.Slice.sliceApplied (.ref sl) (pure (items.size : Int))) Q E s := fun {Q E A} q => by
    unfold Builtin.Slice.sliceApplied Builtin.Slice.sliceFields
    refine wpAny_bind (wpAny_bind (wpAny_field hos hds (x := vl) rfl (wpAny_bind (wpAny_field hos hds (x := vu) rfl (wpAny_bind (wpAny_field hos hds (x := vs) rfl (wpAny_pure ?_)))))))
    refine wpAny_bind (HT.slicePart_ ps ?_)
    show wpAny _ _ (if ((-1 : Int) == 0) = true then _ else _) _ _ s
    rw [if_neg (by decide)]
    refine wpAny_bind (HT.slicePart_ pl (wpAny_bind (HT.slicePart_ pu (wpAny_bind (wpAny_pure ?_)))))
    show wpAny _ _ (pure (((items.size : Int) - 1), (-1 : Int), Builtin.Slice.slicePlaces ((items.size : Int) - 1) (-1) (-1))) _ _ s
    have e : Builtin.Slice.slicePlaces ((items.size : Int) - 1) (-1) (-1) = items.size := by
      unfold Builtin.Slice.slicePlaces
      rw [if_neg (by decide)]
      by_cases h0 : (items.size : Int) - 1 > -1
      · rw [if_pos h0]
        have : ((items.size : Int) - 1 - -1 - 1) / (- -1) + 1 = (items.size : Int) := by
          rw [show (- -1 : Int) = 1 by decide, Int.ediv_one]
          omega
        rw [this]
        exact Int.toNat_natCast _
      · rw [if_neg h0]
        omega
    rw [e]
    exact wpAny_pure q
  refine wpAny_bind (appl ?_)
  have hno : ¬ ((((items.size : Int) - 1) == 0 && (-1 : Int) == 1 && items.size == items.size) = true) := by
    intro z
    rw [Bool.and_eq_true, Bool.and_eq_true] at z
    exact absurd (eq_of_beq z.1.2) (by decide)
  show wpAny _ _ (if (((items.size : Int) - 1) == 0 && (-1 : Int) == 1 && items.size == items.size) = true then _ else _) _ _ s
  have hp : ((List.range items.size).filterMap fun (k : Nat) => items[(((items.size : Int) - 1) + (k : Int) * -1).toNat]?).toArray = items.toList.reverse.toArray := by
    have := PySem.W.krv_pick items
    unfold slicePick at this
    rw [PySem.W.krv_bounds] at this
    rw [← this]
    show _ = ((sliceRange ((items.size : Int) - 1) (-1) (-1)).filterMap (items[·]?)).toArray
    rw [PySem.W.krv_sliceRange, List.filterMap_map]
    congr 1
    refine fm_congr fun k hk => ?_
    have hk' := List.mem_range.mp hk
    show items[_]? = items[items.size - 1 - k]?
    congr 1
    omega
  rw [if_neg hno, hp]
  first
    | exact wpAny_bind (m := Builtin.Tuple.tupleExact _) (wpAny_newObj_type (wpAny_pure ⟨_, rfl, wpAny_pure h⟩) fits)
    | exact wpAny_bind (m := Builtin.Tuple.tupleExact _) (wpAny_newObj_type (wpAny_bind (wpAny_pure (wpAny_pure ⟨_, rfl, wpAny_pure h⟩))) fits)
    | exact wpAny_bind (wpAny_bind (m := Builtin.Tuple.tupleExact _) (wpAny_newObj_type (wpAny_pure (wpAny_pure ⟨_, rfl, wpAny_pure h⟩)) fits))
    | exact wpAny_bind (wpAny_bind (m := Builtin.Tuple.tupleExact _) (wpAny_newObj_type (wpAny_pure ⟨_, rfl, wpAny_pure h⟩) fits))
def revd : List Da → Option Sl
  | [.list a] => some (.ow (.list a.reverse))
  | [.tuple a] => some (.fz (.tuple a.reverse))
  | _ => none
theorem s_rev {kk : Nat} (he : PE X e (rdO G o)) : PE X (.Subscript e (.Slice none none (some (.UnaryOp .USub (.Constant (.int 1) kk p) p2)) p3) pos) (rdE G (mPure revd [o])) := by
  refine ⟨fun pins s σ H Q I h => ?_⟩
  have h := rdOs_1 (rz_of h)
  refine Subscript_ (thn (he.run pins s σ H _ I h) fun v s1 ⟨x, H1, I1, r1, q1⟩ => ?_)
  obtain ⟨F, ds, sv, sf, dn, ho, k⟩ := q1
  obtain ⟨d, rfl, d1⟩ := dn.inv1
  have hst : PO X (some (.UnaryOp .USub (.Constant (.int 1) kk p) p2)) (tPart (tUn (rU fun i => .int (-i)) (tC (.int 1)))) := po_some (pe_un un_neg pe_int)
  refine wpAny_Slice (thn (po_none.run pins s1 σ H1 (fun o H2 => o = none ∧ H2 = H1) I1 ⟨rfl, rfl⟩) fun vl s2 ⟨l, H2, I2, pl, el, e2⟩ => ?_)
  subst el e2
  refine thn (po_none.run pins s2 σ H2 (fun o H3 => o = none ∧ H3 = H2) I2 ⟨rfl, rfl⟩) fun vu s3 ⟨u, H3, I3, pu, eu, e3⟩ => ?_
  subst eu e3
  refine thn (hst.run pins s3 σ H3 (fun o H4 => o = some (-1) ∧ H4 = H3) I3 ⟨1, rfl, -1, rfl, rfl, rfl⟩) fun vs s4 ⟨o, H4, I4, ps, eo, e4⟩ => ?_
  subst eo e4
  have I5 : L2.Inv X pins σ H4 { s4 with heap := s4.heap.push { cls := .type "slice", data := .fields #[vl, vu, vs] } } := I4.kept (t' := s4.toks) fun b ob q => Heap.get?_push_of_some _ q
  show wpAny (model X.prog X.w) X.A (subscriptTail e (.Slice none none (some (.UnaryOp .USub (.Constant (.int 1) kk p) p2)) p3) v (.ref s4.heap.objs.size)) (EP X pins σ Q) X.xe { s4 with heap := s4.heap.push { cls := .type "slice", data := .fields #[vl, vu, vs] } }
  unfold revd at ho
  split at ho
  · rename_i a e'
    cases e'
    cases ho
    obtain ⟨p1, xs, rfl, h1, n1⟩ := d1.list sf
    cases r1
    obtain ⟨its, r, ht, hz⟩ := I5.list (.inl h1)
    have hlen := r.length
    refine tail_any (ops := [.ref p1, .ref s4.heap.objs.size]) ht.isList.typeIs (PySem.slot_list_getitem.lookup) ?_ (by with_unfolding_all rfl)
    refine wpAny_getItem_list_slice ht.isList (Heap.IsSliceOf.new _ vl vu vs) pl pu ps (by decide) ?_ (by rw [List.size_toArray]; omega)
    rw [PySem.W.krv_pick]
    have fr := I5.hok.fresh (Nat.le_refl _)
    obtain ⟨g, n⟩ := new_lst sf fr n1.reverse
    refine ⟨.ref _, _, I5.laid (t' := s4.toks) (o := .lst xs.reverse) (fun b ob q => Heap.get?_push_of_some _ q) (Nat.le_refl _) ?_, rfl, k _ _ _ g n⟩
    exact ⟨by rw [List.length_reverse]; exact hz, _, 0, r.reverse, Heap.get?_push_size _ rfl⟩
  · rename_i a e'
    cases e'
    cases ho
    obtain ⟨p1, xs, rfl, h1, n1⟩ := d1.tuple
    cases r1
    obtain ⟨its, r, ht, hz⟩ := I5.tuple (.inl (Rd.mono sf h1))
    have hlen := r.length
    refine tail_any (ops := [.ref p1, .ref s4.heap.objs.size]) ht.typeIs (PyProof.Rows.slot_tuple_getitem.lookup) ?_ (by with_unfolding_all rfl)
    refine getItem_tuple_rev ht (Heap.IsSliceOf.new _ vl vu vs) pl pu ps ?_ (by rw [List.size_toArray]; omega)
    have fr := I5.hok.fresh (Nat.le_refl _)
    obtain ⟨g, n⟩ := new_tup sf fr n1.reverse
    refine ⟨.ref _, _, I5.laid (t' := s4.toks) (o := .tup xs.reverse) (fun b ob q => Heap.get?_push_of_some _ q) (Nat.le_refl _) ?_, rfl, k _ _ _ g n⟩
    exact ⟨by rw [List.length_reverse]; exact hz, _, r.reverse, IsTup.new _ _⟩
  · cases ho
end
/-! ### list(), tuple(), str() of data -/
def opList : List Da → Option Sl
  | [.list a] => some (.ow (.list a))
  | [.tuple a] => some (.ow (.list a))
  | _ => none
def opTuple : List Da → Option Sl
  | [.list a] => some (.fz (.tuple a))
  | [.tuple a] => some (.fz (.tuple a))
  | _ => none
def opStr : List Da → Option Sl
  | [.int i] => if i.natAbs < 2 ^ 1000 then some (.fz (.str (toString i))) else none
  | [.bool b] => some (.fz (.str (if b then "True" else "False")))
  | _ => none
def opInt : List Da → Option Sl
  | [.int i] => some (.fz (.int i))
  | [.bool b] => some (.fz (.int (if b then 1 else 0)))
  | _ => none
/-! ### all(), any() of truths -/
def truths : List Da → Option (List Bool)
  | [] => some []
  | .bool b :: r => (truths r).map fun bs => b :: bs
  | _ :: _ => none
def opAll : List Da → Option Sl
  | [.list a] => (truths a).map fun bs => .fz (.bool (bs.all id))
  | _ => none
def opAny : List Da → Option Sl
  | [.list a] => (truths a).map fun bs => .fz (.bool (bs.any id))
  | _ => none
theorem truths_v {w : World} {F : Hp} : ∀ {ds : List Da} {xs : List V} {bs : List Bool}, DnAll w F xs ds → truths ds = some bs → xs = bs.map V.bl
  | [], _, _, h, e => by cases h; cases e; rfl
  | d :: ds, _, bs, h, e => by
    cases h with
    | cons a b =>
      cases d with
      | bool k =>
        cases a
        unfold truths at e
        cases hr : truths ds with
        | none => rw [hr] at e; cases e
        | some cs =>
          rw [hr] at e
          cases e
          rw [truths_v b hr]
          rfl
      | none => cases e
      | int _ => cases e
      | str _ => cases e
      | list _ => cases e
      | tuple _ => cases e
      | dict _ => cases e
section
variable {X : Cx} {w : World}
theorem z_list : CallR X (.type "list") (Rz w opList) := by
  intro pins s σ H xs us Q I r q
  obtain ⟨F, ds, sl, sf, dn, ho, k⟩ := q
  unfold opList at ho
  split at ho
  · cases ho
    obtain ⟨x, rfl, d1⟩ := dn.one
    obtain ⟨p1, xs, rfl, h1, n1⟩ := d1.list sf
    refine call_list_of pins s σ H _ us Q I r ⟨_, xs, rfl, .inl (.inl h1), fun p hp => ?_⟩
    obtain ⟨g, n⟩ := new_lst sf hp n1
    exact k _ _ _ g n
  · cases ho
    obtain ⟨x, rfl, d1⟩ := dn.one
    obtain ⟨p1, xs, rfl, h1, n1⟩ := d1.tuple
    refine call_list_of pins s σ H _ us Q I r ⟨_, xs, rfl, .inr (.inl (Rd.mono sf h1)), fun p hp => ?_⟩
    obtain ⟨g, n⟩ := new_lst sf hp n1
    exact k _ _ _ g n
  · cases ho
theorem z_tuple : CallR X (.type "tuple") (Rz w opTuple) := by
  intro pins s σ H xs us Q I r q
  obtain ⟨F, ds, sl, sf, dn, ho, k⟩ := q
  unfold opTuple at ho
  split at ho
  · cases ho
    obtain ⟨x, rfl, d1⟩ := dn.one
    obtain ⟨p1, xs, rfl, h1, n1⟩ := d1.list sf
    refine call_tuple_of pins s σ H _ us Q I r ⟨_, xs, rfl, .inl ⟨.inl h1, fun p hp => ?_⟩⟩
    obtain ⟨g, n⟩ := new_tup sf hp n1
    exact k _ _ _ g n
  · cases ho
    obtain ⟨x, rfl, d1⟩ := dn.one
    obtain ⟨p1, xs, rfl, h1, n1⟩ := d1.tuple
    exact call_tuple_of pins s σ H _ us Q I r ⟨_, xs, rfl, .inr ⟨.inl (Rd.mono sf h1), k _ F H (Gr.refl sf) (.tup h1 n1)⟩⟩
  · cases ho
theorem z_str : CallR X (.type "str") (Rz w opStr) := by
  intro pins s σ H xs us Q I r q
  obtain ⟨F, ds, sl, sf, dn, ho, k⟩ := q
  unfold opStr at ho
  split at ho
  · split at ho
    case isFalse => cases ho
    case isTrue hc =>
    cases ho
    obtain ⟨x, rfl, d1⟩ := dn.one
    have e1 := d1.int
    subst e1
    exact call_str_int pins s σ H _ us Q I r ⟨_, rfl, Nat.lt_of_lt_of_le (PySem.Flt.log2_lt_of (by decide) hc) (by decide), k _ F H (Gr.refl sf) (.str _)⟩
  · rename_i b
    cases ho
    obtain ⟨x, rfl, d1⟩ := dn.one
    have e1 := d1.bool
    subst e1
    obtain ⟨u, rfl, rx⟩ := vals1 r
    cases rx
    exact PySem.P.str_of_bool ⟨.str _, H, I.tok _, ⟨_, rfl⟩, k _ F H (Gr.refl sf) (.str _)⟩
  · cases ho
theorem z_int : CallR X (.type "int") (Rz w opInt) := by
  intro pins s σ H xs us Q I r q
  obtain ⟨F, ds, sl, sf, dn, ho, k⟩ := q
  unfold opInt at ho
  split at ho
  · cases ho
    obtain ⟨x, rfl, d1⟩ := dn.one
    have e1 := d1.int
    subst e1
    exact call_int1 pins s σ H _ us Q I r (.inl ⟨_, rfl, k _ F H (Gr.refl sf) (.int _)⟩)
  · cases ho
    obtain ⟨x, rfl, d1⟩ := dn.one
    have e1 := d1.bool
    subst e1
    exact call_int1 pins s σ H _ us Q I r (.inr ⟨_, rfl, k _ F H (Gr.refl sf) (.int _)⟩)
  · cases ho
theorem z_all (hc : X.calm = true) : CallR X (.builtin "all") (Rz w opAll) := by
  intro pins s σ H xs us Q I r q
  obtain ⟨F, ds, sl, sf, dn, ho, k⟩ := q
  unfold opAll at ho
  split at ho
  · rename_i a
    cases hb : truths a with
    | none => rw [hb] at ho; cases ho
    | some bs =>
      rw [hb] at ho
      cases ho
      obtain ⟨x, rfl, d1⟩ := dn.one
      obtain ⟨p1, xs, rfl, h1, n1⟩ := d1.list sf
      have e := truths_v n1 hb
      subst e
      exact cr_all hc pins s σ H _ us Q I r ⟨_, bs, rfl, .inl h1, k _ F H (Gr.refl sf) (.bl _)⟩
  · cases ho
theorem z_any (hc : X.calm = true) : CallR X (.builtin "any") (Rz w opAny) := by
  intro pins s σ H xs us Q I r q
  obtain ⟨F, ds, sl, sf, dn, ho, k⟩ := q
  unfold opAny at ho
  split at ho
  · rename_i a
    cases hb : truths a with
    | none => rw [hb] at ho; cases ho
    | some bs =>
      rw [hb] at ho
      cases ho
      obtain ⟨x, rfl, d1⟩ := dn.one
      obtain ⟨p1, xs, rfl, h1, n1⟩ := d1.list sf
      have e := truths_v n1 hb
      subst e
      exact cr_any hc pins s σ H _ us Q I r ⟨_, bs, rfl, .inl h1, k _ F H (Gr.refl sf) (.bl _)⟩
  · cases ho
end
end Sh
set_option Elab.async false
set_option linter.all false
set_option maxRecDepth 100000
set_option autoImplicit false
/-! own layer 9: sorted, chains, what is walked -/
namespace Sh
open PySem PySem.Spec PyProof.Rows L2

/-! ### sorted(list) -/
def neTup : Da → Bool
  | .tuple (_ :: _) => true
  | _ => false
def noTup : Da → Bool
  | .tuple _ => false
  | .none => false
  | _ => true
def sortOk (ds : List Da) : Bool := (ds.all fun d => ds.all fun e => PySem.W.alike d e) && (ds.all neTup || ds.all noTup) && (ds.all fun d => decide (d.depth ≤ 60)) && decide (ds.length ≤ 1000000)
def sortD (ds : List Da) : List Da := ds.mergeSort (PySem.W.dataLe false id)
def opSorted : List Da → Option Sl
  | [.list a] => if sortOk a = true then some (.ow (.list (sortD a))) else none
  | _ => none
theorem sortOk_of {ds : List Da} (h : sortOk ds = true) : PySem.W.AllAlike ds ∧ PySem.W.Sortable ds ∧ (∀ d ∈ ds, d.depth ≤ 60) ∧ ds.length ≤ 1000000 := by
  unfold sortOk at h
  simp only [Bool.and_eq_true, Bool.or_eq_true, decide_eq_true_eq, List.all_eq_true] at h
  obtain ⟨⟨⟨h1, h2⟩, h3⟩, h4⟩ := h
  refine ⟨fun d hd e he => h1 d hd e he, ?_, h3, h4⟩
  rcases h2 with h2 | h2
  · refine .inl fun d hd => ?_
    have := h2 d hd
    cases d with
    | tuple xs =>
      cases xs with
      | nil => cases this
      | cons x r => exact ⟨x, r, rfl⟩
    | _ => cases this
  · refine .inr fun d hd => ?_
    have := h2 d hd
    cases d <;> first | (cases this; done) | exact ⟨by simp, by simp⟩
theorem each_of {w : World} {F : Hp} : ∀ {xs : List V} {ds : List Da} {us : List Value}, DnAll w F xs ds → Vals xs us → PySem.W.EachIs (fun v d => ∃ x, L2.RelV x v ∧ Dn w F x d) us ds
  | _, _, _, .nil, .nil => .nil
  | _, _, _, .cons a b, .cons r t => .cons ⟨_, r, a⟩ (each_of b t)
theorem of_each {w : World} {F : Hp} : ∀ {us : List Value} {ds : List Da}, PySem.W.EachIs (fun v d => ∃ x, L2.RelV x v ∧ Dn w F x d) us ds → ∃ xs, Vals xs us ∧ DnAll w F xs ds
  | _, _, .nil => ⟨[], .nil, .nil⟩
  | _, _, .cons ⟨x, r, a⟩ t => by
    obtain ⟨xs, h1, h2⟩ := of_each t
    exact ⟨x :: xs, .cons r h1, .cons a h2⟩
theorem each_map {α β γ : Type} {R R' : α → β → Prop} : ∀ {as : List α} {bs : List β}, PySem.W.EachIs R as bs → (∀ a b, R a b → R' a b) → PySem.W.EachIs R' as bs
  | _, _, .nil, _ => .nil
  | _, _, .cons a t, k => .cons (k _ _ a) (each_map (γ := γ) t k)
section
variable {X : Cx} {w : World}
theorem z_sorted (hu : X.A.units + 64 < cLine) : CallR X (.builtin "sorted") (Rz w opSorted) := by
  intro pins s σ H xs us Q I r q
  obtain ⟨F, ds, sl, sf, dn, ho, k⟩ := q
  unfold opSorted at ho
  split at ho
  · rename_i a
    split at ho
    case isFalse => cases ho
    case isTrue hc =>
    cases ho
    obtain ⟨x, rfl, d1⟩ := dn.one
    obtain ⟨p1, ys, rfl, h1, n1⟩ := d1.list sf
    obtain ⟨g1, g2, g3, g4⟩ := sortOk_of hc
    obtain ⟨its, rv, hl, hz⟩ := I.list (.inl h1)
    rw [Vals.ref1 r]
    have ea := each_of n1 rv
    have er : PySem.W.EachIs (fun v d => ∃ as, Reads s.heap v (id d) as) its a := each_map (γ := Unit) ea fun v d ⟨x, q1, q2⟩ => Dn.reads I.hok (q2.mono sf) q1
    refine PySem.W.sorted_data (enc := id) hl.isList ea er (by rw [List.map_id]; exact g1) (by rw [List.map_id]; exact g2) (line_ge g4) (fun b hb => by have := g3 b hb; show _ + 2 + b.depth < _; omega) fun out hlen eo => ?_
    obtain ⟨zs, vz, nz⟩ := of_each eo
    obtain ⟨ep, he'⟩ := PyProof.Rows.sortedAll_at s.heap its out.toArray
    have hfr : H (s.heap.objs.size + 1) = none := I.hok.fresh (Nat.le_succ _)
    obtain ⟨g, n⟩ := new_lst sf hfr nz
    refine ⟨.ref _, upd H (s.heap.objs.size + 1) (.lst zs), I.laid (t' := s.toks) (fun _ _ => PyProof.Rows.sortedAll_old) (Nat.le_succ _) ⟨?_, out, ep, vz, he'⟩, rfl, k _ _ _ g n⟩
    rw [vz.length, hlen]
    exact line_ge g4
  · cases ho
end
/-! ### a op b op c -/
def mChain (op op' : List Da → Option Sl) (oa ob oc : Opd) : ME := fun en => (evalOps [oa, ob] en).bind fun p => match (resAll p.2 p.1).bind op with
  | some (.fz (.bool true)) => match p.1 with
    | [_, y] => (evalOps [oc] p.2).bind fun q => match (resAll q.2 (y :: q.1)).bind op' with
      | some s => .ok (s, q.2)
      | none => .bad
    | _ => .bad
  | some (.fz (.bool false)) => .ok (.fz (.bool false), p.2)
  | _ => .bad
theorem opRel_two {w : World} {F : Hp} {σ : L2.St} {xs : List V} {a b : Op} (h : OpRel w F σ xs [a, b]) : ∃ x y, xs = [x, y] ∧ OpIs w F σ x a ∧ OpIs w F σ y b := by
  cases h with
  | cons h1 h2 => cases h2 with | cons h2 h3 => cases h3; exact ⟨_, _, rfl, h1, h2⟩
section
variable {X : Cx} {w : World} {G : Gx} {e a b c : Expr} {oa ob oc : Opd} {pos : Pos}
theorem rd_chain {op op' : List Da → Option Sl} {σ : L2.St} {H : Hp} {Q : VK} (h : rdE G (mChain op op' oa ob oc) σ H Q) :
    tChain (fun x y H Q => Rz G.w op [x, y] H Q) (fun x y H Q => Rz G.w op' [x, y] H Q) (rdO G oa) (rdO G ob) (rdO G oc) σ H Q := by
  obtain ⟨F, Fo, en, R, h⟩ := h
  unfold mChain at h
  refine rdOs_2 (Q := fun xs H2 => match xs with
    | [x, y] => Rz G.w op [x, y] H2 fun z H3 => ∃ k, z = .bl k ∧ (if k = true then rdO G oc σ H3 fun w' H4 => Rz G.w op' [y, w'] H4 Q else Q (.bl false) H3)
    | _ => False) ⟨F, Fo, en, R, ?_⟩
  cases hr : evalOps [oa, ob] en with
  | bad => simp only [hr] at h; exact h.elim
  | ex e => simp only [hr] at h; exact h
  | ok p =>
    obtain ⟨os, en1⟩ := p
    simp only [hr, Rs.bind] at h
    intro xs F1 H1 s1 R1 rel
    have hlen : os.length = 2 := evalOps_len hr
    match os, hlen with
    | [o1, o2], _ =>
    obtain ⟨x, y, rfl, i1, i2⟩ := opRel_two rel
    cases hd : resAll en1 [o1, o2] with
    | none => simp only [hd] at h; exact h.elim
    | some ds =>
      simp only [hd, Option.bind_some] at h
      cases ho : op ds with
      | none => simp only [ho] at h; exact h.elim
      | some sv =>
        simp only [ho] at h
        have dn := resAll_dn R1 rel hd
        by_cases ht : sv = .fz (.bool true)
        · subst ht
          dsimp only at h
          refine ⟨F1, ds, _, R1.fh, dn, ho, fun z F2 H2 g n => ⟨true, by cases n; rfl, ?_⟩⟩
          rw [if_pos rfl]
          have R2 := R1.grow g
          have i2' : OpIs G.w F2 σ y o2 := by
            cases o2 with
            | «at» i => exact i2
            | va d => exact Dn.mono g.ff i2
          refine rdOs_1 (Q := fun ws H4 => match ws with
            | [w'] => Rz G.w op' [y, w'] H4 Q
            | _ => False) ⟨F2, Fo, en1, R2, ?_⟩
          cases hr2 : evalOps [oc] en1 with
          | bad => simp only [hr2] at h; exact h.elim
          | ex e => simp only [hr2] at h; exact PostX.mono (s1.trans g.ff) (Same.refl _) h
          | ok q =>
            obtain ⟨os2, en2⟩ := q
            simp only [hr2] at h
            intro ws F3 H3 s3 R3 rel3
            have rel4 : OpRel G.w F3 σ (y :: ws) (o2 :: os2) := .cons (by
              cases o2 with
              | «at» i => exact i2'
              | va d => exact Dn.mono s3 i2') rel3
            have hl2 : os2.length = 1 := evalOps_len hr2
            match os2, hl2 with
            | [o3], _ =>
            obtain ⟨y', w', e', _, _⟩ := opRel_two rel4
            cases e'
            cases hd3 : resAll en2 [o2, o3] with
            | none => simp only [hd3] at h; exact h.elim
            | some ds3 =>
              simp only [hd3, Option.bind_some] at h
              cases ho3 : op' ds3 with
              | none => simp only [ho3] at h; exact h.elim
              | some s4 =>
                simp only [ho3] at h
                exact ⟨F3, ds3, s4, R3.fh, resAll_dn R3 rel4 hd3, ho3, fun z F4 H4 g4 n4 => h z F4 H4 (((s1.trans g.ff).trans s3).trans g4.ff) (R3.push g4 n4)⟩
        · by_cases hf : sv = .fz (.bool false)
          · subst hf
            dsimp only at h
            refine ⟨F1, ds, _, R1.fh, dn, ho, fun z F2 H2 g n => ⟨false, by cases n; rfl, ?_⟩⟩
            rw [if_neg (by decide)]
            exact h _ F2 H2 (s1.trans g.ff) (R1.push g (s := .fz (.bool false)) (.bl false))
          · exfalso
            split at h
            · rename_i q; exact ht (Option.some.inj q)
            · rename_i q; exact hf (Option.some.inj q)
            · exact h
theorem s_chain {oper oper' : CmpOp} {op op' : List Da → Option Sl} (ho : OpZ X G.w (compareOp oper) op) (ho' : OpZ X G.w (compareOp oper') op') (ha : PE X a (rdO G oa)) (hb : PE X b (rdO G ob)) (hc : PE X c (rdO G oc))
    (hm : lastMarks [oper, oper'] [b, c] = false := by with_unfolding_all rfl) : PE X (.Compare a [oper, oper'] [b, c] pos) (rdE G (mChain op op' oa ob oc)) :=
  (pe_chain ho ho' ha hb hc hm).byR fun _ _ _ h => rd_chain h
theorem t_chain {oper oper' : CmpOp} {op op' : List Da → Option Sl} (ho : OpZ X G.w (compareOp oper) op) (ho' : OpZ X G.w (compareOp oper') op') (ha : PE X a (rdO G oa)) (hb : PE X b (rdO G ob)) (hc : PE X c (rdO G oc))
    (hm : lastMarks [oper, oper'] [b, c] = false := by with_unfolding_all rfl) : PT X (.Compare a [oper, oper'] [b, c] pos) (rdT G (mTE (mChain op op' oa ob oc))) :=
  (pt_chain ho ho' ha hb hc hm).byR fun _ _ _ h => rd_chain (rd_te h)
end
/-! ### what is walked: by the data -/
section
variable {X : Cx} {G : Gx} {tg e e2 : Expr} {o o2 : Opd} {p pos : Pos}
theorem rdI_os {it : ItM} {σ : L2.St} {H : Hp} {R : It → Hp → Prop} (h : rdI G it σ H R) :
    (∀ Q, rdOs G it.ops σ H Q) ∨ ∃ ds items, it.items ds = some items ∧ rdOs G it.ops σ H fun xs H1 => ∃ F, Same F H1 ∧ Dn1s G.w F H1 xs ds ∧ ∀ J, ItD G.w xs ds items J → R J H1 := by
  obtain ⟨F, Fo, en, R0, h⟩ := h
  cases hr : evalOps it.ops en with
  | bad => rw [hr] at h; exact h.elim
  | ex x => rw [hr] at h; exact .inl fun Q => ⟨F, Fo, en, R0, by rw [hr]; exact h⟩
  | ok q =>
    obtain ⟨os, en1⟩ := q
    rw [hr] at h
    cases hd : resAll en1 os with
    | none => simp only [hd, Option.bind_none] at h
    | some ds =>
      simp only [hd, Option.bind_some] at h
      cases hi : it.items ds with
      | none => simp only [hi] at h
      | some items =>
        simp only [hi] at h
        obtain ⟨ds', e', k⟩ := h
        cases e'
        refine .inr ⟨ds, items, hi, F, Fo, en, R0, ?_⟩
        rw [hr]
        exact fun xs F1 H1 s1 R1 rel => ⟨F1, R1.fh, resAll_dn R1 rel hd, fun J hJ => k xs F1 H1 J s1 R1 rel hJ⟩
def itSeq : List Da → Option (List Da)
  | [.list ds] => some ds
  | [.tuple ds] => some ds
  | [.str z] => some (z.cps.toList.map fun c => .str ⟨#[c]⟩)
  | _ => none
theorem itd_list {w : World} {K : PySem.W.Frag} {a : Addr} {ds : List Da} : ItD w [.ref a] [.list ds] ds (Itl K a) := by
  intro F H sf dn i
  obtain ⟨x, e, d1⟩ := dn.one
  cases e
  obtain ⟨p, xs, e, h1, n1⟩ := d1.list sf
  cases e
  refine ⟨fun d hd => ?_, fun hl => ⟨xs, .inl h1, by rw [n1.length]; exact hl⟩⟩
  obtain ⟨v, hv, nv⟩ := n1.get hd
  refine ⟨⟨xs, v, .inl h1, hv⟩, fun x H' hy => ?_⟩
  obtain ⟨rfl, hy⟩ := hy
  have := hy xs (.inl h1)
  rw [hv] at this
  cases this
  exact ⟨F, Gr.refl sf, nv⟩
theorem itd_tup {w : World} {K : PySem.W.Frag} {a : Addr} {ds : List Da} : ItD w [.ref a] [.tuple ds] ds (Itt K a) := by
  intro F H sf dn i
  obtain ⟨x, e, d1⟩ := dn.one
  cases e
  obtain ⟨p, xs, e, h1, n1⟩ := d1.tuple
  cases e
  have h1' : SqT K H a xs := .inl (Rd.mono sf h1)
  refine ⟨fun d hd => ?_, fun hl => ⟨xs, h1', by rw [n1.length]; exact hl⟩⟩
  obtain ⟨v, hv, nv⟩ := n1.get hd
  refine ⟨⟨xs, v, h1', hv⟩, fun x H' hy => ?_⟩
  obtain ⟨rfl, hy⟩ := hy
  have := hy xs h1'
  rw [hv] at this
  cases this
  exact ⟨F, Gr.refl sf, nv⟩
theorem itd_str {w : World} {z : Str} : ItD w [.str z] [.str z] (z.cps.toList.map fun c => .str ⟨#[c]⟩) (Its z) := by
  intro F H sf dn i
  have hlen : (z.cps.toList.map fun c => (PyData.str ⟨#[c]⟩ : Da)).length = z.cps.size := by simp
  refine ⟨fun d hd => ?_, fun hl => by rw [hlen] at hl; exact hl⟩
  have hi : i < z.cps.size := by
    have := (List.getElem?_eq_some_iff.mp hd).1
    rw [hlen] at this; exact this
  refine ⟨hi, fun x H' hy => ?_⟩
  obtain ⟨rfl, c, hc, rfl⟩ := hy
  refine ⟨F, Gr.refl sf, ?_⟩
  rw [List.getElem?_map] at hd
  have e2 : z.cps.toList[i]? = some c := by rw [Array.getElem?_toList]; exact hc
  rw [e2] at hd
  cases hd
  exact .str _
theorem i_seq (he : PE X e (rdO G o)) : PI X tg e (rdI G ⟨[o], itSeq⟩) := by
  refine ⟨fun pins s σ H R I h => ?_⟩
  rcases rdI_os h with h | ⟨ds, items, hi, h⟩
  · exact (pi_list (tg := tg) he).run pins s σ H R I (rdO_imp (fun _ _ q => q.elim) (rdOs_1 (h fun _ _ => False)))
  · unfold itSeq at hi
    simp only at hi
    split at hi
    · cases hi
      refine (pi_list (tg := tg) he).run pins s σ H R I (rdO_imp (fun x H1 q => ?_) (rdOs_1 h))
      obtain ⟨F, sf, dn, k⟩ := q
      obtain ⟨x', e', d1⟩ := dn.one
      cases e'
      obtain ⟨p1, ys, rfl, h1, n1⟩ := d1.list sf
      exact ⟨p1, rfl, ⟨ys, .inl h1⟩, k _ itd_list⟩
    · cases hi
      refine (pi_tup (tg := tg) he).run pins s σ H R I (rdO_imp (fun x H1 q => ?_) (rdOs_1 h))
      obtain ⟨F, sf, dn, k⟩ := q
      obtain ⟨x', e', d1⟩ := dn.one
      cases e'
      obtain ⟨p1, ys, rfl, h1, n1⟩ := d1.tuple
      exact ⟨p1, rfl, ⟨ys, .inl (Rd.mono sf h1)⟩, k _ itd_tup⟩
    · cases hi
      refine (pi_str (tg := tg) he).run pins s σ H R I (rdO_imp (fun x H1 q => ?_) (rdOs_1 h))
      obtain ⟨F, sf, dn, k⟩ := q
      obtain ⟨x', e', d1⟩ := dn.one
      cases e'
      have e1 := d1.str
      subst e1
      exact ⟨_, rfl, k _ itd_str⟩
    · cases hi
/-! ### range -/
def itRng : List Da → Option (List Da)
  | [.int n] => if n < 1000 ∧ -1000 < n then some ((List.range n.toNat).map fun k : Nat => .int (k : Int)) else none
  | _ => none
theorem itd_rng {w : World} {n : Int} : ItD w [.int n] [.int n] ((List.range n.toNat).map fun k : Nat => .int (k : Int)) (Itr 0 n.toNat) := by
  intro F H sf dn i
  refine ⟨fun d hd => ?_, fun hl => by rw [List.length_map, List.length_range] at hl; exact hl⟩
  have hi : i < n.toNat := by
    have := (List.getElem?_eq_some_iff.mp hd).1
    rw [List.length_map, List.length_range] at this; exact this
  refine ⟨hi, fun x H' hy => ?_⟩
  obtain ⟨rfl, rfl⟩ := hy
  refine ⟨F, Gr.refl sf, ?_⟩
  rw [List.getElem?_map, List.getElem?_range hi] at hd
  cases hd
  rw [Int.zero_add]
  exact .int _
theorem i_rng (hg : Gl X "range") (hm : X.mg "range" = none) (ha : PA X [e] (rdOs G [o])) (hs : starEach [e] X.env = [(false, eval e X.env)] := by rfl) : PI X tg (.Call (.Name "range" p) [e] [] pos) (rdI G ⟨[o], itRng⟩) := by
  refine ⟨fun pins s σ H R I h => (pi_range1 (tg := tg) hg hm ha hs).run pins s σ H R I ?_⟩
  rcases rdI_os h with h | ⟨ds, items, hi, h⟩
  · exact h _
  · obtain ⟨F, Fo, en, R0, h⟩ := h
    refine ⟨F, Fo, en, R0, ?_⟩
    cases hr : evalOps [o] en with
    | bad => rw [hr] at h; exact h
    | ex x => rw [hr] at h; exact h
    | ok q =>
      rw [hr] at h
      intro xs F1 H1 s1 R1 rel
      obtain ⟨F2, sf, dn, k⟩ := h xs F1 H1 s1 R1 rel
      unfold itRng at hi
      simp only at hi
      split at hi
      · rename_i n
        split at hi
        case isFalse => cases hi
        case isTrue hc =>
        cases hi
        obtain ⟨x', e', d1⟩ := dn.one
        subst e'
        have e1 := d1.int
        subst e1
        exact ⟨n, rfl, by omega, by omega, k _ itd_rng⟩
      · cases hi
end
end Sh
set_option Elab.async false
set_option linter.all false
set_option maxRecDepth 100000
set_option autoImplicit false
/-! own layer 10: zip, enumerate -/
namespace Sh
open PySem PySem.Spec PyProof.Rows L2

/-! ### zip -/
def zipD : List Da → List Da → List Da
  | x :: xs, y :: ys => .tuple [x, y] :: zipD xs ys
  | _, _ => []
def itZip : List Da → Option (List Da)
  | [.list a, .list b] => some (zipD a b)
  | [.tuple a, .tuple b] => some (zipD a b)
  | _ => none
theorem zipD_get : ∀ {xs ys : List Da} {i : Nat} {d : Da}, (zipD xs ys)[i]? = some d → ∃ x y, xs[i]? = some x ∧ ys[i]? = some y ∧ d = .tuple [x, y]
  | [], _, _, _, h => by simp [zipD] at h
  | _ :: _, [], _, _, h => by simp [zipD] at h
  | x :: xs, y :: ys, 0, d, h => by simp [zipD] at h; exact ⟨x, y, rfl, rfl, h.symm⟩
  | x :: xs, y :: ys, i + 1, d, h => by
    obtain ⟨a, b, h1, h2, h3⟩ := zipD_get (xs := xs) (ys := ys) (i := i) (d := d) (by simpa [zipD] using h)
    exact ⟨a, b, by simpa using h1, by simpa using h2, h3⟩
theorem zipD_len : ∀ xs ys : List Da, (zipD xs ys).length = min xs.length ys.length
  | [], _ => by simp [zipD]
  | _ :: _, [] => by simp [zipD]
  | x :: xs, y :: ys => by simp [zipD, zipD_len xs ys]
theorem pair_new {w : World} {F H : Hp} {T : Addr} {x y : V} {a b : Da} (sf : Same F H) (hT : H T = none) (hx : Dn w F x a) (hy : Dn w F y b) : ∃ F', Gr F H F' (upd H T (.tup [x, y])) ∧ Dn w F' (.ref T) (.tuple [a, b]) :=
  ⟨_, Gr.newF sf hT, .tup (.inl upd_same) (.cons (hx.mono (same_upd (sf.free hT))) (.cons (hy.mono (same_upd (sf.free hT))) .nil))⟩
theorem itd_zipL {w : World} {K : PySem.W.Frag} {a b : Addr} {ds es : List Da} : ItD w [.ref a, .ref b] [.list ds, .list es] (zipD ds es) (Itz K a b) := by
  intro F H sf dn i
  obtain ⟨x, y, e, d1, d2⟩ := dn.two
  cases e
  obtain ⟨p, xs, e, h1, n1⟩ := d1.list sf
  cases e
  obtain ⟨q, ys, e, h2, n2⟩ := d2.list sf
  cases e
  have l1 := n1.length
  have l2 := n2.length
  refine ⟨fun d hd => ?_, fun hl => ⟨xs, ys, .inl h1, .inl h2, by rw [zipD_len] at hl; omega⟩⟩
  obtain ⟨da, db, g1, g2, rfl⟩ := zipD_get hd
  obtain ⟨v, hv, nv⟩ := n1.get g1
  obtain ⟨u, hu, nu⟩ := n2.get g2
  refine ⟨⟨xs, ys, v, u, .inl h1, .inl h2, hv, hu⟩, fun x H' hy => ?_⟩
  obtain ⟨T, x1, y1, rfl, hT, rfl, f1, f2⟩ := hy
  have e1 := f1 xs (.inl h1)
  have e2 := f2 ys (.inl h2)
  rw [hv] at e1
  rw [hu] at e2
  cases e1
  cases e2
  exact pair_new sf hT nv nu
theorem itd_zipT {w : World} {K : PySem.W.Frag} {a b : Addr} {ds es : List Da} : ItD w [.ref a, .ref b] [.tuple ds, .tuple es] (zipD ds es) (RZ.ItzT K a b) := by
  intro F H sf dn i
  obtain ⟨x, y, e, d1, d2⟩ := dn.two
  cases e
  obtain ⟨p, xs, e, h1, n1⟩ := d1.tuple
  cases e
  obtain ⟨q, ys, e, h2, n2⟩ := d2.tuple
  cases e
  have l1 := n1.length
  have l2 := n2.length
  have h1' : SqT K H a xs := .inl (Rd.mono sf h1)
  have h2' : SqT K H b ys := .inl (Rd.mono sf h2)
  refine ⟨fun d hd => ?_, fun hl => ⟨xs, ys, h1', h2', by rw [zipD_len] at hl; omega⟩⟩
  obtain ⟨da, db, g1, g2, rfl⟩ := zipD_get hd
  obtain ⟨v, hv, nv⟩ := n1.get g1
  obtain ⟨u, hu, nu⟩ := n2.get g2
  refine ⟨⟨xs, ys, v, u, h1', h2', hv, hu⟩, fun x H' hy => ?_⟩
  obtain ⟨T, x1, y1, rfl, hT, rfl, f1, f2⟩ := hy
  have e1 := f1 xs h1'
  have e2 := f2 ys h2'
  rw [hv] at e1
  rw [hu] at e2
  cases e1
  cases e2
  exact pair_new sf hT nv nu
section
variable {X : Cx} {G : Gx} {tg e e2 : Expr} {o o2 : Opd} {ops : List Opd} {p pos tpos : Pos} {elts : List Expr} {kk : Nat}
theorem i_zip (hg : Gl X "zip") (hm : X.mg "zip" = none) (ha : PA X [e, e2] (rdOs G ops))
    (hs : starEach [e, e2] X.env = (false, eval e X.env) :: starEach [e2] X.env := by rfl) (hpl : (backTo pos (starEach [e2] X.env)).any (·.1) = false := by rfl) :
    PI X (.Tuple elts kk tpos) (.Call (.Name "zip" p) [e, e2] [] pos) (rdI G ⟨ops, itZip⟩) := by
  refine ⟨fun pins s σ H R I h => (RZ.pi_zipA (elts := elts) (kk := kk) (tpos := tpos) hg hm ha hs hpl).run pins s σ H R I ?_⟩
  rcases rdI_os h with h | ⟨ds, items, hi, h⟩
  · exact h _
  · obtain ⟨F, Fo, en, R0, h⟩ := h
    refine ⟨F, Fo, en, R0, ?_⟩
    cases hr : evalOps ops en with
    | bad => simp only [hr] at h; exact h
    | ex x => simp only [hr] at h; exact h
    | ok q =>
      simp only [hr] at h
      intro xs F1 H1 s1 R1 rel
      obtain ⟨F2, sf, dn, k⟩ := h xs F1 H1 s1 R1 rel
      unfold itZip at hi
      simp only at hi
      split at hi
      · cases hi
        obtain ⟨x, y, rfl, d1, d2⟩ := dn.two
        obtain ⟨p1, ys, rfl, h1, n1⟩ := d1.list sf
        obtain ⟨p2, zs, rfl, h2, n2⟩ := d2.list sf
        exact ⟨_, _, ys, zs, rfl, .inl ⟨.inl h1, .inl h2, k _ itd_zipL⟩⟩
      · cases hi
        obtain ⟨x, y, rfl, d1, d2⟩ := dn.two
        obtain ⟨p1, ys, rfl, h1, n1⟩ := d1.tuple
        obtain ⟨p2, zs, rfl, h2, n2⟩ := d2.tuple
        exact ⟨_, _, ys, zs, rfl, .inr ⟨.inl (Rd.mono sf h1), .inl (Rd.mono sf h2), k _ itd_zipT⟩⟩
      · cases hi
end
/-! ### enumerate -/
def enumD : Nat → List Da → List Da
  | _, [] => []
  | k, x :: xs => .tuple [.int (k : Int), x] :: enumD (k + 1) xs
def itEnum : List Da → Option (List Da)
  | [.list a] => some (enumD 0 a)
  | [.tuple a] => some (enumD 0 a)
  | _ => none
theorem enumD_get : ∀ {k : Nat} {xs : List Da} {i : Nat} {d : Da}, (enumD k xs)[i]? = some d → ∃ x, xs[i]? = some x ∧ d = .tuple [.int ((k + i : Nat) : Int), x]
  | _, [], _, _, h => by simp [enumD] at h
  | k, x :: xs, 0, d, h => by simp [enumD] at h; exact ⟨x, rfl, h.symm⟩
  | k, x :: xs, i + 1, d, h => by
    obtain ⟨a, h1, h2⟩ := enumD_get (k := k + 1) (xs := xs) (i := i) (d := d) (by simpa [enumD] using h)
    exact ⟨a, by simpa using h1, by rw [h2, show k + 1 + i = k + (i + 1) by omega]⟩
theorem enumD_len : ∀ (k : Nat) (xs : List Da), (enumD k xs).length = xs.length
  | _, [] => rfl
  | k, x :: xs => by simp [enumD, enumD_len (k + 1) xs]
set_option maxHeartbeats 1000000 in
theorem meets_enum1 {v : Value} {o : Obj} {H : Heap → Prop} (B : Begins v o H) :
    Meets (Builtin.«enumerate.__new__» ⟨[.type "enumerate", v], []⟩) (fun _ R s => H s.heap ∧
      R (.ok (.ret (.ref (s.heap.push o).objs.size))) { s with heap := (s.heap.push o).push { cls := .type "enumerate", data := .fields #[.none, .bool false, .ref s.heap.objs.size, rawInt 0, .none, .none] } }) :=
  .of_wp fun prog w A R s h => by
    obtain ⟨hp, g, d, tk, os⟩ := s; obtain ⟨h1, h⟩ := h
    have hsub := sub_enumerate
    have it1 : ∀ {A' : Around} {E : Value → Shared → Prop} {Q : Value → Shared → Prop}, Q (.ref hp.objs.size) ⟨hp.push o, g, d, tk, os⟩ → wpAny (model prog w) A' (pyIter v) Q E ⟨hp, g, d, tk, os⟩ :=
      fun q => B.iter prog w _ _ ⟨hp, g, d, tk, os⟩ _ h1 q
    wp_walk using it1
    refine wpAny_stack_any fun st => wpAny_pure ?_
    split
    · rename_i c _ _ _ _ _
      cases (c == Value.type "enumerate")
      · wp_walk using it1
        exact ⟨_, rfl, h⟩
      · wp_walk using it1
        exact ⟨_, rfl, h⟩
    · wp_walk using it1
      exact ⟨_, rfl, h⟩
theorem enum_call {prog : Program} {w : World} {A : Around} {E : Value → Shared → Prop} {s : Shared} {v : Value} {o : Obj} {H : Heap → Prop} {Q : Value → Shared → Prop} (B : Begins v o H) (h1 : H s.heap)
    (h : ∀ h', IsEnum h' (s.heap.objs.size + 1) s.heap.objs.size 0 .none → h'.get? s.heap.objs.size = some o → h'.objs.size = s.heap.objs.size + 2 → (∀ b o, s.heap.get? b = some o → h'.get? b = some o) → Q (.ref (s.heap.objs.size + 1)) { s with heap := h' }) :
    wpAny (model prog w) A (call (.type "enumerate") [v]) Q E s := by
  refine callType_new F.called_enumerate (by decide) (F.typeCall_enumerate_1 _) (F.newCall_enumerate_1 _) (fun obj => F.args_object_init_2 obj _) F.entry_enumerate_new (meets_enum1 B) ⟨h1, ?_⟩
  have hz : (s.heap.push o).objs.size = s.heap.objs.size + 1 := Heap.size_push ..
  show _ ∧ _
  rw [hz]
  have he : IsEnum ((s.heap.push o).push { cls := .type "enumerate", data := .fields #[.none, .bool false, .ref s.heap.objs.size, rawInt 0, .none, .none] }) (s.heap.objs.size + 1) s.heap.objs.size 0 .none := by
    have := Heap.get?_push_size (s.heap.push o) (o := { cls := .type "enumerate", data := .fields #[.none, .bool false, .ref s.heap.objs.size, rawInt 0, .none, .none] }) rfl
    rw [hz] at this; exact this
  refine ⟨⟨_, he, rfl⟩, h _ he (Heap.get?_push_of_some _ (Heap.get?_push_size _ B.free)) (by rw [Heap.size_push, hz]) fun b o x => Heap.get?_push_of_some _ (Heap.get?_push_of_some _ x)⟩
theorem wpAny_enumT_end {prog : Program} {w : World} {A : Around} {E : Value → Shared → Prop} {s : Shared} {e it l : Addr} {i : Nat} {items : Array Value} {old : Value} {Q : Option Value → Shared → Prop} (hh : A.handled = none)
    (he : IsEnum s.heap e it i old) (hit : s.heap.IsTupleIter it l i) (hl : IsTup s.heap l items) (hx : items[i]? = none) (hQ : ∀ h', Heap.ExtBut it s.heap h' → Q none { s with heap := h' }) : wpAny (model prog w) A (pyNext (.ref e)) Q E s := by
  have hT : s.TypeIs (.ref e) "enumerate" := ⟨_, he, rfl⟩
  unfold pyNext
  refine wpAny_bind (wpAny_attempt (wpAny_callSpecial?_slot (name := Str.ofString "__next__") hT F.slot_enumerate_next (wpAny_call_entry F.slot_enumerate_next hT F.entry_enumerate_next ?_ (F.args_enumerate_next_1 _))))
  show wpAny _ _ (field (.ref e) 2 >>= _) _ _ _
  refine wpAny_bind (wpAny_field he rfl (x := .ref it) rfl ?_)
  refine wpAny_bind (wpAny_nextOf_tuple_end hh hit hl hx fun h' x he' hx' => ?_)
  obtain ⟨o, ho, hc⟩ := hx'
  refine wpAny_bind (wpAny_isInstance (T := "StopIteration") (b := true) ⟨o, ho, hc⟩ isSubtype_stop ?_)
  exact wpAny_pure (hQ _ he')
/-- the tuple at a as it stands at each turn, each item in a new pair -/
def IteT (K : PySem.W.Frag) (a : Addr) : It :=
  ⟨fun i H => ∃ (xs : List V) (x : V), SqT K H a xs ∧ xs[i]? = some x, fun i H v H' => ∃ T x, v = .ref T ∧ H T = none ∧ H' = upd H T (.tup [.int (i : Nat), x]) ∧ ∀ xs, SqT K H a xs → xs[i]? = some x, fun i H => ∃ xs : List V, SqT K H a xs ∧ xs.length ≤ i⟩
theorem turn_enumT {P : Program} {w : World} {K : PySem.W.Frag} {elts : List Expr} {kk : Nat} {tpos : Pos} (a e it : Addr) :
    Turn P w K (.Tuple elts kk tpos) (IteT K a) [e, it] e (fun i h => (∃ old, IsEnum h e it ((i : Nat) : Int) old) ∧ h.IsTupleIter it a i ∧ e ≠ it) where
  mem := by simp
  obj := fun i h st b hb => by
    obtain ⟨⟨old, he⟩, ⟨o, ho, hc, hd⟩, _⟩ := st
    have e' : b = e ∨ b = it := by simpa using hb
    rcases e' with z | z
    · rw [z]; exact ⟨_, he, fun v q => nomatch q⟩
    · rw [z]; exact ⟨o, ho, fun v q => by rw [hd] at q; cases q⟩
  keep := fun i h h' st k => let ⟨⟨old, he⟩, hi, hne⟩ := st; ⟨⟨old, k e (by simp) _ he⟩, hi.at fun o q => k it (by simp) o q, hne⟩
  item := by
    intro X hP hw hK hc i pins s σ H E I hf st hg
    subst hP hw hK
    obtain ⟨⟨old, he⟩, hit, hne⟩ := st
    obtain ⟨xs, x, hq, hx⟩ := hg
    obtain ⟨its, rv, p, hz⟩ := I.tuple hq
    obtain ⟨u, hu, ru⟩ := rv.get hx
    have hel : e < s.heap.objs.size := Heap.lt_size he
    have hil : it < s.heap.objs.size := by obtain ⟨_, q, _⟩ := hit; exact Heap.lt_size q
    have hait : a ≠ it := fun z => by
      have h1 := (hf it (by simp)).1
      rcases hq with q | ⟨o, its', n, q, _⟩
      · rw [z] at q
        rcases q with q | ⟨o, q⟩ <;> (rw [h1] at q; cases q)
      · obtain ⟨o', e1, e2, _⟩ := hit
        obtain ⟨o2, e3, e4, _⟩ := p
        rw [z, e1] at e3
        cases e3
        rw [e2] at e4
        exact absurd (Value.type.inj e4) (by decide)
    have hae : a ≠ e := fun z => by
      obtain ⟨o2, e3, e4, _⟩ := p
      rw [z, he] at e3
      cases e3
      exact absurd (Value.type.inj e4) (by decide)
    have D := Draws.tuple (prog := X.prog) (w := X.w) (A := X.A.in1) (I.ok.hd hc) it a hait its.toArray
    have hilt : i < its.toArray.size := by
      rw [List.size_toArray]
      exact (List.getElem?_eq_some_iff.mp hu).1
    refine wpAny_pyNext_enum_itemD D he ⟨hit, p⟩ hilt hne (by simp [hne]; exact fun z => hae z.symm) fun x' h' tk hPx ho hst' hT hsz hk => ?_
    have ex : x' = u := by
      have hPx' : its.toArray[i]? = some x' := hPx
      rw [← Array.getElem?_toList] at hPx'
      rw [show its.toArray.toList = its by simp, hu] at hPx'
      cases hPx'
      rfl
    subst ex
    obtain ⟨hit', _⟩ := hst'
    refine ⟨_, rfl, wpAny_letOwnedTupleGo_enum (s := { s with heap := h', toks := tk + 1 }) ho fun h'' he' sb => ?_⟩
    have hT2 : h''.get? s.heap.objs.size = some { cls := .type "tuple", data := .seq #[.int i tk, x'] } := (sb.2 _ (Nat.ne_of_gt hel)).trans hT
    have new : ObjOk X.prog X.w (upd H s.heap.objs.size (.tup [.int (i : Nat), x])) h'' s.heap.objs.size (.tup [.int (i : Nat), x]) :=
      ⟨by show 2 ≤ sizeLine; decide, [.int i tk, x'], .cons ⟨_, rfl⟩ (.cons ru .nil), ⟨_, hT2, rfl, _, rfl⟩⟩
    have I1 : L2.Inv X pins σ (upd H s.heap.objs.size (.tup [.int (i : Nat), x])) { s with heap := h'', toks := tk + 1 } :=
      I.turnedNew (ch := [e, it]) (fun b ob hb q => (sb.2 b (fun z => hb (by simp [z]))).trans (hk b ob (fun z => hb (by simp [z])) (fun z => hb (by simp [z])) q)) hf (Nat.le_refl _) new
    refine ⟨.ref s.heap.objs.size, _, I1, rfl, ⟨_, x, rfl, I.hok.fresh (Nat.le_refl _), rfl, fun ys hy => by rw [I.tuple_inj hy hq]; exact hx⟩, ⟨⟨x', ?_⟩, hit'.at fun o q => (sb.2 it (Ne.symm hne)).trans q, hne⟩, fun b hb => ?_⟩
    · have e1 : ((i + 1 : Nat) : Int) = (i : Int) + 1 := by omega
      rw [e1]; exact he'
    · have hb' : b < s.heap.objs.size := by
        have e' : b = e ∨ b = it := by simpa using hb
        rcases e' with z | z
        · rw [z]; exact hel
        · rw [z]; exact hil
      rw [upd_ne (Nat.ne_of_lt hb')]
      exact (hf b hb).1
  done := by
    intro X hP hw hK hc i pins s σ H E I hf st hg
    subst hP hw hK
    obtain ⟨⟨old, he⟩, hit, hne⟩ := st
    obtain ⟨xs, hq, hx⟩ := hg
    obtain ⟨its, rv, p, hz⟩ := I.tuple hq
    obtain ⟨f0, f1, f2, f3, f4, f5⟩ := hf it (by simp)
    have hl := rv.length
    refine wpAny_enumT_end (I.ok.hd hc) he hit p (by simp; omega) fun h' eb => ⟨rfl, I.turned (t' := s.toks) (fun b o hb q => eb b o hb q) f0 f1 f3 f4 f5⟩
  self := fun A i s Q E st h => let ⟨⟨_, he⟩, _⟩ := st; wpAny_pyIter_enum he h
theorem itd_enumL {w : World} {K : PySem.W.Frag} {a : Addr} {ds : List Da} : ItD w [.ref a] [.list ds] (enumD 0 ds) (Ite K a) := by
  intro F H sf dn i
  obtain ⟨x, e, d1⟩ := dn.one
  cases e
  obtain ⟨p, xs, e, h1, n1⟩ := d1.list sf
  cases e
  refine ⟨fun d hd => ?_, fun hl => ⟨xs, .inl h1, by rw [enumD_len] at hl; rw [n1.length]; exact hl⟩⟩
  obtain ⟨da, g1, rfl⟩ := enumD_get hd
  obtain ⟨v, hv, nv⟩ := n1.get g1
  refine ⟨⟨xs, v, .inl h1, hv⟩, fun x H' hy => ?_⟩
  obtain ⟨T, x1, rfl, hT, rfl, f1⟩ := hy
  have e1 := f1 xs (.inl h1)
  rw [hv] at e1
  cases e1
  rw [Nat.zero_add]
  exact pair_new sf hT (.int _) nv
theorem itd_enumT {w : World} {K : PySem.W.Frag} {a : Addr} {ds : List Da} : ItD w [.ref a] [.tuple ds] (enumD 0 ds) (IteT K a) := by
  intro F H sf dn i
  obtain ⟨x, e, d1⟩ := dn.one
  cases e
  obtain ⟨p, xs, e, h1, n1⟩ := d1.tuple
  cases e
  have h1' : SqT K H a xs := .inl (Rd.mono sf h1)
  refine ⟨fun d hd => ?_, fun hl => ⟨xs, h1', by rw [enumD_len] at hl; rw [n1.length]; exact hl⟩⟩
  obtain ⟨da, g1, rfl⟩ := enumD_get hd
  obtain ⟨v, hv, nv⟩ := n1.get g1
  refine ⟨⟨xs, v, h1', hv⟩, fun x H' hy => ?_⟩
  obtain ⟨T, x1, rfl, hT, rfl, f1⟩ := hy
  have e1 := f1 xs h1'
  rw [hv] at e1
  cases e1
  rw [Nat.zero_add]
  exact pair_new sf hT (.int _) nv
section
variable {X : Cx} {G : Gx} {tg e e2 : Expr} {o o2 : Opd} {ops : List Opd} {p pos tpos : Pos} {elts : List Expr} {kk : Nat}
theorem pi_enumT {ta : TA} (hg : Gl X "enumerate") (hm : X.mg "enumerate" = none) (ha : PA X [e] ta) (hs : starEach [e] X.env = [(false, eval e X.env)] := by rfl) :
    PI X (.Tuple elts kk tpos) (.Call (.Name "enumerate" p) [e] [] pos) (fun σ H R => ta σ H fun vs H1 => ∃ a xs, vs = [.ref a] ∧ SqT X.K H1 a xs ∧ R (IteT X.K a) H1) := by
  refine ⟨fun pins s σ H R I h => ?_⟩
  refine Call_ (ld_blt I hg hm boot_enumerate (PyProof.Rows.callWith_type1 (thn (ha.run pos pins s σ H _ I h) fun us s1 ⟨vs, H1, I1, r1, q1⟩ => ?_) hs rfl))
  obtain ⟨a, xs, ex, hq, q⟩ := q1
  subst ex
  rw [Vals.ref1 r1]
  obtain ⟨its, rv, pt, hz⟩ := I1.tuple hq
  refine enum_call (begins_tuple a its.toArray) pt fun h' he hit hsz hk => wpAny_pyIter_enum he ?_
  have I2 : L2.Inv X pins σ H1 { s1 with heap := h' } := I1.kept (t' := s1.toks) hk
  refine ⟨s1.heap.objs.size + 1, [s1.heap.objs.size + 1, s1.heap.objs.size], _, _, H1, rfl, I2, turn_enumT a (s1.heap.objs.size + 1) s1.heap.objs.size, ⟨⟨.none, he⟩, ⟨_, hit, rfl, rfl⟩, Nat.succ_ne_self _⟩, fun b hb => ?_, q⟩
  have e' : b = s1.heap.objs.size + 1 ∨ b = s1.heap.objs.size := by simpa using hb
  rcases e' with z | z
  · rw [z]; exact I1.fpOk (Nat.le_succ _) (I1.hok.fresh (Nat.le_succ _))
  · rw [z]; exact I1.fpOk (Nat.le_refl _) (I1.hok.fresh (Nat.le_refl _))
theorem i_enum (hg : Gl X "enumerate") (hm : X.mg "enumerate" = none) (ha : PA X [e] (rdOs G ops)) (hs : starEach [e] X.env = [(false, eval e X.env)] := by rfl) :
    PI X (.Tuple elts kk tpos) (.Call (.Name "enumerate" p) [e] [] pos) (rdI G ⟨ops, itEnum⟩) := by
  refine ⟨fun pins s σ H R I h => ?_⟩
  rcases rdI_os h with h | ⟨ds, items, hi, h⟩
  · exact (pi_enumT hg hm ha hs).run pins s σ H R I (h _)
  · unfold itEnum at hi
    simp only at hi
    split at hi
    · cases hi
      refine (pi_enum hg hm ha hs).run pins s σ H R I ?_
      obtain ⟨F, Fo, en, R0, h⟩ := h
      refine ⟨F, Fo, en, R0, ?_⟩
      cases hr : evalOps ops en with
      | bad => simp only [hr] at h; exact h
      | ex x => simp only [hr] at h; exact h
      | ok q =>
        simp only [hr] at h
        intro xs F1 H1 s1 R1 rel
        obtain ⟨F2, sf, dn, k⟩ := h xs F1 H1 s1 R1 rel
        obtain ⟨x, rfl, d1⟩ := dn.one
        obtain ⟨p1, ys, rfl, h1, n1⟩ := d1.list sf
        exact ⟨_, ys, rfl, .inl h1, k _ itd_enumL⟩
    · cases hi
      refine (pi_enumT hg hm ha hs).run pins s σ H R I ?_
      obtain ⟨F, Fo, en, R0, h⟩ := h
      refine ⟨F, Fo, en, R0, ?_⟩
      cases hr : evalOps ops en with
      | bad => simp only [hr] at h; exact h
      | ex x => simp only [hr] at h; exact h
      | ok q =>
        simp only [hr] at h
        intro xs F1 H1 s1 R1 rel
        obtain ⟨F2, sf, dn, k⟩ := h xs F1 H1 s1 R1 rel
        obtain ⟨x, rfl, d1⟩ := dn.one
        obtain ⟨p1, ys, rfl, h1, n1⟩ := d1.tuple
        exact ⟨_, ys, rfl, .inl (Rd.mono sf h1), k _ itd_enumT⟩
    · cases hi
end
end Sh
set_option Elab.async false
set_option linter.all false
set_option maxRecDepth 100000
set_option autoImplicit false
/-! own layer 11: the law's def, its script -/
namespace Sh
open PySem PySem.Spec PyProof.Rows L2

abbrev FnP (K : PySem.W.Frag) (x : Str) (st : Stmt) (f : Addr) (fd : FuncData) : Prop := FunD K x x (defArgs st) (defBody st) (defScope st) [] [] f fd
theorem fun_of {K : PySem.W.Frag} {x : Str} {st : Stmt} {f : Addr} {fd : FuncData} (F : FnP K x st f fd) : Fun K x x st f fd := by
  obtain ⟨oc, od, dV, kV, doc, pm, an, cdv, ct, osl, e, lk, hcd, hD, hK⟩ := F.ex
  rcases hD with ⟨_, rfl⟩ | ⟨e', _⟩
  · exact ⟨⟨oc, od, kV, doc, pm, an, cdv, ct, osl, e, lk, hcd⟩, F.kp⟩
  · exact absurd rfl e'
/-- the script in slot 0 -/
def Scr (K : PySem.W.Frag) (ns : List Int) (σ : L2.St) (H : Hp) : Prop := ∃ a, σ[0]? = some (some (.ref a)) ∧ SqL K H a (ns.map V.int)
def mScr (ds : List Da) : ME := fun en => .ok (.ow (.list ds), en)
section
variable {X : Cx} {G : Gx} {tg e iter : Expr} {p p1 p2 p3 p4 p5 pos : Pos} {sts : List Stmt}
theorem cat_sq : OpR X (binaryOp .Add) (fun x y H Q => ∃ l b xs zs, x = .ref l ∧ y = .ref b ∧ SqL X.K H l xs ∧ SqL X.K H b zs ∧ xs.length + zs.length ≤ sizeLine ∧ ∀ p, H p = none → Q (.ref p) (upd H p (.lst (xs ++ zs)))) := by
  intro pins s σ H x y v u Q I rx ry h
  obtain ⟨l, b, xs, zs, rfl, rfl, hH, hB, hz, q⟩ := h
  cases rx
  cases ry
  obtain ⟨its, r, pl, _⟩ := I.list hH
  obtain ⟨its2, r2, pl2, _⟩ := I.list hB
  have hl := r.length
  have hl2 := r2.length
  obtain ⟨⟨cls, dd, data, sl⟩, n, ho, hc, hdd, hd⟩ := id pl
  obtain ⟨⟨cls2, dd2, data2, sl2⟩, n2, ho2, hc2, hdd2, hd2⟩ := id pl2
  simp only at hc hd hc2 hd2
  subst hc hd hc2 hd2
  have ea : its.toArray ++ its2.toArray = (its ++ its2).toArray := by simp
  refine concat_meets ⟨_, ho, rfl⟩ ⟨_, ho2, rfl⟩ noFill_list_add seq_list_add PySem.F.slot_list_add PySem.F.entry_list_add (PySem.F.args_list_add_2 _ _) (list_addW l b its.toArray its2.toArray n n2 dd dd2 sl sl2 (by rw [List.size_toArray, List.size_toArray]; omega)) ⟨ho, ho2, ?_⟩
  rw [ea]
  exact ⟨.ref _, _, I.lnew (t' := s.toks) (r.append r2) (by rw [List.length_append]; omega), rfl, q _ I.fresh⟩
theorem ints_dn {w : World} {F : Hp} : ∀ ns : List Int, DnAll w F (ns.map V.int) (ns.map PyData.int)
  | [] => .nil
  | n :: ns => .cons (.int n) (ints_dn ns)
/-- ([0] + script)[:k] -/
theorem s_scr {ns : List Int} {k : Int} {i1 i2 : Nat} (hl : ns.length ≤ 1000) (h0 : X.N[0]? = some ("script" : Str)) (hv : Vis X.env.scope "script") (hs : starEach [.Constant (.int 0) i1 p] X.env = (false, eval (.Constant (.int 0) i1 p) X.env) :: starEach [] X.env := by rfl) :
    PE X (.Subscript (.BinOp (.List [.Constant (.int 0) i1 p] p1) .Add (.Name "script" p2) p3) (.Slice none (some (.Constant (.int k) i2 p4)) none p5) pos)
      (fun σ H Q => Scr X.K ns σ H ∧ rdE G (mScr (cutD ((0 :: ns).map PyData.int) none (some k))) σ H Q) := by
  refine (pe_slice sl_list (pe_op cat_sq (pe_lst (pa_cons pe_int pa_nil hs)) (pe_var h0 hv)) po_none (po_some pe_int)).byR fun σ H Q h => ?_
  obtain ⟨⟨a, e0, hS⟩, F, Fo, en, R, h⟩ := h
  refine ⟨by show 1 ≤ sizeLine; decide, fun p hp => ?_⟩
  have g1 : Gr F H F (upd H p (.lst [.int 0])) := Gr.new R.fh hp
  have R1 := R.grow g1
  have hS1 : SqL X.K (upd H p (.lst [.int 0])) a (ns.map V.int) := g1.hh.seq hS
  refine ⟨.ref a, e0, p, a, [.int 0], ns.map V.int, rfl, rfl, .inl (.inl upd_same), hS1, line_ge (by simp; omega), fun p' hp' => ?_⟩
  have g2 : Gr F (upd H p (.lst [.int 0])) F (upd (upd H p (.lst [.int 0])) p' (.lst ([.int 0] ++ ns.map V.int))) := Gr.new R1.fh hp'
  have R2 := R1.grow g2
  refine ⟨k, rfl, p', _, rfl, .inl (.inl upd_same), fun q hq => ?_⟩
  have dn : DnAll G.w F (cutV ([V.int 0] ++ ns.map V.int) none (some k)) (cutD ((0 :: ns).map PyData.int) none (some k)) := (ints_dn (w := G.w) (F := F) (0 :: ns)).cut none (some k)
  obtain ⟨g3, n3⟩ := new_lst R2.fh hq dn
  exact h _ F _ (Same.refl _) (R2.push g3 n3)
theorem i_scr {ns : List Int} {ds : List Da} (he : PE X e (fun σ H Q => Scr X.K ns σ H ∧ rdE G (mScr ds) σ H Q)) : PI X tg e (fun σ H R => Scr X.K ns σ H ∧ rdI G ⟨[.ex (mScr ds)], itSeq⟩ σ H R) := by
  refine ⟨fun pins s σ H R I h => ?_⟩
  obtain ⟨c, h⟩ := h
  rcases rdI_os h with h | ⟨ds', items, hi, h⟩
  · exact (pi_list (tg := tg) he).run pins s σ H R I ⟨c, rdO_imp (o := .ex (mScr ds)) (fun _ _ q => q.elim) (rdOs_1 (h fun _ _ => False))⟩
  · have h1 := rdOs_1 h
    refine (pi_list (tg := tg) he).run pins s σ H R I ⟨c, ?_⟩
    obtain ⟨F, Fo, en, R0, post⟩ := h1
    refine ⟨F, Fo, en, R0, fun x F1 H1 s1 R1 => ?_⟩
    obtain ⟨F2, sf, dn, k⟩ := post x F1 H1 s1 R1
    obtain ⟨a, e1, q1⟩ := R1.ow (i := 0) (by rfl)
    simp at e1
    subst e1
    obtain ⟨xs, hx, _⟩ := q1.list
    refine ⟨a, rfl, ⟨xs, .inl (.inl hx)⟩, ?_⟩
    unfold itSeq at hi
    simp only at hi
    split at hi
    · cases hi; exact k _ itd_list
    · rename_i zs
      obtain ⟨y, ey, d1⟩ := dn.one
      cases ey
      obtain ⟨b, ys, eb, h2, _⟩ := d1.tuple
      cases eb
      have := Rd.mono sf h2
      rcases this with t | ⟨o, t⟩ <;> (rw [hx] at t; cases t)
    · obtain ⟨y, ey, d1⟩ := dn.one
      cases ey
      cases d1.str
    · cases hi
theorem ss_forC {C : L2.St → Hp → Prop} {it : ItM} {t : Tg} {m : MS} (hp : PassesOwn (model X.prog X.w) X.A X.env X.xe) (hc : X.calm = true) (hi : PI X tg iter (fun σ H R => C σ H ∧ rdI G it σ H R)) (hg : PG X tg (rdG G t)) (hb : PSs X sts (rdS G m))
    (hsrc : ∀ en os en', evalOps it.ops en = .ok (os, en') → atSlots os = []) (h0 : noZero G t = true := by rfl) (hs : ∀ x, foldedSetIterable iter X.env x = pure x := by intro _; rfl) : PS X (.For tg iter sts [] pos) (fun D σ H => C σ H ∧ rdS G (mFor it t m) D σ H) :=
  (ps_for hp hc hi hg hb hs).byR fun _ _ _ h => ⟨h.1, rd_for hsrc h0 h.2⟩
theorem ss_consC {C : L2.St → Hp → Prop} {st : Stmt} {m n : MS} (h1 : PS X st (fun D σ H => C σ H ∧ rdS G m D σ H)) (h2 : PSs X sts (rdS G n)) : PSs X (st :: sts) (fun D σ H => C σ H ∧ rdS G (mSeq m n) D σ H) :=
  (pss_cons h1 h2).byR fun _ _ _ h => ⟨h.1, rd_seq h.2⟩
end
/-- what the law's def promises -/
def spLaw (K : PySem.W.Frag) : Sp := fun vs H Q _ => ∃ (a : Addr) (ns : List Int), vs = [.ref a] ∧ ns.length ≤ 63 ∧ SqL K H a (ns.map V.int) ∧ ∀ H', Q (.bl true) H'
section
variable {P : Program} {K : PySem.W.Frag} {mg : Str → Option Value} {base : Heap} {c : Gc}
theorem fn_law {x qual : Str} {st : Stmt} {f : Addr} {fd : FuncData} {N ps : List Str} {k n : Nat} {m : List Int → MS} (F : Fun K x qual st f fd) (S : FnScope N ps (defScope st)) (hps : ps.length = 1) (hn : N.length - 1 = n)
    (hbody : ∀ (ns : List Int), ns.length ≤ 1000 → ∀ (cdv : Value) (A : Around) (outer : List Env) (s : Shared) (H : Hp), Room k (A.deeper (envOfC qual (defScope st) s.heap.objs.size f cdv)) →
      PSs (cxOf CX0 P c.w K mg base N qual (defScope st) f cdv A outer s H E0).nox (defBody st) (fun D σ H => Scr K ns σ H ∧ rdS (c.g E0 false) (m ns) D σ H))
    (hm : ∀ ns : List Int, ns.length ≤ 63 → ∃ en, m ns (List.replicate (n + 1) .no) = .ok (.rt (.fz (.bool true)), en)) : FnOk P c.w K mg base CX0 (k + 1) f fd ps (spLaw K) := by
  refine F.ok S (fun vs H Q E h => ?_) fun cdv A outer s H vs Q E hr h => ?_
  · obtain ⟨a, ns, rfl, _⟩ := h
    exact hps.symm
  · obtain ⟨a, ns, rfl, hl, hS, q⟩ := h
    have hb := hbody ns (by omega) cdv A outer s H hr
    refine ⟨_, hb, ⟨a, rfl, hS⟩, fun _ => none, foreign (fun _ => none) H, List.replicate (n + 1) .no, ?_, ?_⟩
    · refine ⟨fun b o e => (nomatch e), fun b o e => (foreign_none e).2, fun b o e => rfl, ?_, fun i t ov h1 h2 => ?_, fun i j b di dj _ h1 _ _ _ => ?_, fun i d b h1 _ => ?_⟩
      · unfold L2.start
        simp
        omega
      · rw [List.getElem?_replicate] at h1
        split at h1
        · cases h1; trivial
        · cases h1
      · rw [List.getElem?_replicate] at h1
        split at h1 <;> cases h1
      · rw [List.getElem?_replicate] at h1
        split at h1 <;> cases h1
    · obtain ⟨en, e⟩ := hm ns hl
      rw [e]
      intro v σ' F' H' _ R1 _
      obtain ⟨v', e1, q1⟩ := R1.fz (i := 0) (by rfl)
      simp at e1
      subst e1
      cases q1
      exact q H'
end
end Sh
set_option Elab.async false
set_option linter.all false
set_option maxRecDepth 100000
set_option autoImplicit false
/-! own layer 12: defs by their names -/
namespace Sh
open PySem PySem.Spec PyProof.Rows L2

structure Dfn (P : Program) (w : World) (K : PySem.W.Frag) (mg : Str → Option Value) (base : Heap) (x : Str) (k : Nat) (ps : List Str) (sp : Sp) : Prop where
  ex : ∃ f fd, FnOk P w K mg base CX0 k f fd ps sp ∧ mg x = some (.ref f) ∧ PySem.W.keepIn K (.ref f) = true ∧ Binds K fd ps []
structure Dst (K : PySem.W.Frag) (mg : Str → Option Value) (x : Str) (st : Stmt) : Prop where
  ex : ∃ f fd, FnP K x st f fd ∧ mg x = some (.ref f)
abbrev BindsBy (x : Str) (st : Stmt) (ps : List Str) : Prop := ∀ (kV doc pm : Value) (an : Option Addr) (cdv ct : Value) (us : List Value), us.length = ps.length → bindArgs (PySem.W.fnOf x x (defArgs st) (defBody st) (defScope st) .none kV doc pm an cdv ct) ⟨us, []⟩ = pure (ps.zip us)
section
variable {P : Program} {K : PySem.W.Frag} {mg : Str → Option Value} {base : Heap} {c : Gc} {x : Str} {st : Stmt} {N ps : List Str} {k n : Nat}
theorem mk_P {m : MS} (D : Dst K mg x st) (S : FnScope N ps (defScope st)) (hn : N.length - ps.length = n) (hb : BindsBy x st ps)
    (hbody : ∀ (f : Addr) (cdv : Value) (A : Around) (outer : List Env) (s : Shared) (H : Hp), Room k (A.deeper (envOfC x (defScope st) s.heap.objs.size f cdv)) →
      PSs (cxOf CX0 P c.w K mg base N x (defScope st) f cdv A outer s H E0).nox (defBody st) (rdS (c.g E0 false) m)) : Dfn P c.w K mg base x (k + 1) ps (spP c ps.length (fnP n m)) := by
  obtain ⟨f, fd, F, hm⟩ := D.ex
  exact ⟨f, fd, fn_P (fun_of F) S hn fun cdv A outer s H hr => hbody f cdv A outer s H hr, hm, F.kp, F.bindsN hb⟩
theorem mk_D {m : MS} (D : Dst K mg x st) (S : FnScope N ps (defScope st)) (hn : N.length - ps.length = n) (hb : BindsBy x st ps)
    (hbody : ∀ (f : Addr) (cdv : Value) (A : Around) (outer : List Env) (s : Shared) (H : Hp), Room k (A.deeper (envOfC x (defScope st) s.heap.objs.size f cdv)) →
      PSs (cxOf CX0 P c.w K mg base N x (defScope st) f cdv A outer s H E0).nox (defBody st) (rdS (c.g E0 true) m)) : Dfn P c.w K mg base x (k + 1) ps (spD c ps.length (fnD n m)) := by
  obtain ⟨f, fd, F, hm⟩ := D.ex
  exact ⟨f, fd, fn_D (fun_of F) S hn fun cdv A outer s H hr => hbody f cdv A outer s H hr, hm, F.kp, F.bindsN hb⟩
theorem pss_never {X : Cx} {G : Gx} {sts : List Stmt} : PSs X sts (rdS G mNever) := ⟨fun pins s σ H Q I h => by
  obtain ⟨F, Fo, en, R, h⟩ := h
  exact h.elim⟩
/-- a promise that nobody asks -/
theorem mk_P0 (D : Dst K mg x st) (S : FnScope N ps (defScope st)) (hb : BindsBy x st ps) : Dfn P c.w K mg base x (k + 1) ps (spP c ps.length fun _ => .bad) := by
  obtain ⟨f, fd, F, hm⟩ := D.ex
  refine ⟨f, fd, (fun_of F).ok S (fun vs H Q E h => spP.len vs H Q E h) (fun cdv A outer s H vs Q E hr h => ?_), hm, F.kp, F.bindsN hb⟩
  obtain ⟨F, ds, _, _, _, h⟩ := h
  exact h.elim
theorem mk_D0 (D : Dst K mg x st) (S : FnScope N ps (defScope st)) (hb : BindsBy x st ps) : Dfn P c.w K mg base x (k + 1) ps (spD c ps.length fun _ _ => .bad) := by
  obtain ⟨f, fd, F, hm⟩ := D.ex
  refine ⟨f, fd, (fun_of F).ok S (fun vs H Q E h => spD.len vs H Q E h) (fun cdv A outer s H vs Q E hr h => ?_), hm, F.kp, F.bindsN hb⟩
  obtain ⟨F, a, vs', dk, ds, _, _, _, _, _, h⟩ := h
  exact h.elim
end
section
variable {X : Cx} {c : Gc} {p0 : Bool} {k n : Nat} {ps : List Str} {x : Str} {p pos : Pos} {e o : Expr} {es : List Expr} {ops : List Opd}
theorem s_fn {fm : List Da → Rs Sl} (D : Dfn X.prog X.w X.K X.mg X.base x k ps (spP c n fm)) (hr : Room k X.A) (ha : PA X (e :: es) (rdOs (c.g E0 p0) ops)) (hg : Gl X x := by rfl) (hn : ops.length = n := by rfl) (hdb : (x == ("__debug__" : Str)) = false := by decide)
    (he : starEach (e :: es) X.env = (false, eval e X.env) :: starEach es X.env := by rfl) (hpl : (backTo pos (starEach es X.env)).any (·.1) = false := by rfl) : PE X (.Call (.Name x p) (e :: es) [] pos) (rdE (c.g E0 p0) (mCall fm ops)) := by
  obtain ⟨f, fd, Fk, hm, hk, hb⟩ := D.ex
  exact s_call Fk hr hg hm hk hb (fun _ _ _ _ _ _ _ h => h.elim) ha hn hdb he hpl
theorem s_fnD {i : Nat} {gm : List Da → List Da → Rs (Sl × List Da)} (D : Dfn X.prog X.w X.K X.mg X.base x k ps (spD c n gm)) (hr : Room k X.A) (ho : PE X o (tVar i)) (ha : PA X es (rdOs (c.g E0 p0) ops)) (hg : Gl X x := by rfl) (hn : ops.length + 1 = n := by rfl) (hdb : (x == ("__debug__" : Str)) = false := by decide)
    (he : starEach (o :: es) X.env = (false, eval o X.env) :: starEach es X.env := by rfl) (hpl : (backTo pos (starEach es X.env)).any (·.1) = false := by rfl) : PE X (.Call (.Name x p) (o :: es) [] pos) (rdE (c.g E0 p0) (mCallD gm i ops)) := by
  obtain ⟨f, fd, Fk, hm, hk, hb⟩ := D.ex
  exact s_callD Fk hr hg hm hk hb (fun _ _ _ _ _ _ _ h => h.elim) ho ha hn hdb he hpl
end
/-! ### the built-in names -/
theorem bt_len : bootBuiltins "len" = some (.builtin "len") := by decide +kernel
theorem bt_all : bootBuiltins "all" = some (.builtin "all") := by decide +kernel
theorem bt_any : bootBuiltins "any" = some (.builtin "any") := by decide +kernel
theorem bt_sorted : bootBuiltins "sorted" = some (.builtin "sorted") := by decide +kernel
theorem bt_list : bootBuiltins "list" = some (.type "list") := by decide +kernel
theorem bt_tuple : bootBuiltins "tuple" = some (.type "tuple") := by decide +kernel
theorem bt_str : bootBuiltins "str" = some (.type "str") := by decide +kernel
theorem bt_int : bootBuiltins "int" = some (.type "int") := by decide +kernel
theorem bt_bool : bootBuiltins "bool" = some (.type "bool") := by decide +kernel
section
variable {X : Cx} {G : Gx} {p p2 pos : Pos} {e : Expr} {o : Opd} {ops : List Opd} {es : List Expr}
theorem b_len (hm : X.mg "len" = none) (ha : PA X [e] (rdOs G ops)) (hg : Gl X "len" := by rfl) (he : starEach [e] X.env = (false, eval e X.env) :: starEach [] X.env := by rfl) : PE X (.Call (.Name "len" p) [e] [] pos) (rdE G (mPure opLen ops)) :=
  s_callB z_len hg hm bt_len ha (by decide) (by decide) he rfl
theorem b_all (hc : X.calm = true) (hm : X.mg "all" = none) (ha : PA X [e] (rdOs G ops)) (hg : Gl X "all" := by rfl) (he : starEach [e] X.env = (false, eval e X.env) :: starEach [] X.env := by rfl) : PE X (.Call (.Name "all" p) [e] [] pos) (rdE G (mPure opAll ops)) :=
  s_callB (z_all hc) hg hm bt_all ha (by decide) (by decide) he rfl
theorem b_any (hc : X.calm = true) (hm : X.mg "any" = none) (ha : PA X [e] (rdOs G ops)) (hg : Gl X "any" := by rfl) (he : starEach [e] X.env = (false, eval e X.env) :: starEach [] X.env := by rfl) : PE X (.Call (.Name "any" p) [e] [] pos) (rdE G (mPure opAny ops)) :=
  s_callB (z_any hc) hg hm bt_any ha (by decide) (by decide) he rfl
theorem b_sorted (hu : X.A.units + 64 < cLine) (hm : X.mg "sorted" = none) (ha : PA X [e] (rdOs G ops)) (hg : Gl X "sorted" := by rfl) (he : starEach [e] X.env = (false, eval e X.env) :: starEach [] X.env := by rfl) : PE X (.Call (.Name "sorted" p) [e] [] pos) (rdE G (mPure opSorted ops)) :=
  s_callB (z_sorted hu) hg hm bt_sorted ha (by decide) (by decide) he rfl
theorem b_list (hm : X.mg "list" = none) (ha : PA X [e] (rdOs G ops)) (hg : Gl X "list" := by rfl) (he : starEach [e] X.env = (false, eval e X.env) :: starEach [] X.env := by rfl) : PE X (.Call (.Name "list" p) [e] [] pos) (rdE G (mPure opList ops)) :=
  s_callTy z_list hg hm bt_list ha (by decide) (by decide) he rfl
theorem b_tuple (hm : X.mg "tuple" = none) (ha : PA X [e] (rdOs G ops)) (hg : Gl X "tuple" := by rfl) (he : starEach [e] X.env = (false, eval e X.env) :: starEach [] X.env := by rfl) : PE X (.Call (.Name "tuple" p) [e] [] pos) (rdE G (mPure opTuple ops)) :=
  s_callTy z_tuple hg hm bt_tuple ha (by decide) (by decide) he rfl
theorem b_str (hm : X.mg "str" = none) (ha : PA X [e] (rdOs G ops)) (hg : Gl X "str" := by rfl) (he : starEach [e] X.env = (false, eval e X.env) :: starEach [] X.env := by rfl) : PE X (.Call (.Name "str" p) [e] [] pos) (rdE G (mPure opStr ops)) :=
  s_callTy z_str hg hm bt_str ha (by decide) (by decide) he rfl
theorem b_int (hm : X.mg "int" = none) (ha : PA X [e] (rdOs G ops)) (hg : Gl X "int" := by rfl) (he : starEach [e] X.env = (false, eval e X.env) :: starEach [] X.env := by rfl) : PE X (.Call (.Name "int" p) [e] [] pos) (rdE G (mPure opInt ops)) :=
  s_callTy z_int hg hm bt_int ha (by decide) (by decide) he rfl
theorem g_int {x : Str} {i : Int} (hm : ∃ t, X.mg x = some (.int i t)) (hg : Gl X x := by rfl) (hd : (x == ("__debug__" : Str)) = false := by decide) : PE X (.Name x pos) (rdE G (mK (.int i))) := by
  obtain ⟨t, hm⟩ := hm
  exact s_globI hg hm hd
theorem g_str {x : Str} {i : Str} (hm : ∃ t, X.mg x = some (.str i t)) (hg : Gl X x := by rfl) (hd : (x == ("__debug__" : Str)) = false := by decide) : PE X (.Name x pos) (rdE G (mK (.str i))) := by
  obtain ⟨t, hm⟩ := hm
  exact s_globS hg hm hd
end
end Sh
set_option Elab.async false
set_option linter.all false
set_option maxRecDepth 100000
set_option autoImplicit false
/-! own layer 13: reckoning with the data functions -/
namespace Sh
open PySem PySem.Spec PyProof.Rows L2

@[simp] theorem ev_bok {α β : Type} (a : α) (f : α → Rs β) : Rs.bind (.ok a) f = f a := rfl
@[simp] theorem ev_bbad {α β : Type} (f : α → Rs β) : Rs.bind (.bad : Rs α) f = .bad := rfl
@[simp] theorem ev_nx {α : Type} (a : α) : noEx (.ok a) = .ok a := rfl
@[simp] theorem ev_dfz (d : Da) : (Sl.fz d).dat = some d := rfl
@[simp] theorem ev_dow (d : Da) : (Sl.ow d).dat = some d := rfl
@[simp] theorem ev_sget0 (s : Sl) (en : En) : sget (s :: en) 0 = s := rfl
@[simp] theorem ev_sgetS (s : Sl) (en : En) (i : Nat) : sget (s :: en) (i + 1) = sget en i := rfl
@[simp] theorem ev_set0 (s t : Sl) (en : En) : List.set (s :: en) 0 t = t :: en := rfl
@[simp] theorem ev_K (d : Da) (en : En) : mK d en = .ok (.fz d, en) := rfl
@[simp] theorem ev_var (i : Nat) (en : En) : mVar i en = match sget en i with | .no => .bad | .fz d => .ok (.fz d, en) | .ow d => .ok (.fz d, en.set i (.fz d)) := rfl
@[simp] theorem ev_move (i : Nat) (en : En) : mMove i en = match sget en i with | .no => .bad | .fz d => .ok (.fz d, en) | .ow d => .ok (.ow d, en.set i .no) := rfl
@[simp] theorem ev_pure (op : List Da → Option Sl) (ops : List Opd) (en : En) : mPure op ops en = (evalOps ops en).bind fun p => match (resAll p.2 p.1).bind op with | none => .bad | some s => .ok (s, p.2) := rfl
@[simp] theorem ev_o0 (en : En) : evalOps [] en = .ok ([], en) := rfl
@[simp] theorem ev_osl (i : Nat) (r : List Opd) (en : En) : evalOps (.sl i :: r) en = if (sget en i).dat.isSome then (evalOps r en).bind fun p => .ok (.at i :: p.1, p.2) else .bad := rfl
@[simp] theorem ev_oex (m : ME) (r : List Opd) (en : En) : evalOps (.ex m :: r) en = (m en).bind fun q => match q.1.dat with | none => .bad | some d => (evalOps r q.2).bind fun p => .ok (.va d :: p.1, p.2) := rfl
@[simp] theorem ev_r0 (en : En) : resAll en [] = some [] := rfl
@[simp] theorem ev_rat (en : En) (i : Nat) (os : List Op) : resAll en (.at i :: os) = (sget en i).dat.bind fun d => (resAll en os).bind fun ds => some (d :: ds) := rfl
@[simp] theorem ev_rva (en : En) (d : Da) (os : List Op) : resAll en (.va d :: os) = (resAll en os).bind fun ds => some (d :: ds) := rfl
@[simp] theorem ev_exs0 : exs [] = [] := rfl
@[simp] theorem ev_exsS (m : ME) (r : List ME) : exs (m :: r) = .ex m :: exs r := rfl
@[simp] theorem ev_at0 : atSlots [] = [] := rfl
@[simp] theorem ev_atA (i : Nat) (os : List Op) : atSlots (.at i :: os) = i :: atSlots os := rfl
@[simp] theorem ev_atV (d : Da) (os : List Op) : atSlots (.va d :: os) = atSlots os := rfl
@[simp] theorem ev_andV (m n : ME) (en : En) : mAndV m n en = (m en).bind fun p => match p.1 with | .fz (.bool true) => n p.2 | .fz (.bool false) => .ok (.fz (.bool false), p.2) | _ => .bad := rfl
@[simp] theorem ev_orV (m n : ME) (en : En) : mOrV m n en = (m en).bind fun p => match p.1 with | .fz (.bool true) => .ok (.fz (.bool true), p.2) | .fz (.bool false) => n p.2 | _ => .bad := rfl
@[simp] theorem ev_notV (m : ME) (en : En) : mNotV m en = (m en).bind fun p => match p.1 with | .fz (.bool k) => .ok (.fz (.bool (!k)), p.2) | _ => .bad := rfl
@[simp] theorem ev_if (c : MT) (m n : ME) (en : En) : mIf c m n en = (c en).bind fun p => if p.1 = true then m p.2 else n p.2 := rfl
@[simp] theorem ev_te (m : ME) (en : En) : mTE m en = (m en).bind fun p => match p.1 with | .fz (.bool k) => .ok (k, p.2) | _ => .bad := rfl
@[simp] theorem ev_and (m n : MT) (en : En) : mAnd m n en = (m en).bind fun p => if p.1 = true then n p.2 else .ok (false, p.2) := rfl
@[simp] theorem ev_or (m n : MT) (en : En) : mOr m n en = (m en).bind fun p => if p.1 = true then .ok (true, p.2) else n p.2 := rfl
@[simp] theorem ev_not (m : MT) (en : En) : mNot m en = (m en).bind fun p => .ok (!p.1, p.2) := rfl
@[simp] theorem ev_yes (en : En) : mYes en = .ok (true, en) := rfl
@[simp] theorem ev_seq (m n : MS) (en : En) : mSeq m n en = (m en).bind fun p => match p.1 with | .nx => n p.2 | .rt s => .ok (.rt s, p.2) := rfl
@[simp] theorem ev_skip (en : En) : mSkip en = .ok (.nx, en) := rfl
@[simp] theorem ev_mset (i : Nat) (m : ME) (en : En) : mSet i m en = (m en).bind fun p => .ok (.nx, p.2.set i p.1) := rfl
@[simp] theorem ev_do (m : ME) (en : En) : mDo m en = (m en).bind fun p => .ok (.nx, p.2) := rfl
@[simp] theorem ev_ret (m : ME) (en : En) : mRet m en = (m en).bind fun p => .ok (.rt p.1, p.2) := rfl
@[simp] theorem ev_cond (c : MT) (m n : MS) (en : En) : mCond c m n en = (c en).bind fun p => if p.1 = true then m p.2 else n p.2 := rfl
@[simp] theorem ev_asg (t : Tg) (m : ME) (en : En) : mAsg t m en = (m en).bind fun p => match p.1.dat with | none => .bad | some d => match asg t d p.2 with | none => .bad | some en' => .ok (.nx, en') := rfl
@[simp] theorem ev_anm (i : Nat) (d : Da) (en : En) : asg (.nm i) d en = some (en.set i (.fz d)) := by rw [asg]
@[simp] theorem ev_atp (ts : List Tg) (ds : List Da) (en : En) : asg (.tp ts) (.tuple ds) en = asgL ts ds en := by rw [asg]
@[simp] theorem ev_al0 (en : En) : asgL [] [] en = some en := by rw [asgL]
@[simp] theorem ev_alS (t : Tg) (ts : List Tg) (d : Da) (ds : List Da) (en : En) : asgL (t :: ts) (d :: ds) en = (asg t d en).bind fun en1 => asgL ts ds en1 := by rw [asgL]
@[simp] theorem ev_call (f : List Da → Rs Sl) (ops : List Opd) (en : En) : mCall f ops en = (evalOps ops en).bind fun p => match resAll p.2 p.1 with | none => .bad | some ds => (noEx (f ds)).bind fun s => .ok (s, if flatS s = true then p.2 else frzE p.2 (atSlots p.1)) := rfl
@[simp] theorem ev_callD (g : List Da → List Da → Rs (Sl × List Da)) (i : Nat) (ops : List Opd) (en : En) : mCallD g i ops en = match sget en i with
  | .ow (.list _) => (evalOps ops en).bind fun p => match sget p.2 i with
    | .ow (.list dk) => match resAll p.2 p.1 with
      | none => .bad
      | some ds => if (atSlots p.1).contains i = true then .bad else (noEx (g dk ds)).bind fun q => .ok (q.1, (frzE p.2 (atSlots p.1)).set i (.ow (.list q.2)))
    | _ => .bad
  | _ => .bad := rfl
@[simp] theorem ev_frz0 (en : En) : frzE en [] = en := rfl
@[simp] theorem ev_frzS (en : En) (v : Nat) (vs : List Nat) : frzE en (v :: vs) = match sget (frzE en vs) v with | .ow d => (frzE en vs).set v (.fz d) | _ => frzE en vs := rfl
@[simp] theorem ev_wip0 (en : En) : wipeE en [] = en := rfl
@[simp] theorem ev_wipS (en : En) (v : Nat) (vs : List Nat) : wipeE en (v :: vs) = (wipeE en vs).set v .no := rfl
@[simp] theorem ev_res0 (en0 en : En) : restE en0 en [] = en := rfl
@[simp] theorem ev_resS (en0 en : En) (v : Nat) (vs : List Nat) : restE en0 en (v :: vs) = (restE en0 en vs).set v (sget en0 v) := rfl
@[simp] theorem ev_append (i : Nat) (m : ME) (en : En) : mAppend i m en = match sget en i with
  | .ow (.list _) => (m en).bind fun p => match p.1.dat with
    | none => .bad
    | some y => match sget p.2 i with
      | .ow (.list ds) => if ds.length < 1000000 then .ok (.nx, p.2.set i (.ow (.list (ds ++ [y])))) else .bad
      | _ => .bad
  | _ => .bad := rfl
@[simp] theorem ev_put (i : Nat) (mk m : ME) (en : En) : mPut i mk m en = (m en).bind fun p => match p.1.dat with
  | none => .bad
  | some y => match sget p.2 i with
    | .ow (.list _) => (mk p.2).bind fun q => match q.1 with
      | .fz (.int k) => match sget q.2 i with
        | .ow (.list ds) => match ixN ds.length k with
          | none => .bad
          | some j => .ok (.nx, q.2.set i (.ow (.list (ds.set j y))))
        | _ => .bad
      | _ => .bad
    | _ => .bad := rfl
@[simp] theorem ev_par (is : List Nat) (ms : List ME) (en : En) : mPar is ms en = if ms.length = is.length then (evalHold ms en).bind fun p => .ok (.nx, setsE p.2 is p.1) else .bad := rfl
@[simp] theorem ev_h0 (en : En) : evalHold [] en = .ok ([], en) := rfl
@[simp] theorem ev_hS (m : ME) (r : List ME) (en : En) : evalHold (m :: r) en = (m en).bind fun p => (evalHold r p.2).bind fun q => .ok (p.1 :: q.1, q.2) := rfl
@[simp] theorem ev_s0 (en : En) : setsE en [] [] = en := rfl
@[simp] theorem ev_sS (en : En) (i : Nat) (is : List Nat) (s : Sl) (ss : List Sl) : setsE en (i :: is) (s :: ss) = (setsE en is ss).set i s := rfl
@[simp] theorem ev_chain (op op' : List Da → Option Sl) (oa ob oc : Opd) (en : En) : mChain op op' oa ob oc en = (evalOps [oa, ob] en).bind fun p => match (resAll p.2 p.1).bind op with
  | some (.fz (.bool true)) => match p.1 with
    | [_, y] => (evalOps [oc] p.2).bind fun q => match (resAll q.2 (y :: q.1)).bind op' with
      | some s => .ok (s, q.2)
      | none => .bad
    | _ => .bad
  | some (.fz (.bool false)) => .ok (.fz (.bool false), p.2)
  | _ => .bad := rfl
@[simp] theorem fl_bool (b : Bool) : flatS (.fz (.bool b)) = true := rfl
@[simp] theorem fl_int (b : Int) : flatS (.fz (.int b)) = true := rfl
@[simp] theorem fl_none : flatS (.fz .none) = true := rfl
@[simp] theorem fl_str (b : Str) : flatS (.fz (.str b)) = true := rfl
@[simp] theorem fl_tup (b : List Da) : flatS (.fz (.tuple b)) = false := rfl
@[simp] theorem fl_ow (b : Da) : flatS (.ow b) = false := rfl
@[simp] theorem fl_lst (b : List Da) : flatS (.fz (.list b)) = false := rfl
theorem fnP_eq (k : Nat) (m : MS) (ds : List Da) : fnP k m ds = (m (ds.map .fz ++ List.replicate k .no)).bind fun p => match p.1 with | .nx => .ok (.fz .none) | .rt .no => .bad | .rt s => .ok s := rfl
theorem fnD_eq (k : Nat) (m : MS) (dk ds : List Da) : fnD k m dk ds = (m (.ow (.list dk) :: ds.map .fz ++ List.replicate k .no)).bind fun p => match sget p.2 0 with
  | .ow (.list dk') => match p.1 with
    | .nx => .ok (.fz .none, dk')
    | .rt .no => .bad
    | .rt s => .ok (s, dk')
  | _ => .bad := rfl
/-! operations -/
@[simp] theorem op_tup (ds : List Da) : opTup ds = if ds.length ≤ 1000 then some (.fz (.tuple ds)) else none := rfl
@[simp] theorem op_lst (ds : List Da) : opLst ds = if ds.length ≤ 1000 then some (.ow (.list ds)) else none := rfl
@[simp] theorem op_isi_int (d : Da) : opIsi "int" [d] = some (.fz (.bool d.isInt)) := by simp [opIsi, kindIs]
@[simp] theorem op_isi_bool (d : Da) : opIsi "bool" [d] = some (.fz (.bool d.isBool)) := by simp [opIsi, kindIs]
@[simp] theorem op_isi_str (d : Da) : opIsi "str" [d] = some (.fz (.bool d.isStr)) := by simp [opIsi, kindIs]
@[simp] theorem op_isi_list (d : Da) : opIsi "list" [d] = some (.fz (.bool d.isList)) := by simp [opIsi, kindIs]
@[simp] theorem op_isi_tuple (d : Da) : opIsi "tuple" [d] = some (.fz (.bool d.isTuple)) := by simp [opIsi, kindIs]
@[simp] theorem op_isi2 (d : Da) : opIsi2 "tuple" "list" [d] = some (.fz (.bool (d.isTuple || d.isList))) := by simp [opIsi2, kindIs]
@[simp] theorem op_lenL (a : List Da) : opLen [.list a] = some (.fz (.int a.length)) := rfl
@[simp] theorem op_lenT (a : List Da) : opLen [.tuple a] = some (.fz (.int a.length)) := rfl
@[simp] theorem op_lenS (z : Str) : opLen [.str z] = if z.length ≤ 1000000 then some (.fz (.int z.length)) else none := rfl
theorem okl_ii (i j : Int) : okl (.int i) (.int j) = true := rfl
@[simp] theorem lt_ii (i j : Int) : PySem.W.dataLt (.int i) (.int j) = decide (i < j) := PySem.W.dataLt_int i j
@[simp] theorem op_le_ii (i j : Int) : opLe [.int i, .int j] = some (.fz (.bool (decide (i ≤ j)))) := by
  rw [opLe, okl_ii, if_pos rfl, lt_ii]
  congr 3
  by_cases h : j < i
  · rw [decide_eq_true h, decide_eq_false (by omega)]; rfl
  · rw [decide_eq_false h, decide_eq_true (by omega)]; rfl
@[simp] theorem op_ge_ii (i j : Int) : opGe [.int i, .int j] = some (.fz (.bool (decide (j ≤ i)))) := by
  rw [opGe, okl_ii, if_pos rfl, lt_ii]
  congr 3
  by_cases h : i < j
  · rw [decide_eq_true h, decide_eq_false (by omega)]; rfl
  · rw [decide_eq_false h, decide_eq_true (by omega)]; rfl
@[simp] theorem op_lt_ii (i j : Int) : opLt [.int i, .int j] = some (.fz (.bool (decide (i < j)))) := by
  rw [opLt, okl_ii, if_pos rfl, lt_ii]
@[simp] theorem op_gt_ii (i j : Int) : opGt [.int i, .int j] = some (.fz (.bool (decide (j < i)))) := by
  rw [opGt, okl_ii, if_pos rfl, lt_ii]
@[simp] theorem op_eq_ii (i j : Int) : opEq [.int i, .int j] = some (.fz (.bool (decide (i = j)))) := by
  show some (Sl.fz (.bool (i == j))) = _
  congr 3
@[simp] theorem op_ne_ii (i j : Int) : opNe [.int i, .int j] = some (.fz (.bool (!decide (i = j)))) := by
  show some (Sl.fz (.bool (!(i == j)))) = _
  congr 3
@[simp] theorem op_add_ii (i j : Int) : opAdd [.int i, .int j] = some (.fz (.int (i + j))) := rfl
@[simp] theorem op_sub_ii (i j : Int) : opSub [.int i, .int j] = some (.fz (.int (i - j))) := rfl
@[simp] theorem op_ixL (a : List Da) (i : Int) : opIx [.list a, .int i] = (atI a i).map .fz := rfl
@[simp] theorem op_ixT (a : List Da) (i : Int) : opIx [.tuple a, .int i] = (atI a i).map .fz := rfl
end Sh
set_option Elab.async false
set_option linter.all false
set_option maxRecDepth 100000
set_option autoImplicit false
/-! own layer 14: loops reckoned -/
namespace Sh
open PySem PySem.Spec PyProof.Rows L2

theorem ev_lc (it : ItM) (t : Tg) (tt : MT) (elt : ME) (vs : List Nat) (en : En) : mLc it t tt elt vs en = (evalOps it.ops en).bind fun p => match resAll p.2 p.1 with
  | none => .bad
  | some ds => match it.items ds with
    | none => .bad
    | some items => if (atSlots p.1).all (fun i => !vs.contains i) = true then (lcL p.1 ds t tt elt vs items [] (wipeE (frzE p.2 vs) vs)).bind fun q => .ok (.ow (.list q.1), restE (frzE p.2 vs) q.2 vs) else .bad := rfl
theorem ev_for (it : ItM) (t : Tg) (body : MS) (en : En) : mFor it t body en = (evalOps it.ops en).bind fun p => match resAll p.2 p.1 with
  | none => .bad
  | some ds => match it.items ds with
    | none => .bad
    | some items => forL p.1 ds t body items p.2 := rfl
section
variable {os : List Op} {ds : List Da} {t : Tg} {tt : MT} {elt : ME} {vs : List Nat} {body : MS}
theorem lcL_inv (Inv : List Da → List Da → En → Prop) (hres : ∀ items acc en, Inv items acc en → resAll en os = some ds)
    (step : ∀ d r acc en, Inv (d :: r) acc en → acc.length < 1000000 ∧ ∃ e1 b e2, asg t d en = some e1 ∧ tt e1 = .ok (b, e2) ∧ (b = true → ∃ s e3 y, elt e2 = .ok (s, e3) ∧ s.dat = some y ∧ Inv r (acc ++ [y]) (wipeE e3 vs)) ∧ (b = false → Inv r acc (wipeE e2 vs))) :
    ∀ items acc en, Inv items acc en → ∃ acc' en', lcL os ds t tt elt vs items acc en = .ok (acc', en') ∧ Inv [] acc' en'
  | [], acc, en, h => ⟨acc, en, by rw [lcL, if_pos (hres _ _ _ h)], h⟩
  | d :: r, acc, en, h => by
    obtain ⟨hl, e1, b, e2, h1, h2, h3, h4⟩ := step d r acc en h
    cases b with
    | true =>
      obtain ⟨s, e3, y, g1, g2, g3⟩ := h3 rfl
      obtain ⟨a', n', k1, k2⟩ := lcL_inv Inv hres step r _ _ g3
      refine ⟨a', n', ?_, k2⟩
      rw [lcL, if_pos (hres _ _ _ h)]
      simp only [h1, h2, ev_nx, ev_bok, if_true, g1, g2, hl]
      exact k1
    | false =>
      obtain ⟨a', n', k1, k2⟩ := lcL_inv Inv hres step r _ _ (h4 rfl)
      refine ⟨a', n', ?_, k2⟩
      rw [lcL, if_pos (hres _ _ _ h)]
      simp only [h1, h2, ev_nx, ev_bok]
      exact k1
theorem lcL_filter {en : En} (hres : resAll en os = some ds) (p : Da → Bool) (g : Da → Da) : ∀ (items acc : List Da), acc.length + items.length ≤ 1000000 →
    (∀ d ∈ items, ∃ e1 e2, asg t d en = some e1 ∧ tt e1 = .ok (p d, e2) ∧ (p d = true → ∃ s e3, elt e2 = .ok (s, e3) ∧ s.dat = some (g d) ∧ wipeE e3 vs = en) ∧ (p d = false → wipeE e2 vs = en)) →
    lcL os ds t tt elt vs items acc en = .ok (acc ++ (items.filter p).map g, en)
  | [], acc, _, _ => by rw [lcL, if_pos hres]; simp
  | d :: r, acc, hl, h => by
    obtain ⟨e1, e2, h1, h2, h3, h4⟩ := h d (by simp)
    have hl' : acc.length + (r.length + 1) ≤ 1000000 := hl
    have hr : ∀ d ∈ r, ∃ e1 e2, asg t d en = some e1 ∧ tt e1 = .ok (p d, e2) ∧ (p d = true → ∃ s e3, elt e2 = .ok (s, e3) ∧ s.dat = some (g d) ∧ wipeE e3 vs = en) ∧ (p d = false → wipeE e2 vs = en) := fun d hd => h d (by simp [hd])
    cases hp : p d with
    | true =>
      obtain ⟨s, e3, g1, g2, g3⟩ := h3 hp
      rw [lcL, if_pos hres]
      simp only [h1, h2, hp, ev_nx, ev_bok, if_true, g1, g2, g3]
      rw [if_pos (by omega), lcL_filter hres p g r (acc ++ [g d]) (by simp; omega) hr]
      simp [hp]
    | false =>
      rw [lcL, if_pos hres]
      simp only [h1, h2, hp, ev_nx, ev_bok, h4 hp]
      rw [if_neg (by simp), lcL_filter hres p g r acc (by omega) hr]
      simp [hp]
theorem lcL_map {en : En} (hres : resAll en os = some ds) (g : Da → Da) (items : List Da) (hl : items.length ≤ 1000000)
    (h : ∀ d ∈ items, ∃ e1 e2 s e3, asg t d en = some e1 ∧ tt e1 = .ok (true, e2) ∧ elt e2 = .ok (s, e3) ∧ s.dat = some (g d) ∧ wipeE e3 vs = en) :
    lcL os ds t tt elt vs items [] en = .ok (items.map g, en) := by
  have := lcL_filter (t := t) (tt := tt) (elt := elt) (vs := vs) hres (fun _ => true) g items [] (by simpa using hl) fun d hd => by
    obtain ⟨e1, e2, s, e3, h1, h2, h3, h4, h5⟩ := h d hd
    exact ⟨e1, e2, h1, h2, fun _ => ⟨s, e3, h3, h4, h5⟩, fun z => by cases z⟩
  rw [List.filter_eq_self.mpr (fun _ _ => rfl)] at this
  simpa using this
theorem forL_inv (Inv : List Da → En → Prop) (hres : ∀ en, resAll en os = some ds) (step : ∀ d r en, Inv (d :: r) en → ∃ e1 e2, asg t d en = some e1 ∧ body e1 = .ok (.nx, e2) ∧ Inv r e2) :
    ∀ items en, Inv items en → ∃ en', forL os ds t body items en = .ok (.nx, en') ∧ Inv [] en'
  | [], en, h => ⟨en, by rw [forL, if_pos (hres en)], h⟩
  | d :: r, en, h => by
    obtain ⟨e1, e2, h1, h2, h3⟩ := step d r en h
    obtain ⟨n', k1, k2⟩ := forL_inv Inv hres step r _ h3
    refine ⟨n', ?_, k2⟩
    rw [forL, if_pos (hres en)]
    simp only [h1, h2, ev_bok]
    exact k1
/-- a for that may return -/
theorem forL_ret (Inv : List Da → En → Prop) (Ret : Sl → En → Prop) (hres : ∀ en, resAll en os = some ds)
    (step : ∀ d r en, Inv (d :: r) en → ∃ e1, asg t d en = some e1 ∧ ((∃ e2, body e1 = .ok (.nx, e2) ∧ Inv r e2) ∨ ∃ s e2, body e1 = .ok (.rt s, e2) ∧ Ret s e2)) :
    ∀ items en, Inv items en → (∃ en', forL os ds t body items en = .ok (.nx, en') ∧ Inv [] en') ∨ ∃ s en', forL os ds t body items en = .ok (.rt s, en') ∧ Ret s en'
  | [], en, h => .inl ⟨en, by rw [forL, if_pos (hres en)], h⟩
  | d :: r, en, h => by
    obtain ⟨e1, h1, ⟨e2, h2, h3⟩ | ⟨s, e2, h2, h3⟩⟩ := step d r en h
    · rcases forL_ret Inv Ret hres step r _ h3 with ⟨n', k1, k2⟩ | ⟨s, n', k1, k2⟩
      · refine .inl ⟨n', ?_, k2⟩
        rw [forL, if_pos (hres en)]
        simp only [h1, h2, ev_bok]
        exact k1
      · refine .inr ⟨s, n', ?_, k2⟩
        rw [forL, if_pos (hres en)]
        simp only [h1, h2, ev_bok]
        exact k1
    · refine .inr ⟨s, e2, ?_, h3⟩
      rw [forL, if_pos (hres en)]
      simp only [h1, h2, ev_bok]
end
theorem lc_filter {it : ItM} {t : Tg} {tt : MT} {elt : ME} {vs : List Nat} {en : En} {os : List Op} {ds items : List Da} (p : Da → Bool) (g : Da → Da) (h1 : evalOps it.ops en = .ok (os, en)) (h2 : resAll en os = some ds) (h3 : it.items ds = some items)
    (h4 : (atSlots os).all (fun i => !vs.contains i) = true) (h5 : frzE en vs = en) (h6 : restE en (wipeE en vs) vs = en) (hw : resAll (wipeE en vs) os = some ds) (hl : items.length ≤ 1000000)
    (h : ∀ d ∈ items, ∃ e1 e2, asg t d (wipeE en vs) = some e1 ∧ tt e1 = .ok (p d, e2) ∧ (p d = true → ∃ s e3, elt e2 = .ok (s, e3) ∧ s.dat = some (g d) ∧ wipeE e3 vs = wipeE en vs) ∧ (p d = false → wipeE e2 vs = wipeE en vs)) :
    mLc it t tt elt vs en = .ok (.ow (.list ((items.filter p).map g)), en) := by
  rw [ev_lc, h1]
  simp only [ev_bok, h2, h3, h4, if_true, h5]
  rw [lcL_filter hw p g items [] (by simpa using hl) h]
  simp only [ev_bok, List.nil_append, h6]
theorem lc_map {it : ItM} {t : Tg} {elt : ME} {vs : List Nat} {en : En} {os : List Op} {ds items : List Da} (g : Da → Da) (h1 : evalOps it.ops en = .ok (os, en)) (h2 : resAll en os = some ds) (h3 : it.items ds = some items)
    (h4 : (atSlots os).all (fun i => !vs.contains i) = true) (h5 : frzE en vs = en) (h6 : restE en (wipeE en vs) vs = en) (hw : resAll (wipeE en vs) os = some ds) (hl : items.length ≤ 1000000)
    (h : ∀ d ∈ items, ∃ e1 s e3, asg t d (wipeE en vs) = some e1 ∧ elt e1 = .ok (s, e3) ∧ s.dat = some (g d) ∧ wipeE e3 vs = wipeE en vs) :
    mLc it t mYes elt vs en = .ok (.ow (.list (items.map g)), en) := by
  rw [ev_lc, h1]
  simp only [ev_bok, h2, h3, h4, if_true, h5]
  rw [lcL_map hw g items hl fun d hd => by
    obtain ⟨e1, s, e3, k1, k2, k3, k4⟩ := h d hd
    exact ⟨e1, e1, s, e3, k1, rfl, k2, k3, k4⟩]
  simp only [ev_bok, h6]
/-- the elements leave the slots as they are -/
theorem lc_mapS {it : ItM} {t : Tg} {elt : ME} {vs : List Nat} {en : En} {os : List Op} {ds items : List Da} (g : Da → Da) (h1 : evalOps it.ops en = .ok (os, en)) (h2 : resAll en os = some ds) (h3 : it.items ds = some items)
    (h4 : (atSlots os).all (fun i => !vs.contains i) = true) (h5 : frzE en vs = en) (h6 : restE en (wipeE en vs) vs = en) (hw : resAll (wipeE en vs) os = some ds) (hl : items.length ≤ 1000000)
    (h : ∀ d ∈ items, ∃ e1 s, asg t d (wipeE en vs) = some e1 ∧ elt e1 = .ok (s, e1) ∧ s.dat = some (g d) ∧ wipeE e1 vs = wipeE en vs) :
    mLc it t mYes elt vs en = .ok (.ow (.list (items.map g)), en) :=
  lc_map g h1 h2 h3 h4 h5 h6 hw hl fun d hd => by
    obtain ⟨e1, s, k1, k2, k3, k4⟩ := h d hd
    exact ⟨e1, s, e1, k1, k2, k3, k4⟩
theorem lc_filS {it : ItM} {t : Tg} {tt : MT} {elt : ME} {vs : List Nat} {en : En} {os : List Op} {ds items : List Da} (p : Da → Bool) (g : Da → Da) (h1 : evalOps it.ops en = .ok (os, en)) (h2 : resAll en os = some ds) (h3 : it.items ds = some items)
    (h4 : (atSlots os).all (fun i => !vs.contains i) = true) (h5 : frzE en vs = en) (h6 : restE en (wipeE en vs) vs = en) (hw : resAll (wipeE en vs) os = some ds) (hl : items.length ≤ 1000000)
    (h : ∀ d ∈ items, ∃ e1 s, asg t d (wipeE en vs) = some e1 ∧ tt e1 = .ok (p d, e1) ∧ elt e1 = .ok (s, e1) ∧ s.dat = some (g d) ∧ wipeE e1 vs = wipeE en vs) :
    mLc it t tt elt vs en = .ok (.ow (.list ((items.filter p).map g)), en) :=
  lc_filter p g h1 h2 h3 h4 h5 h6 hw hl fun d hd => by
    obtain ⟨e1, s, k1, k2, k3, k4, k5⟩ := h d hd
    exact ⟨e1, e1, k1, k2, fun _ => ⟨s, e1, k3, k4, k5⟩, fun _ => k5⟩
/-! ### all, any -/
@[simp] theorem truths_map (p : Da → Bool) : ∀ l : List Da, truths (l.map fun d => .bool (p d)) = some (l.map p)
  | [] => rfl
  | d :: l => by
    show (truths (l.map fun d => .bool (p d))).map (fun bs => p d :: bs) = _
    rw [truths_map p l]
    rfl
@[simp] theorem op_all_map (p : Da → Bool) (l : List Da) : opAll [.list (l.map fun d => .bool (p d))] = some (.fz (.bool (l.all p))) := by
  show (truths _).map _ = _
  rw [truths_map]
  simp only [Option.map_some, List.all_map]
  rfl
@[simp] theorem op_any_map (p : Da → Bool) (l : List Da) : opAny [.list (l.map fun d => .bool (p d))] = some (.fz (.bool (l.any p))) := by
  show (truths _).map _ = _
  rw [truths_map]
  simp only [Option.map_some, List.any_map]
  rfl
/-! ### slices -/
@[simp] theorem cutD_lo {α : Type} (xs : List α) (k : Nat) : cutD xs (some (k : Int)) none = xs.drop k := by
  unfold cutD
  rw [HT.sIx_nat, HT.sIx_none]
  by_cases h : k ≤ xs.length
  · rw [Nat.min_eq_left h, List.take_of_length_le (by simp)]
  · rw [Nat.min_eq_right (by omega)]
    simp
    omega
@[simp] theorem cutD_hi {α : Type} (xs : List α) (k : Nat) : cutD xs none (some (k : Int)) = xs.take k := by
  unfold cutD
  rw [HT.sIx_nat, HT.sIx_none, List.drop_zero, Nat.sub_zero]
  by_cases h : k ≤ xs.length
  · rw [Nat.min_eq_left h]
  · rw [Nat.min_eq_right (by omega), List.take_length, List.take_of_length_le (by omega)]
theorem cutD_len {α : Type} (xs : List α) (lo hi : Option Int) : (cutD xs lo hi).length ≤ xs.length := by
  unfold cutD
  rw [List.length_take, List.length_drop]
  omega
theorem cutD_mem {α : Type} {xs : List α} {lo hi : Option Int} {x : α} (h : x ∈ cutD xs lo hi) : x ∈ xs := by
  unfold cutD at h
  exact List.mem_of_mem_drop (List.mem_of_mem_take h)
theorem atI_nat {α : Type} (xs : List α) (k : Nat) : atI xs (k : Int) = xs[k]? := by
  unfold atI ixN
  rw [if_pos (by omega)]
  by_cases h : k < xs.length
  · rw [if_pos (by omega)]
    simp
  · rw [if_neg (by omega)]
    simp
    omega
end Sh
set_option Elab.async false
set_option linter.all false
set_option maxRecDepth 100000
set_option autoImplicit false
/-! own layer 15: min, max, sum, index, dicts with texts as keys -/
namespace Sh
open PySem PySem.Spec PyProof.Rows L2

/-! ### the less and the greater of two -/
def ltSS (x y : Str) : Bool := decide (x.cps.toList < y.cps.toList)
def opMax2 : List Da → Option Sl
  | [.int i, .int j] => some (.fz (.int (if i < j then j else i)))
  | [.str x, .str y] => some (.fz (.str (if ltSS x y = true then y else x)))
  | _ => none
def opMin2 : List Da → Option Sl
  | [.int i, .int j] => some (.fz (.int (if j < i then j else i)))
  | [.str x, .str y] => some (.fz (.str (if ltSS y x = true then y else x)))
  | _ => none
section
variable {P : Program} {w : World} {A : Around} {E : Value → Shared → Prop} {s : Shared} {x y : Str} {t u : Tok}
abbrev twoO (x y : Str) (t u : Tok) : Obj := { cls := .type "tuple", data := .seq #[.str x t, .str y u] }
theorem two_tup : (s.heap.push (twoO x y t u)).IsTuple s.heap.objs.size #[.str x t, .str y u] := ⟨_, Heap.get?_push_size _ rfl, rfl, 0, rfl⟩
def oneOf2 (x y : Str) (t u : Tok) (i : Nat) (v : Value) : Prop := (#[Value.str x t, Value.str y u] : Array Value)[i]? = some v
def strOf2 (x y : Str) (i : Nat) : Str := if i = 0 then x else y
theorem oneOf2_is {i : Nat} {v : Value} (h : oneOf2 x y t u i v) : ∃ tk, v = .str (strOf2 x y i) tk := by
  unfold oneOf2 at h
  match i, h with
  | 0, h => simp at h; exact ⟨t, h.symm⟩
  | 1, h => simp at h; exact ⟨u, h.symm⟩
  | n + 2, h => simp at h
theorem cmp2_lt : CmpOf P w A .Lt (oneOf2 x y t u) (fun i j => ltSS (strOf2 x y i) (strOf2 x y j)) := fun i j vi vj s Q E hi hj h => by
  obtain ⟨_, rfl⟩ := oneOf2_is hi
  obtain ⟨_, rfl⟩ := oneOf2_is hj
  exact PyProof.Rows.lt_str h
theorem cmp2_gt : CmpOf P w A .Gt (oneOf2 x y t u) (fun i j => ltSS (strOf2 x y j) (strOf2 x y i)) := fun i j vi vj s Q E hi hj h => by
  obtain ⟨_, rfl⟩ := oneOf2_is hi
  obtain ⟨_, rfl⟩ := oneOf2_is hj
  exact PySem.P.gt_str h
theorem walk2 {Q : Value → Shared → Prop} {op : CmpOp} {bt : Nat → Nat → Bool} (hh : A.handled = none) (hc : CmpOf P w A.in1 op (oneOf2 x y t u) bt) (h : ∀ h' tk v, (∀ c o, s.heap.get? c = some o → h'.get? c = some o) → v = (if bt 1 0 = true then .str y u else .str x t) → Q v { s with heap := h', toks := tk }) :
    wpAny (model P w) A.in1 (pyIter (.ref s.heap.objs.size)) (fun it s₂ => ∃ I fp wr n Pr St bt, it = .ref I ∧ Walks P w A.in1 I fp wr n Pr St ∧ St 0 s₂.heap ∧ (∀ b ∈ fp, b < s₂.heap.objs.size) ∧ 0 < n ∧ CmpOf P w A.in1 op Pr bt ∧
      ∀ v h' tk, Pr (argBest bt (n - 1)) v → (∀ b o, b ∉ wr → s₂.heap.get? b = some o → h'.get? b = some o) → Q v { s₂ with heap := h', toks := tk }) E
      { s with heap := s.heap.push (twoO x y t u) } := by
  have hT := two_tup (s := s) (x := x) (y := y) (t := t) (u := u)
  have n1 : (s.heap.push (twoO x y t u)).objs.size = s.heap.objs.size + 1 := Heap.size_push ..
  refine wpAny_pyIter_tuple hT ?_
  have W := Walks.tuple (prog := P) (w := w) (A := A.in1) hh (s.heap.objs.size + 1) s.heap.objs.size (Nat.ne_of_lt (Nat.lt_succ_self _)) #[.str x t, .str y u]
  rw [n1]
  refine ⟨_, _, _, _, _, _, bt, rfl, W, ⟨⟨_, by rw [← n1]; exact Heap.get?_push_size _ rfl, rfl, rfl⟩, hT.push _⟩, fun c hm => ?_, by simp, hc, fun v h' tk hP hk => ?_⟩
  · show c < (Heap.push _ _).objs.size
    rw [Heap.size_push, n1]
    simp only [List.mem_cons, List.not_mem_nil, or_false] at hm
    rcases hm with rfl | rfl
    · exact Nat.lt_succ_self _
    · exact Nat.lt_succ_of_lt (Nat.lt_succ_self _)
  · refine h h' tk v (fun c o e => hk c o (fun hm => ?_) (Heap.get?_push_of_some _ (Heap.get?_push_of_some _ e))) ?_
    · have hlt := Heap.lt_size e
      simp only [List.mem_cons, List.not_mem_nil, or_false] at hm
      rw [hm] at hlt
      exact Nat.lt_irrefl _ (Nat.lt_of_succ_lt hlt)
    · have hP' : oneOf2 x y t u (argBest bt 1) v := hP
      cases hb : bt 1 0 <;> simp [argBest, hb, oneOf2] at hP' <;> simp [hP']
end
section
variable {X : Cx} {w : World}
theorem z_max2 (hc : X.calm = true) : CallR X (.builtin "max") (Rz w opMax2) := by
  intro pins s σ H xs us Q I r q
  obtain ⟨F, ds, sl, sf, dn, ho, k⟩ := q
  unfold opMax2 at ho
  split at ho
  · cases ho
    obtain ⟨v1, v2, rfl, d1, d2⟩ := dn.two
    have e1 := d1.int
    have e2 := d2.int
    subst e1 e2
    exact call_max2 hc pins s σ H _ us Q I r ⟨_, _, rfl, k _ F H (Gr.refl sf) (.int _)⟩
  · rename_i x y
    cases ho
    obtain ⟨v1, v2, rfl, d1, d2⟩ := dn.two
    have e1 := d1.str
    have e2 := d2.str
    subst e1 e2
    obtain ⟨u1, u2, rfl, ⟨t, rfl⟩, ⟨t', rfl⟩⟩ := vals2 r
    refine call_max_two (walk2 (I.ok.hd hc) cmp2_gt fun h' tk v kp e => ⟨.str (if ltSS x y = true then y else x), H, I.kept kp, ?_, k _ F H (Gr.refl sf) (.str _)⟩)
    rw [e]
    by_cases hb : ltSS x y = true
    · simp [strOf2, hb]; exact ⟨_, rfl⟩
    · simp [strOf2, hb]; exact ⟨_, rfl⟩
  · cases ho
theorem z_min2 (hc : X.calm = true) : CallR X (.builtin "min") (Rz w opMin2) := by
  intro pins s σ H xs us Q I r q
  obtain ⟨F, ds, sl, sf, dn, ho, k⟩ := q
  unfold opMin2 at ho
  split at ho
  · cases ho
    obtain ⟨v1, v2, rfl, d1, d2⟩ := dn.two
    have e1 := d1.int
    have e2 := d2.int
    subst e1 e2
    exact call_min2 hc pins s σ H _ us Q I r ⟨_, _, rfl, k _ F H (Gr.refl sf) (.int _)⟩
  · rename_i x y
    cases ho
    obtain ⟨v1, v2, rfl, d1, d2⟩ := dn.two
    have e1 := d1.str
    have e2 := d2.str
    subst e1 e2
    obtain ⟨u1, u2, rfl, ⟨t, rfl⟩, ⟨t', rfl⟩⟩ := vals2 r
    refine call_min_two (walk2 (I.ok.hd hc) cmp2_lt fun h' tk v kp e => ⟨.str (if ltSS y x = true then y else x), H, I.kept kp, ?_, k _ F H (Gr.refl sf) (.str _)⟩)
    rw [e]
    by_cases hb : ltSS y x = true
    · simp [strOf2, hb]; exact ⟨_, rfl⟩
    · simp [strOf2, hb]; exact ⟨_, rfl⟩
  · cases ho
end
/-! ### sum -/
def intsOf : List Da → Option (List Int)
  | [] => some []
  | .int i :: r => (intsOf r).map (i :: ·)
  | _ :: _ => none
def opSum : List Da → Option Sl
  | [.list a] => (intsOf a).map fun ns => .fz (.int ns.sum)
  | _ => none
theorem intsOf_dn {w : World} {F : Hp} : ∀ {ds : List Da} {xs : List V} {ns : List Int}, DnAll w F xs ds → intsOf ds = some ns → xs = ns.map V.int
  | [], _, _, h, e => by cases h; cases e; rfl
  | .int i :: r, _, _, h, e => by
    cases h with
    | cons a b =>
      cases a
      simp only [intsOf, Option.map_eq_some_iff] at e
      obtain ⟨ms, e1, rfl⟩ := e
      rw [intsOf_dn b e1]
      rfl
  | .none :: _, _, _, _, e => by cases e
  | .bool _ :: _, _, _, _, e => by cases e
  | .str _ :: _, _, _, _, e => by cases e
  | .list _ :: _, _, _, _, e => by cases e
  | .tuple _ :: _, _, _, _, e => by cases e
  | .dict _ :: _, _, _, _, e => by cases e
section
variable {X : Cx} {w : World}
theorem z_sum (hc : X.calm = true) : CallR X (.builtin "sum") (Rz w opSum) := by
  intro pins s σ H xs us Q I r q
  obtain ⟨F, ds, sl, sf, dn, ho, k⟩ := q
  unfold opSum at ho
  split at ho
  · rename_i a
    obtain ⟨ns, e1, e2⟩ := Option.map_eq_some_iff.mp ho
    cases e2
    obtain ⟨x, rfl, d1⟩ := dn.one
    obtain ⟨p1, ys, rfl, h1, n1⟩ := d1.list sf
    have e3 := intsOf_dn n1 e1
    subst e3
    exact cr_sum hc pins s σ H _ us Q I r ⟨_, _, rfl, .inl h1, k _ F H (Gr.refl sf) (.int _)⟩
  · cases ho
end
/-! ### dicts, texts as keys -/
def lookD : List (Da × Da) → Str → Option Da
  | [], _ => none
  | (.str x, d) :: r, z => if x = z then some d else lookD r z
  | _ :: _, _ => none
def hasD (kvs : List (Da × Da)) (z : Str) : Bool := (lookD kvs z).isSome
def replD (z : Str) (y : Da) : List (Da × Da) → List (Da × Da)
  | [] => []
  | (.str x, d) :: r => (if x = z then (.str x, y) else (.str x, d)) :: replD z y r
  | p :: r => p :: replD z y r
def putD (kvs : List (Da × Da)) (z : Str) (y : Da) : List (Da × Da) := if hasD kvs z = true then replD z y kvs else kvs ++ [(.str z, y)]
section
variable {w : World} {F : Hp}
theorem DnEnt.look : ∀ {es : List (Key × V)} {kvs : List (Da × Da)} {z : Str}, DnEnt w F es kvs → (∀ d, lookD kvs z = some d → ∃ v, valV es (.inr z) = some v ∧ Dn w F v d) ∧ (lookD kvs z = none → valV es (.inr z) = none)
  | _, _, z, .nil => ⟨fun d h => (by cases h), fun _ => rfl⟩
  | _, _, z, .cons (x := x) (v := v) (dv := dv) a b => by
    by_cases h : x = z
    · subst h
      refine ⟨fun d e => ?_, fun e => ?_⟩
      · simp only [lookD, if_true] at e
        cases e
        exact ⟨v, valV_pos rfl, a⟩
      · simp [lookD] at e
    · obtain ⟨h1, h2⟩ := DnEnt.look (z := z) b
      have hne : ¬ ((Sum.inr x : Key) = Sum.inr z) := fun e => h (Sum.inr.inj e)
      refine ⟨fun d e => ?_, fun e => ?_⟩
      · simp only [lookD, h, if_false] at e
        rw [valV_neg hne]
        exact h1 d e
      · simp only [lookD, h, if_false] at e
        rw [valV_neg hne]
        exact h2 e
theorem DnEnt.repl {z : Str} {u : V} {y : Da} (hu : Dn w F u y) : ∀ {es : List (Key × V)} {kvs : List (Da × Da)}, DnEnt w F es kvs → DnEnt w F (es.map fun kv => if kv.1 = (Sum.inr z : Key) then (kv.1, u) else kv) (replD z y kvs)
  | _, _, .nil => .nil
  | _, _, .cons (x := x) (v := v) (dv := dv) a b => by
    rw [List.map_cons, replD]
    by_cases h : x = z
    · subst h
      simp only [if_true]
      exact .cons hu (DnEnt.repl hu b)
    · have hne : ¬ ((Sum.inr x : Key) = Sum.inr z) := fun e => h (Sum.inr.inj e)
      simp only [hne, h, if_false]
      exact .cons a (DnEnt.repl hu b)
theorem DnEnt.snoc {z : Str} {u : V} {y : Da} (hu : Dn w F u y) : ∀ {es : List (Key × V)} {kvs : List (Da × Da)}, DnEnt w F es kvs → DnEnt w F (es ++ [(.inr z, u)]) (kvs ++ [(.str z, y)])
  | _, _, .nil => .cons hu .nil
  | _, _, .cons a b => .cons a (DnEnt.snoc hu b)
theorem DnEnt.put {es : List (Key × V)} {kvs : List (Da × Da)} {z : Str} {u : V} {y : Da} (h : DnEnt w F es kvs) (hu : Dn w F u y) : DnEnt w F (putK es (.inr z) u) (putD kvs z y) := by
  obtain ⟨h1, h2⟩ := h.look (z := z)
  unfold putK putD hasD
  rw [valV_any]
  cases e : lookD kvs z with
  | none =>
    rw [h2 e]
    simp only [Option.isSome_none, Bool.false_eq_true, if_false]
    exact h.snoc hu
  | some d =>
    obtain ⟨v, e1, _⟩ := h1 d e
    rw [e1]
    simp only [Option.isSome_some, if_true]
    exact h.repl hu
theorem DnEnt.length : ∀ {es : List (Key × V)} {kvs : List (Da × Da)}, DnEnt w F es kvs → es.length = kvs.length
  | _, _, .nil => rfl
  | _, _, .cons a b => by rw [List.length_cons, List.length_cons, DnEnt.length b]
theorem Dn1.dict {H : Hp} {x : V} {kvs : List (Da × Da)} (s : Same F H) (h : Dn1 w F H x (.dict kvs)) : ∃ a es, x = .ref a ∧ Rd H a (.dK es) ∧ DnEnt w F es kvs := by
  rcases h with h | ⟨a, e, h⟩
  · cases h with
    | dic r t => exact ⟨_, _, rfl, Rd.mono s r, t⟩
  · obtain ⟨_, ⟨xs, ds, e', _⟩ | ⟨es, kvs', e', h1, h2⟩⟩ := h
    · cases e'
    · cases e'
      exact ⟨a, es, e, .inl h1, h2⟩
theorem Ow.dict {H : Hp} {a : Addr} {kvs : List (Da × Da)} (h : Ow w F H a (.dict kvs)) : ∃ es, H a = some (.dK es) ∧ DnEnt w F es kvs := by
  obtain ⟨_, ⟨xs, ds, e, _⟩ | ⟨es, kvs', e, h1, h2⟩⟩ := h
  · cases e
  · cases e
    exact ⟨es, h1, h2⟩
end
def opIxD : List Da → Option Sl
  | [.dict kvs, .str z] => (lookD kvs z).map .fz
  | _ => none
def mPutD (i : Nat) (mk m : ME) : MS := fun en => (m en).bind fun p => match p.1.dat with
  | none => .bad
  | some y => match sget p.2 i with
    | .ow (.dict _) => (mk p.2).bind fun q => match q.1 with
      | .fz (.str z) => match sget q.2 i with
        | .ow (.dict kvs) => if kvs.length < 1000000 then .ok (.nx, q.2.set i (.ow (.dict (putD kvs z y)))) else .bad
        | _ => .bad
      | _ => .bad
    | _ => .bad
section
variable {X : Cx} {G : Gx} {pos p : Pos} {e o k a b : Expr} {oa ob : Opd}
theorem s_ixD (hu : X.A.units + 64 < cLine) (ha : PE X a (rdO G oa)) (hb : PE X b (rdO G ob)) (hs : NoSl b) : PE X (.Subscript a b pos) (rdE G (mPure opIxD [oa, ob])) :=
  (pe_dget (by omega) ha hb hs).byR fun σ H Q h => rdO_imp (fun x H1 q => rdO_imp (fun y H2 q => by
    obtain ⟨F, ds, sl, sf, dn, ho, kk⟩ := q
    obtain ⟨d, e, rfl, d1, d2⟩ := dn.inv2
    unfold opIxD at ho
    split at ho
    · rename_i kvs z e'
      cases e'
      obtain ⟨dv, e1, e2⟩ := Option.map_eq_some_iff.mp ho
      cases e2
      obtain ⟨pa, es, rfl, h1, n1⟩ := d1.dict sf
      have e3 := d2.str
      subst e3
      obtain ⟨v, h2, n2⟩ := (n1.look (z := z)).1 dv e1
      exact ⟨_, v, rfl, .inl ⟨es, .inr z, h1, rfl, h2.symm⟩, kk _ F H2 (Gr.refl sf) n2⟩
    · cases ho) q) (rdOs_2 (rz_of h))
theorem ss_putD {i : Nat} {mk m : ME} {tpos : Pos} (hu : X.A.units + 64 < cLine) (ho : PE X o (tVar i)) (hk : PE X k (rdE G mk)) (he : PE X e (rdE G m)) (hs : swapsWithSole [.Subscript o k tpos] e pos.line X.env = pure false := by rfl) (hw : swappedStores [.Subscript o k tpos] e X.env = pure none := by rfl)
    (h1 : (assignEach [.Subscript o k tpos] X.env).map (·.2) = [assign (.Subscript o k tpos) X.env] := by rfl)
    (ha : ∀ v, assign (.Subscript o k tpos) X.env v = (do
      let ov ← holding [v] (eval o X.env)
      let iv ← holding [v, ov] (eval k X.env)
      standAt tpos
      holding [v, ov, iv] (setItem ov iv v)
      release [v, ov, iv] []) := by intro _; rfl) : PS X (.Assign [.Subscript o k tpos] e pos) (rdS G (mPutD i mk m)) :=
  (ps_asg he (pg_sub ho hk (set_dict (by omega)) ha) hs hw h1).byR fun σ H D h => rdE_imp (fun y H1 q => by
    obtain ⟨F, Fo, s, en, R, q⟩ := q
    dsimp only at q
    cases hd : s.dat with
    | none => rw [hd] at q; exact q.elim
    | some yd =>
      rw [hd] at q
      obtain ⟨F2, s2, R2, q2⟩ := R.freezeTop hd
      have R3 := R2.pop
      dsimp only at q
      split at q
      case h_2 => exact q.elim
      case h_1 d0 hs0 =>
      obtain ⟨a, ea, q0⟩ := R3.ow (sget_eq hs0 (by simp))
      refine ⟨_, ea, F2, Fo, en, R3, ?_⟩
      cases hm : mk en with
      | bad => simp only [hm, Rs.bind] at q; exact q.elim
      | ex x => simp only [hm, Rs.bind] at q; exact PostX.mono s2 (Same.refl _) q
      | ok pq =>
        obtain ⟨sk, en1⟩ := pq
        simp only [hm, Rs.bind] at q
        intro kv F4 H4 s4 R4
        split at q
        case h_2 => exact q.elim
        case h_1 kk =>
        split at q
        case h_2 => exact q.elim
        case h_1 kvs hs1 =>
        split at q
        case isFalse => exact q.elim
        case isTrue hl =>
        obtain ⟨v, ev, qk⟩ := R4.fz (i := 0) (by rfl)
        simp at ev; subst ev
        cases qk
        have R5 := R4.pop
        have hi1 := sget_eq hs1 (by simp)
        obtain ⟨b, eb, q3⟩ := R5.ow hi1
        rw [ea] at eb; cases eb
        obtain ⟨es, hx, dn⟩ := q3.dict
        refine ⟨_, _, rfl, .inl ⟨es, .inr kk, hx, rfl, million (by rw [dn.length]; exact hl), rfl⟩, ?_⟩
        exact q σ F4 _ (s2.trans s4) (R5.write hi1 ea fun H' e => ⟨q3.1, .inr ⟨_, _, rfl, e, dn.put (q2.mono s4)⟩⟩) Kp.refl) (rd_bindES h)
end
end Sh
set_option Elab.async false
set_option linter.all false
set_option maxRecDepth 100000
set_option autoImplicit false
/-! own layer 16: dict comprehensions, index of a text -/
namespace Sh
open PySem PySem.Spec PyProof.Rows L2

def keyS : Sl → Option Str
  | .fz (.str z) => some z
  | _ => none
theorem keyS_eq {s : Sl} {z : Str} (h : keyS s = some z) : s = .fz (.str z) := by
  unfold keyS at h
  split at h
  · cases h; rfl
  · cases h
open Classical in
noncomputable def dcL (os : List Op) (ds : List Da) (t : Tg) (tt : MT) (mk mv : ME) (vs : List Nat) : List Da → List (Da × Da) → En → Rs (List (Da × Da) × En)
  | [], acc, en => if resAll en os = some ds then .ok (acc, en) else .bad
  | d :: r, acc, en => if resAll en os = some ds then match asg t d en with
      | none => .bad
      | some en1 => (noEx (tt en1)).bind fun p => if p.1 = true then (noEx (mk p.2)).bind fun k => match keyS k.1 with
          | none => .bad
          | some z => (noEx (mv k.2)).bind fun q => match q.1.dat with
            | none => .bad
            | some y => if acc.length < 1000000 then dcL os ds t tt mk mv vs r (putD acc z y) (wipeE q.2 vs) else .bad
        else dcL os ds t tt mk mv vs r acc (wipeE p.2 vs)
    else .bad
noncomputable def mDc (it : ItM) (t : Tg) (tt : MT) (mk mv : ME) (vs : List Nat) : ME := fun en => (evalOps it.ops en).bind fun p => match resAll p.2 p.1 with
  | none => .bad
  | some ds => match it.items ds with
    | none => .bad
    | some items => if (atSlots p.1).all (fun i => !vs.contains i) = true then (dcL p.1 ds t tt mk mv vs items [] (wipeE (frzE p.2 vs) vs)).bind fun q => .ok (.ow (.dict q.1), restE (frzE p.2 vs) q.2 vs) else .bad
section
variable {X : Cx} {G : Gx} {pos p : Pos} {e iter tg elt : Expr} {es ifs : List Expr}
theorem rd_dc {it : ItM} {t : Tg} {tt : MT} {mk m : ME} {vs : List Nat} (hts : t.slots.all (fun i => vs.contains i) = true) {σ : L2.St} {H : Hp} {Q : VK} (h : rdE G (mDc it t tt mk m vs) σ H Q) :
    tDc (rdI G it) (rdG G.blk t) (rdT G.blk tt) (rdE G.blk mk) (rdE G.blk m) vs σ H Q := by
  have hts' : ∀ i ∈ t.slots, i ∈ vs := fun i hi => by
    have := List.all_eq_true.mp hts i hi
    simpa using this
  obtain ⟨F, Fo, en, R, h⟩ := h
  refine ⟨F, Fo, en, R, ?_⟩
  unfold mDc at h
  cases hr : evalOps it.ops en with
  | bad => simp only [hr] at h; exact h.elim
  | ex e => simp only [hr] at h; exact h
  | ok p =>
    obtain ⟨os, en1⟩ := p
    simp only [hr, Rs.bind] at h ⊢
    cases hd : resAll en1 os with
    | none => simp only [hd] at h; exact h.elim
    | some ds =>
      simp only [hd, Option.bind_some] at h ⊢
      cases hit : it.items ds with
      | none => simp only [hit] at h; exact h.elim
      | some items =>
        simp only [hit] at h ⊢
        refine ⟨ds, rfl, fun xs F1 H1 J s1 R1 rel hJ => ?_⟩
        split at h
        case isFalse => exact h.elim
        case isTrue hat =>
        have hat' : ∀ i ∈ atSlots os, i ∉ vs := fun i hi => by
          have := List.all_eq_true.mp hat i hi
          simpa using this
        intro D hD
        obtain ⟨F2, s2, R2⟩ := R1.frz vs
        have hno := frzE_no en1 vs
        generalize frzE en1 vs = en0 at h R2 hno
        have Rw := R2.wipe vs
        have hFD : F2 D = none := R2.fh.free hD
        -- the new list is held on top
        have RD : StR G.w F2 Fo (upd H1 D (.dK [])) (some (.ref D) :: L2.wipe σ vs) (.ow (.dict []) :: wipeE en0 vs) :=
          Rw.push (Gr.new R2.fh hD) ⟨D, rfl, hD, hFD, .inr ⟨[], [], rfl, upd_same, .nil⟩⟩
        have rel2 : OpRel G.w F2 σ xs os := rel.mono s2
        refine ⟨fun i k H' => k = items.length - i ∧ i ≤ items.length ∧ ∃ F' en' acc, Same F2 F' ∧ StR G.w F' Fo H' (some (.ref D) :: L2.wipe σ vs) (.ow (.dict acc) :: en') ∧
          PostE G F Fo σ Q ((dcL os ds t tt mk m vs (items.drop i) acc en').bind fun q => .ok (.ow (.dict q.1), restE en0 q.2 vs)), ⟨items.length, by simp, Nat.zero_le _, F2, _, [], Same.refl _, RD, h⟩, ?_⟩
        rintro i k H' ⟨rfl, hi, F', en', acc, s', R', post⟩
        have src : resAll en' os = some ds → Dn1s G.w F' H' xs ds := fun hl => src_keep R'.pop s' rel2 hl fun i hi => wipe_out (hat' i hi)
        by_cases hlt : i < items.length
        · have hx : items[i]? = some items[i] := List.getElem?_eq_getElem hlt
          have hdrop : items.drop i = items[i] :: items.drop (i + 1) := List.drop_eq_getElem_cons hlt
          rw [hdrop] at post
          unfold dcL at post
          split at post
          case isFalse => exact post.elim
          case isTrue hlive =>
            obtain ⟨go, yl⟩ := (hJ F' H' R'.fh (src hlive) i).1 _ hx
            cases ha : asg t items[i] en' with
            | none => rw [ha] at post; exact post.elim
            | some en2 =>
              rw [ha] at post
              dsimp only at post
              refine .inr ⟨go, fun H2 => ∃ F2' en3 acc', Same F2 F2' ∧ StR G.w F2' Fo H2 (some (.ref D) :: L2.wipe σ vs) (.ow (.dict acc') :: en3) ∧
                PostE G F Fo σ Q ((dcL os ds t tt mk m vs (items.drop (i + 1)) acc' en3).bind fun q => .ok (.ow (.dict q.1), restE en0 q.2 vs)), fun H2 hN => ⟨items.length - (i + 1), by omega, rfl, hlt, hN⟩, fun x H2 hy => ?_⟩
              obtain ⟨F3, g3, q3⟩ := yl x H2 hy
              have R3 := R'.grow g3
              obtain ⟨Fo3, R3h, so3, back⟩ := R3.hold
              refine ⟨F3, Fo3, en', items[i], en2, R3h, q3, ha, fun σ2 R4 b4 => ⟨wipe_bt hts' b4, ?_⟩⟩
              have hw := wipe_bt hts' b4
              refine ⟨F3, Fo3, en2, R4, ?_⟩
              cases htt : tt en2 with
              | bad => simp only [htt, noEx, Rs.bind] at post; exact post.elim
              | ex e => simp only [htt, noEx, Rs.bind] at post; exact post.elim
              | ok pb =>
                obtain ⟨bb, en3⟩ := pb
                simp only [htt, noEx, Rs.bind] at post
                intro F5 H5 s5 R5
                cases bb with
                | false =>
                  have R5w := R5.wipe vs
                  rw [hw] at R5w
                  have R5b := back F5 H5 _ _ s5 R5w
                  exact ⟨F5, _, acc, s'.trans (g3.ff.trans s5), R5b, post⟩
                | true =>
                  simp only [if_true] at post ⊢
                  refine ⟨F5, Fo3, en3, R5, ?_⟩
                  cases hke : mk en3 with
                  | bad => simp only [hke, noEx, Rs.bind] at post; exact post.elim
                  | ex e => simp only [hke, noEx, Rs.bind] at post; exact post.elim
                  | ok pk =>
                    obtain ⟨sk, en5⟩ := pk
                    simp only [hke, noEx, Rs.bind] at post
                    intro yk F6 H6 s6 R6
                    cases hks : keyS sk with
                    | none => simp only [hks] at post; exact post.elim
                    | some kz =>
                    simp only [hks] at post
                    have esk := keyS_eq hks
                    subst esk
                    obtain ⟨vk, ev, qk⟩ := R6.fz (i := 0) (by rfl)
                    simp at ev; subst ev
                    cases qk
                    refine ⟨F6, Fo3, en5, R6.pop, ?_⟩
                    cases hel : m en5 with
                    | bad => simp only [hel] at post; exact post.elim
                    | ex e => simp only [hel] at post; exact post.elim
                    | ok pq =>
                      obtain ⟨sv, en4⟩ := pq
                      simp only [hel] at post
                      intro y F8 H8 s8 R8
                      cases hdat : sv.dat with
                      | none => simp only [hdat] at post; exact post.elim
                      | some yd =>
                        simp only [hdat] at post
                        by_cases hsz : acc.length < 1000000
                        case neg => rw [if_neg hsz] at post; exact post.elim
                        case pos =>
                          rw [if_pos hsz] at post
                          obtain ⟨F7, s7, R7, q7⟩ := R8.freezeTop hdat
                          have R7w := R7.pop.wipe vs
                          rw [hw] at R7w
                          have R7b := back F7 H8 _ _ (((s5.trans s6).trans s8).trans s7) R7w
                          obtain ⟨aD, eD, oD⟩ := R7b.ow (i := 0) (by rfl)
                          simp at eD
                          subst eD
                          have nD := oD.1
                          obtain ⟨es, hDv, dn⟩ := oD.dict
                          refine ⟨es, .inr kz, rfl, hDv, million (by rw [dn.length]; exact hsz), F7, _, putD acc kz yd, s'.trans (g3.ff.trans (((s5.trans s6).trans s8).trans s7)), ?_, post⟩
                          have R9 := R7b.write (i := 0) (d' := .dict (putD acc kz yd)) (o := .dK (putK es (.inr kz) y)) (by rfl) (by rfl) fun H' e => ⟨nD, .inr ⟨_, _, rfl, e, dn.put q7⟩⟩
                          simpa using R9
        · have e : i = items.length := by omega
          subst e
          rw [List.drop_length] at post
          unfold dcL at post
          split at post
          case isFalse => exact post.elim
          case isTrue hlive =>
            refine .inl ⟨(hJ F' H' R'.fh (src hlive) items.length).2 (Nat.le_refl _), ?_⟩
            refine post (.ref D) F' H' ((s1.trans s2).trans s') ?_
            obtain ⟨Fo3, R3h, so3, back⟩ := R'.hold
            have Rr : StR G.w F' Fo3 H' σ (restE en0 en' vs) := StR.rest R2.len (fun j ov d _ h1 h2 => by
              obtain ⟨v, e, q⟩ := R2.sl j _ ov h2 h1
              exact ⟨v, e, q.mono s'⟩) hno R3h
            exact back F' H' σ _ (Same.refl _) Rr
theorem s_dc {kx vx : Expr} {it : ItM} {t : Tg} {tt : MT} {mk m : ME} {scope : Scope} {own : List (Str × Nat)} (hc : X.calm = true) (hN : X.N.Nodup) (hi : PI X tg iter (rdI G it)) (ok : BlkOk X.N X.env.scope scope own)
    (hg : ∀ (s : Shared) (H : Hp) (C : Addr) (cl : List (Str × Addr)) (fp : List Addr), PG (X.blk s H scope (compEnvC scope cl C X.env) fp) tg (rdG G.blk t)) (ht : ∀ (s : Shared) (H : Hp) (C : Addr) (cl : List (Str × Addr)) (fp : List Addr), PTs (X.blk s H scope (compEnvC scope cl C X.env) fp) ifs (rdT G.blk tt))
    (hk : ∀ (s : Shared) (H : Hp) (C : Addr) (cl : List (Str × Addr)) (fp : List Addr), PE (X.blk s H scope (compEnvC scope cl C X.env) fp) kx (rdE G.blk mk))
    (he : ∀ (s : Shared) (H : Hp) (C : Addr) (cl : List (Str × Addr)) (fp : List Addr), PE (X.blk s H scope (compEnvC scope cl C X.env) fp) vx (rdE G.blk m)) (hts : t.slots.all (fun i => (own.map (·.2)).contains i) = true := by rfl) (hs : ∀ x, foldedSetIterable iter X.env x = pure x := by intro _; rfl) :
    PE X (.DictComp kx vx [⟨tg, iter, ifs, 0⟩] scope pos) (rdE G (mDc it t tt mk m (own.map (·.2)))) :=
  (pe_dc hc hN hi ok hg ht hk he hs).byR fun _ _ _ h => rd_dc hts h
/-! ### index of a text in a list of texts -/
def ixS : List Da → Str → Option Nat
  | [], _ => none
  | .str y :: r, z => if y = z then (if r.all PyData.isStr = true then some 0 else none) else (ixS r z).map (· + 1)
  | _ :: _, _ => none
theorem ixS_ok : ∀ {ds : List Da} {z : Str} {j : Nat}, ixS ds z = some j → ds.all PyData.isStr = true ∧ ds[j]? = some (.str z) ∧ ∀ m d, m < j → ds[m]? = some d → ∃ y, d = .str y ∧ y ≠ z
  | [], _, _, h => by cases h
  | .str y :: r, z, j, h => by
    rw [ixS] at h
    split at h
    · rename_i e
      subst e
      split at h
      · rename_i hr
        cases h
        exact ⟨by simp only [List.all_cons, hr]; rfl, rfl, fun m d hm _ => by omega⟩
      · cases h
    · rename_i e
      obtain ⟨i, h1, rfl⟩ := Option.map_eq_some_iff.mp h
      obtain ⟨g1, g2, g3⟩ := ixS_ok h1
      refine ⟨by simp only [List.all_cons, g1]; rfl, by simpa using g2, fun m d hm hd => ?_⟩
      cases m with
      | zero => simp at hd; exact ⟨y, hd.symm, e⟩
      | succ m => exact g3 m d (by omega) (by simpa using hd)
  | .none :: _, _, _, h => by cases h
  | .bool _ :: _, _, _, h => by cases h
  | .int _ :: _, _, _, h => by cases h
  | .list _ :: _, _, _, h => by cases h
  | .tuple _ :: _, _, _, h => by cases h
  | .dict _ :: _, _, _, h => by cases h
theorem DnAll.flat {w : World} {F : Hp} : ∀ {xs : List V} {ds : List Da}, DnAll w F xs ds → ds.all PyData.isStr = true → xs.all flatV = true
  | _, _, .nil, _ => rfl
  | _, _, .cons (d := d) a b, h => by
    simp only [List.all_cons, Bool.and_eq_true] at h ⊢
    refine ⟨?_, b.flat h.2⟩
    cases d with
    | str z => cases a; rfl
    | _ => exact absurd h.1 (by simp [PyData.isStr])
def listD : Sl → Option (List Da)
  | .fz (.list ds) => some ds
  | .ow (.list ds) => some ds
  | _ => none
theorem listD_eq {s : Sl} {ds : List Da} (h : listD s = some ds) : s.dat = some (.list ds) := by
  unfold listD at h
  split at h
  · cases h; rfl
  · cases h; rfl
  · cases h
def mIndex (mo m : ME) : ME := fun en => (mo en).bind fun p => match listD p.1 with
  | none => .bad
  | some ds => (m p.2).bind fun q => match keyS q.1 with
    | none => .bad
    | some z => match ixS ds z with
      | none => .bad
      | some j => .ok (.fz (.int (j : Int)), q.2)
theorem rd_bindE {m : ME} {k : Sl × En → Rs (Sl × En)} {σ : L2.St} {H : Hp} {Q : VK} (h : rdE G (fun en => (m en).bind k) σ H Q) :
    rdE G m σ H fun x H1 => ∃ F Fo s en, StR G.w F Fo H1 (some x :: σ) (s :: en) ∧ PostE G F Fo σ Q (k (s, en)) := by
  obtain ⟨F, Fo, en, R, h⟩ := h
  refine ⟨F, Fo, en, R, ?_⟩
  cases hm : m en with
  | bad => simp only [hm] at h; exact h.elim
  | ex e => simp only [hm] at h; exact h
  | ok p =>
    simp only [hm] at h
    exact fun x F1 H1 s1 R1 => ⟨F1, Fo, p.1, p.2, R1, PostE.mono s1 h⟩
theorem s_index {o : Expr} {mo m : ME} {apos cpos : Pos} (ho : PE X o (rdE G mo)) (he : PE X e (rdE G m)) (hbase : attributeBase o "index" X.env (eval o X.env) = eval o X.env := by rfl)
    (hfew : ((backTo cpos (starEach [e] X.env)).all (fun x => !x.1) && (backToKw cpos (keywordEach [] X.env)).all (fun x => x.1.isSome)
      && decide (([e] : List Expr).length + ([] : List Keyword).length + (if ([] : List Keyword).isEmpty then 0 else 1) < 30)) = true := by rfl)
    (hline : (apos.endLine == cpos.line) = true := by rfl) (hst : starEach [e] X.env = (false, eval e X.env) :: starEach [] X.env := by rfl) :
    PE X (.Call (.Attribute o "index" apos) [e] [] cpos) (rdE G (mIndex mo m)) :=
  (pe_bm PySem.F.plainAttrs_list PySem.F.slot_list_index PySem.F.type_list_index mt_index ho (pa_cons he pa_nil hst) hbase hfew hline hst rfl).byR fun σ H Q h => rdE_imp (fun x H1 q => by
    obtain ⟨F, Fo, s, en, R, q⟩ := q
    dsimp only at q
    cases hd : listD s with
    | none => simp only [hd] at q; exact q.elim
    | some ds =>
      simp only [hd] at q
      obtain ⟨F2, s2, R2, q2⟩ := R.freezeTop (listD_eq hd)
      have R3 := R2.pop
      cases q2 with
      | @lst a xs _ r2 t2 =>
      refine ⟨.inl ⟨rfl, xs, .inl (Rd.mono R2.fh r2)⟩, F2, Fo, en, R3, ?_⟩
      cases hm : m en with
      | bad => simp only [hm, Rs.bind] at q; exact q.elim
      | ex x => simp only [hm, Rs.bind] at q; exact PostX.mono s2 (Same.refl _) q
      | ok pq =>
        obtain ⟨sk, en1⟩ := pq
        simp only [hm, Rs.bind] at q
        intro kv F4 H4 s4 R4
        cases hks : keyS sk with
        | none => simp only [hks] at q; exact q.elim
        | some z =>
        simp only [hks] at q
        have esk := keyS_eq hks
        subst esk
        obtain ⟨v, ev, qk⟩ := R4.fz (i := 0) (by rfl)
        simp at ev; subst ev
        cases qk
        cases hj : ixS ds z with
        | none => simp only [hj] at q; exact q.elim
        | some j =>
        simp only [hj] at q
        obtain ⟨g1, g2, g3⟩ := ixS_ok hj
        have t4 := t2.mono s4
        obtain ⟨v, h1, h2⟩ := t4.get g2
        cases h2
        refine ⟨a, xs, _, j, _, rfl, rfl, .inl (Rd.mono R4.fh (Rd.mono s4 r2)), rfl, t4.flat g1, h1, by simp [eqV], fun mm z' hm' hz' => ?_, ?_⟩
        · obtain ⟨d, e1, e2⟩ := t4.getV hz'
          obtain ⟨y, rfl, hy⟩ := g3 mm d hm' e1
          cases e2
          simp [eqV, hy]
        · exact q _ F4 H4 (s2.trans s4) (R4.pop.push (Gr.refl R4.fh) (.int _))) (rd_bindE h)
end
end Sh
set_option Elab.async false
set_option linter.all false
set_option maxRecDepth 100000
set_option autoImplicit false
/-! own layer 17: dict(zip(list, tuple)) -/
namespace Sh
open PySem PySem.Spec PyProof.Rows L2

section
variable {P : Program} {w : World} {A : Around} {E : Value → Shared → Prop} {s : Shared} {z TI TO T i1 i2 : Addr} {fp1 fp2 : List Addr} {n1 n2 i : Nat} {P1 P2 : Nat → Value → Prop} {S1 S2 : Nat → Heap → Prop} {f : Bool} {oT : Obj}
/-- next of a zip whose last tuple is still there -/
theorem zh_item {Q : Value → Shared → Prop} (S : ZipSep2 z TI TO i1 i2 fp1 fp2) (D1 : Draws P w A i1 fp1 n1 P1 S1) (D2 : Draws P w A i2 fp2 n2 P2 S2) (hz : IsZipHeld s.heap z TI TO T f) (hT : s.heap.get? T = some oT) (hI : IsTupOf2 s.heap TI (.ref i1) (.ref i2)) (t1 : S1 i s.heap) (t2 : S2 i s.heap) (l1 : i < n1) (l2 : i < n2)
    (k : ∀ x y h' tk, P1 i x → P2 i y → IsZipHeld h' z TI TO T true → S1 (i + 1) h' → S2 (i + 1) h' → IsTupOf2 h' s.heap.objs.size x y → (∀ c o, c ≠ z → c ≠ i1 → c ≠ i2 → s.heap.get? c = some o → h'.get? c = some o) → Q (.ref s.heap.objs.size) { s with heap := h', toks := tk }) :
    wpAny (model P w) A (Builtin.«zip.__next__» ⟨[.ref z], []⟩) (fun r s' => ∃ v, r = .done (.ret v) ∧ Q v s') E s := by
  obtain ⟨hp, g, d, tk0, os⟩ := s
  show wpAny _ _ (field (.ref z) 2 >>= _) _ _ _
  refine wpAny_bind (wpAny_field hz rfl (x := .bool false) rfl ?_)
  show wpAny _ _ (field (.ref z) 3 >>= _) _ _ _
  refine wpAny_bind (wpAny_field hz rfl (x := .ref TI) rfl ?_)
  refine wpAny_bind (wpAny_seqItems hI rfl ?_)
  show wpAny _ _ (Builtin.SmallTypes.ownedTupleIsFree (.ref z) >>= _) _ _ _
  refine wpAny_bind (wpAny_tupleHeld_zip hz hT fun g0 hz0 hs0 => ?_)
  replace hs0 : Heap.SameBut z hp g0 := hs0
  simp only [Bool.false_eq_true, if_false]
  refine wpAny_bind ?_
  rw [← Array.forIn_toList]
  simp only [List.forIn_cons, List.forIn_nil]
  refine wpAny_bind (wpAny_bind (wpAny_holding ?_))
  show wpAny _ _ (Builtin.SmallTypes.nextOf (.ref i1) >>= _) _ _ ⟨g0, g, d, tk0, os⟩
  refine wpAny_bind (D1.item i _ _ _ l1 (D1.over t1 hs0 S.zf1) fun x g1 tk1 hx u1 hs1 => wpAny_pure ?_)
  replace hs1 : Heap.SameBut i1 g0 g1 := hs1
  refine wpAny_pure ?_
  refine wpAny_bind (wpAny_bind (wpAny_holding ?_))
  show wpAny _ _ (Builtin.SmallTypes.nextOf (.ref i2) >>= _) _ _ ⟨g1, g, d, tk1, os⟩
  refine wpAny_bind (D2.item i _ _ _ l2 (D2.over (D2.over t2 hs0 S.zf2) hs1 S.sep1_2) fun y g2 tk2 hy u2 hs2 => wpAny_pure ?_)
  replace hs2 : Heap.SameBut i2 g1 g2 := hs2
  refine wpAny_pure (wpAny_pure ?_)
  show wpAny _ _ (newTuple [x, y] >>= _) _ _ ⟨g2, g, d, tk2, os⟩
  refine wpAny_bind (wpAny_newTuple ?_)
  have n : g2.objs.size = hp.objs.size := by rw [hs2.1, hs1.1, hs0.1]
  have hz2 : IsZipHeld g2 z TI TO T true := hs2.extBut _ _ S.zi2 (hs1.extBut _ _ S.zi1 hz0)
  have v1 : S1 (i + 1) g2 := D1.over u1 hs2 S.sep2_1
  have hk : ∀ c o, c ≠ z → c ≠ i1 → c ≠ i2 → hp.get? c = some o → g2.get? c = some o := fun c o c0 c1 c2 e => hs2.extBut _ _ c2 (hs1.extBut _ _ c1 (hs0.extBut _ _ c0 e))
  refine wpAny_pure ⟨_, rfl, ?_⟩
  show Q (.ref g2.objs.size) _
  have hnew : IsTupOf2 (g2.push { cls := .type "tuple", data := .seq #[x, y] }) g2.objs.size x y := Heap.get?_push_size _ rfl
  rw [n] at hnew ⊢
  exact k x y _ tk2 hx hy (Heap.get?_push_of_some _ hz2) (D1.frame _ _ _ v1 fun b _ o e => Heap.get?_push_of_some _ e) (D2.frame _ _ _ u2 fun b _ o e => Heap.get?_push_of_some _ e) hnew fun c o c0 c1 c2 e => Heap.get?_push_of_some _ (hk c o c0 c1 c2 e)
theorem zh_end {Q : Fin → Shared → Prop} (S : ZipSep2 z TI TO i1 i2 fp1 fp2) (D1 : Draws P w A i1 fp1 n1 P1 S1) (D2 : Draws P w A i2 fp2 n2 P2 S2) (hz : IsZipHeld s.heap z TI TO T f) (hT : s.heap.get? T = some oT) (hI : IsTupOf2 s.heap TI (.ref i1) (.ref i2)) (t1 : S1 i s.heap) (t2 : S2 i s.heap) (l1 : i ≤ n1) (l2 : i ≤ n2) (hend : i = n1 ∨ i = n2)
    (k : ∀ h' tk e, (∀ c o, c ≠ z → c ≠ i1 → c ≠ i2 → s.heap.get? c = some o → h'.get? c = some o) → (∃ o, h'.get? e = some o ∧ o.cls = .type "StopIteration") → E (.ref e) { s with heap := h', toks := tk }) :
    wpAny (model P w) A (Builtin.«zip.__next__» ⟨[.ref z], []⟩) Q E s := by
  obtain ⟨hp, g, d, tk0, os⟩ := s
  show wpAny _ _ (field (.ref z) 2 >>= _) _ _ _
  refine wpAny_bind (wpAny_field hz rfl (x := .bool false) rfl ?_)
  show wpAny _ _ (field (.ref z) 3 >>= _) _ _ _
  refine wpAny_bind (wpAny_field hz rfl (x := .ref TI) rfl ?_)
  refine wpAny_bind (wpAny_seqItems hI rfl ?_)
  show wpAny _ _ (Builtin.SmallTypes.ownedTupleIsFree (.ref z) >>= _) _ _ _
  refine wpAny_bind (wpAny_tupleHeld_zip hz hT fun g0 hz0 hs0 => ?_)
  replace hs0 : Heap.SameBut z hp g0 := hs0
  simp only [Bool.false_eq_true, if_false]
  refine wpAny_bind ?_
  rw [← Array.forIn_toList]
  simp only [List.forIn_cons, List.forIn_nil]
  refine wpAny_bind (wpAny_bind (wpAny_holding ?_))
  show wpAny _ _ (Builtin.SmallTypes.nextOf (.ref i1) >>= _) _ _ ⟨g0, g, d, tk0, os⟩
  by_cases hlt : i < n1
  · have e2 : i = n2 := by omega
    refine wpAny_bind (D1.item i _ _ _ hlt (D1.over t1 hs0 S.zf1) fun x g1 tk1 hx u1 hs1 => wpAny_pure ?_)
    replace hs1 : Heap.SameBut i1 g0 g1 := hs1
    refine wpAny_pure ?_
    refine wpAny_bind (wpAny_bind (wpAny_holding ?_))
    show wpAny _ _ (Builtin.SmallTypes.nextOf (.ref i2) >>= _) _ _ ⟨g1, g, d, tk1, os⟩
    refine wpAny_bind (D2.done ⟨g1, g, d, tk1, os⟩ _ _ (by rw [← e2]; exact D2.over (D2.over t2 hs0 S.zf2) hs1 S.sep1_2) fun q e hq he => ?_)
    exact k q tk1 e (fun c o c0 c1 c2 h => hq _ _ c2 (hs1.extBut _ _ c1 (hs0.extBut _ _ c0 h))) he
  · have e1 : i = n1 := by omega
    refine wpAny_bind (D1.done ⟨g0, g, d, tk0, os⟩ _ _ (by rw [← e1]; exact D1.over t1 hs0 S.zf1) fun q e hq he => ?_)
    exact k q tk0 e (fun c o c0 c1 c2 h => hq _ _ c1 (hs0.extBut _ _ c0 h)) he
theorem zh_nextI {Q : Option Value → Shared → Prop} (S : ZipSep2 z TI TO i1 i2 fp1 fp2) (D1 : Draws P w A.in1 i1 fp1 n1 P1 S1) (D2 : Draws P w A.in1 i2 fp2 n2 P2 S2) (hz : IsZipHeld s.heap z TI TO T f) (hT : s.heap.get? T = some oT) (hI : IsTupOf2 s.heap TI (.ref i1) (.ref i2)) (t1 : S1 i s.heap) (t2 : S2 i s.heap) (l1 : i < n1) (l2 : i < n2)
    (k : ∀ x y h' tk, P1 i x → P2 i y → IsZipHeld h' z TI TO T true → S1 (i + 1) h' → S2 (i + 1) h' → IsTupOf2 h' s.heap.objs.size x y → (∀ c o, c ≠ z → c ≠ i1 → c ≠ i2 → s.heap.get? c = some o → h'.get? c = some o) → Q (some (.ref s.heap.objs.size)) { s with heap := h', toks := tk }) :
    wpAny (model P w) A (pyNext (.ref z)) Q E s := by
  have hy : s.TypeIs (.ref z) "zip" := ⟨_, hz, rfl⟩
  unfold pyNext
  refine wpAny_bind (wpAny_attempt (wpAny_callSpecial?_slot (name := Str.ofString "__next__") hy F.slot_zip_next ?_))
  exact wpAny_call_entry F.slot_zip_next hy F.entry_zip_next (zh_item S D1 D2 hz hT hI t1 t2 l1 l2 fun x y h' tk a b c d e f g => wpAny_pure (k x y h' tk a b c d e f g)) (F.args_zip_next_1 _)
theorem zh_nextE {Q : Option Value → Shared → Prop} (S : ZipSep2 z TI TO i1 i2 fp1 fp2) (D1 : Draws P w A.in1 i1 fp1 n1 P1 S1) (D2 : Draws P w A.in1 i2 fp2 n2 P2 S2) (hz : IsZipHeld s.heap z TI TO T f) (hT : s.heap.get? T = some oT) (hI : IsTupOf2 s.heap TI (.ref i1) (.ref i2)) (t1 : S1 i s.heap) (t2 : S2 i s.heap) (l1 : i ≤ n1) (l2 : i ≤ n2) (hend : i = n1 ∨ i = n2)
    (k : ∀ h' tk, (∀ c o, c ≠ z → c ≠ i1 → c ≠ i2 → s.heap.get? c = some o → h'.get? c = some o) → Q none { s with heap := h', toks := tk }) : wpAny (model P w) A (pyNext (.ref z)) Q E s := by
  have hy : s.TypeIs (.ref z) "zip" := ⟨_, hz, rfl⟩
  unfold pyNext
  refine wpAny_bind (wpAny_attempt (wpAny_callSpecial?_slot (name := Str.ofString "__next__") hy F.slot_zip_next ?_))
  refine wpAny_call_entry F.slot_zip_next hy F.entry_zip_next (zh_end S D1 D2 hz hT hI t1 t2 l1 l2 hend fun h' tk e hk he => ?_) (F.args_zip_next_1 _)
  obtain ⟨o, ho, hc⟩ := he
  refine wpAny_bind (wpAny_isInstance (T := "StopIteration") (b := true) ⟨o, ho, hc⟩ isSubtype_stop ?_)
  exact wpAny_pure (k _ _ hk)
end
end Sh
set_option Elab.async false
set_option linter.all false
set_option maxRecDepth 100000
set_option autoImplicit false
/-! own layer 18: dict(zip(list, tuple)), the rule -/
namespace Sh
open PySem PySem.Spec PyProof.Rows L2

theorem merged_new {K : Type} [DecidableEq K] : ∀ (more acc : List (K × Value)), ((acc ++ more).map (·.1)).Nodup → merged acc more = acc ++ more
  | [], acc, _ => by simp [merged]
  | p :: r, acc, h => by
    have hs : stored acc p.1 p.2 = acc ++ [p] := by
      unfold stored
      have hno : acc.any (fun kv => decide (kv.1 = p.1)) = false := by
        rw [List.any_eq_false]
        intro q hq
        simp only [decide_eq_true_eq]
        intro e
        rw [List.map_append, List.nodup_append] at h
        exact h.2.2 q.1 (List.mem_map.mpr ⟨q, hq, rfl⟩) p.1 (by simp) e
      rw [if_neg (by rw [hno]; simp)]
    have ih := merged_new r (acc ++ [p]) (by simpa using h)
    unfold merged at ih ⊢
    rw [List.foldl_cons, hs, ih]
    simp
section
variable {P : Program} {w : World}
abbrev ZOk (z TI TO i1 i2 l1 l2 : Addr) (xs ys : Array Value) (h : Heap) : Prop := IsZip h z TI TO .none ∧ IsTupOf2 h TI (.ref i1) (.ref i2) ∧ (∃ a b, IsTupOf2 h TO a b) ∧ (h.IsListIter i1 l1 0 ∧ h.IsList l1 xs) ∧ (h.IsTupleIter i2 l2 0 ∧ h.IsTuple l2 ys)
theorem pairs_zip (z TI TO i1 i2 l1 l2 : Addr) (S : ZipSep2 z TI TO i1 i2 [i1, l1] [i2, l2]) (xs ys : Array Value) (hl1 : l1 ≠ i1) (hl2 : l2 ≠ i2) :
    PairArg P w "zip" z [z, TI, TO, i1, i2, l1, l2] [z, TO, i1, i2] (min xs.size ys.size) (fun i k v => xs[i]? = some k ∧ ys[i]? = some v) (ZOk z TI TO i1 i2 l1 l2 xs ys) where
  type := fun s ok => ⟨_, ok.1, rfl⟩
  notDict := by decide
  keep := fun h h' ok hk => by
    obtain ⟨hz, hI, ⟨a, b, hO⟩, ⟨t1, u1⟩, ⟨t2, u2⟩⟩ := ok
    exact ⟨hk _ _ hz, hk _ _ hI, ⟨a, b, hk _ _ hO⟩, ⟨t1.at fun o e => hk _ o e, u1.at fun o e => hk _ o e⟩, ⟨t2.at fun o e => hk _ o e, u2.at fun o e => hk _ o e⟩⟩
  there := fun h ok b hb => by
    obtain ⟨hz, hI, ⟨a, c, hO⟩, ⟨⟨o1, t1, _⟩, ⟨o3, u1, _⟩⟩, ⟨⟨o2, t2, _⟩, ⟨o4, u2, _⟩⟩⟩ := ok
    simp only [List.mem_cons, List.not_mem_nil, or_false] at hb
    rcases hb with rfl | rfl | rfl | rfl | rfl | rfl | rfl
    all_goals first | exact ⟨_, hz⟩ | exact ⟨_, hI⟩ | exact ⟨_, hO⟩ | exact ⟨_, t1⟩ | exact ⟨_, t2⟩ | exact ⟨_, u1⟩ | exact ⟨_, u2⟩
  sub := fun b hb => by
    simp only [List.mem_cons, List.not_mem_nil, or_false] at hb ⊢
    rcases hb with h | h | h | h <;> simp [h]
  noKeys := fun A s Q E hA ok h => getAttrOr_miss_zip ok.1 rfl rfl rfl zip_no_keys (by decide +kernel) hA h
  iter := fun A s d Q E hA ok hd hdf h => by
    obtain ⟨hz, hI, ⟨a, b, hO⟩, t1, t2⟩ := ok
    simp only [List.mem_cons, List.not_mem_nil, or_false, not_or] at hdf
    obtain ⟨dz, dTI, dTO, di1, di2, dl1, dl2⟩ := hdf
    have D1 := Draws.list (prog := P) (w := w) (A := A.in1) hA i1 l1 hl1 xs
    have D2 := Draws.tuple (prog := P) (w := w) (A := A.in1) hA i2 l2 hl2 ys
    refine wpAny_pyIter_zip hz (h z [z, TO, i1, i2] (fun i h => IsTupOf2 h TI (.ref i1) (.ref i2) ∧ (h.IsListIter i1 l1 i ∧ h.IsList l1 xs) ∧ (h.IsTupleIter i2 l2 i ∧ h.IsTuple l2 ys) ∧
      ((IsZip h z TI TO .none ∧ ∃ a b, IsTupOf2 h TO a b) ∨ ∃ T f oT, IsZipHeld h z TI TO T f ∧ h.get? T = some oT ∧ T ≠ z ∧ T ≠ i1 ∧ T ≠ i2 ∧ T ≠ d)) s.heap s.toks ?_ ⟨hI, t1, t2, .inl ⟨hz, a, b, hO⟩⟩ (fun _ _ e => e) fun b hb => .inl hb)
    refine { off := ?_, frame := ?_, item := ?_, done := ?_ }
    · intro hm
      simp only [List.mem_cons, List.not_mem_nil, or_false] at hm
      rcases hm with e | e | e | e
      · exact dz e
      · exact dTO e
      · exact di1 e
      · exact di2 e
    · intro i h1 h2 st hk
      obtain ⟨hI, t1, t2, hz⟩ := st
      refine ⟨hk _ _ (Ne.symm dTI) hI, ⟨t1.1.at fun o e => hk _ o (Ne.symm di1) e, t1.2.at fun o e => hk _ o (Ne.symm dl1) e⟩, ⟨t2.1.at fun o e => hk _ o (Ne.symm di2) e, t2.2.at fun o e => hk _ o (Ne.symm dl2) e⟩, ?_⟩
      rcases hz with ⟨hz, a, b, hO⟩ | ⟨T, f, oT, hz, hT, r1, r2, r3, r4⟩
      · exact .inl ⟨hk _ _ (Ne.symm dz) hz, a, b, hk _ _ (Ne.symm dTO) hO⟩
      · exact .inr ⟨T, f, oT, hk _ _ (Ne.symm dz) hz, hk _ _ r4 hT, r1, r2, r3, r4⟩
    · intro i s1 Q1 E1 hi st hds hQ
      obtain ⟨hI, t1, t2, hz⟩ := st
      have g1 : i < xs.size := by omega
      have g2 : i < ys.size := by omega
      have lt : ∀ {c o}, s1.heap.get? c = some o → s1.heap.objs.size ≠ c := fun e => Nat.ne_of_gt (Heap.lt_size e)
      have m1 : s1.heap.objs.size ≠ i1 := let ⟨_, e, _⟩ := t1.1; lt e
      have m2 : s1.heap.objs.size ≠ i2 := let ⟨_, e, _⟩ := t2.1; lt e
      rcases hz with ⟨hz, a, b, hO⟩ | ⟨T, f, oT, hz, hT, r1, r2, r3, r4⟩
      · refine wpAny_pyNext_zipD2_item S D1 D2 hz hI hO t1 t2 g1 g2 fun x y h' tk hx hy k1 k2 k3 k4 k5 k6 hk => ?_
        exact hQ s1.heap.objs.size x y h' tk ⟨hx, hy⟩ (.inl ⟨_, k5, rfl, _, rfl⟩) ⟨hk _ _ S.TIz S.TITO S.TIi1 S.TIi2 hI, k3, k4, .inr ⟨s1.heap.objs.size, false, _, k1, k5, lt hz, m1, m2, Nat.ne_of_gt hds⟩⟩
          fun c o hc e => hk c o (fun q => hc (by simp [q])) (fun q => hc (by simp [q])) (fun q => hc (by simp [q])) (fun q => hc (by simp [q])) e
      · refine zh_nextI S D1 D2 hz hT hI t1 t2 g1 g2 fun x y h' tk hx hy k1 k3 k4 k5 hk => ?_
        exact hQ s1.heap.objs.size x y h' tk ⟨hx, hy⟩ (.inl ⟨_, k5, rfl, _, rfl⟩) ⟨hk _ _ S.TIz S.TIi1 S.TIi2 hI, k3, k4, .inr ⟨T, true, oT, k1, hk _ _ r1 r2 r3 hT, r1, r2, r3, r4⟩⟩
          fun c o hc e => hk c o (fun q => hc (by simp [q])) (fun q => hc (by simp [q])) (fun q => hc (by simp [q])) e
    · intro s1 Q1 E1 st hQ
      obtain ⟨hI, t1, t2, hz⟩ := st
      have hend : min xs.size ys.size = xs.size ∨ min xs.size ys.size = ys.size := by omega
      rcases hz with ⟨hz, a, b, hO⟩ | ⟨T, f, oT, hz, hT, r1, r2, r3, r4⟩
      · exact wpAny_pyNext_zipD2_end S D1 D2 hz hI hO t1 t2 (by omega) (by omega) hend fun h' tk hk => hQ h' tk fun c o hc e => hk c o (fun q => hc (by simp [q])) (fun q => hc (by simp [q])) (fun q => hc (by simp [q])) (fun q => hc (by simp [q])) e
      · exact zh_nextE S D1 D2 hz hT hI t1 t2 (by omega) (by omega) hend fun h' tk hk => hQ h' tk fun c o hc e => hk c o (fun q => hc (by simp [q])) (fun q => hc (by simp [q])) (fun q => hc (by simp [q])) e
end
def strsOf : List Da → Option (List Str)
  | [] => some []
  | .str z :: r => (strsOf r).map (z :: ·)
  | _ :: _ => none
theorem strsOf_dn {w : World} {F : Hp} : ∀ {ds : List Da} {xs : List V} {zs : List Str}, DnAll w F xs ds → strsOf ds = some zs → xs = zs.map V.str
  | [], _, _, h, e => by cases h; cases e; rfl
  | .str z :: r, _, _, h, e => by
    cases h with
    | cons a b =>
      cases a
      simp only [strsOf, Option.map_eq_some_iff] at e
      obtain ⟨ms, e1, rfl⟩ := e
      rw [strsOf_dn b e1]
      rfl
  | .none :: _, _, _, _, e => by cases e
  | .bool _ :: _, _, _, _, e => by cases e
  | .int _ :: _, _, _, _, e => by cases e
  | .list _ :: _, _, _, _, e => by cases e
  | .tuple _ :: _, _, _, _, e => by cases e
  | .dict _ :: _, _, _, _, e => by cases e
def zipK {α : Type} : List Str → List α → List (Key × α)
  | z :: zs, y :: ys => (.inr z, y) :: zipK zs ys
  | _, _ => []
def zipKD : List Str → List Da → List (Da × Da)
  | z :: zs, y :: ys => (.str z, y) :: zipKD zs ys
  | _, _ => []
def opDictZip : List Da → Option Sl
  | [.list ks, .tuple vs] => (strsOf ks).bind fun zs => if decide zs.Nodup && decide (zs.length = vs.length) && decide (zs.length ≤ 1000) then some (.ow (.dict (zipKD zs vs))) else none
  | _ => none
theorem zipK_dn {w : World} {F : Hp} : ∀ (zs : List Str) {ys : List V} {vs : List Da}, DnAll w F ys vs → DnEnt w F (zipK zs ys) (zipKD zs vs)
  | [], _, _, _ => .nil
  | _ :: _, _, _, .nil => .nil
  | z :: zs, _, _, .cons a b => .cons a (zipK_dn zs b)
theorem zipK_rel : ∀ (zs : List Str) {ys : List V} {us : List Value}, Vals ys us → KV (zipK zs ys) (zipK zs us)
  | [], _, _, _ => .nil
  | _ :: _, _, _, .nil => .nil
  | z :: zs, _, _, .cons a b => .cons ⟨rfl, a⟩ (zipK_rel zs b)
theorem zipK_len {α : Type} : ∀ (zs : List Str) (ys : List α), zs.length = ys.length → (zipK zs ys).length = zs.length
  | [], [], _ => rfl
  | [], _ :: _, h => by simp at h
  | _ :: _, [], h => by simp at h
  | z :: zs, y :: ys, h => by simp only [zipK, List.length_cons]; rw [zipK_len zs ys (by simpa using h)]
theorem zipK_keys {α : Type} : ∀ (zs : List Str) (ys : List α), zs.length = ys.length → (zipK zs ys).map (·.1) = zs.map (Sum.inr : Str → Key)
  | [], [], _ => rfl
  | [], _ :: _, h => by simp at h
  | _ :: _, [], h => by simp at h
  | z :: zs, y :: ys, h => by simp only [zipK, List.map_cons]; rw [zipK_keys zs ys (by simpa using h)]
theorem zipK_get {α : Type} : ∀ {zs : List Str} {ys : List α} {i : Nat} {z : Str} {y : α}, zs[i]? = some z → ys[i]? = some y → (zipK zs ys)[i]? = some (.inr z, y)
  | [], _, _, _, _, h, _ => by simp at h
  | _ :: _, [], _, _, _, _, h => by simp at h
  | z :: zs, y :: ys, 0, _, _, h, h' => by simp at h h'; subst h h'; rfl
  | z :: zs, y :: ys, i + 1, _, _, h, h' => by
    simp only [zipK, List.getElem?_cons_succ] at h h' ⊢
    exact zipK_get h h'
theorem nm2 {x a b : Nat} (h1 : x ≠ a) (h2 : x ≠ b) : x ∉ [a, b] := by simp [h1, h2]
theorem sep_of (N q1 q2 : Nat) (h1 : q1 < N) (h2 : q2 < N) : ZipSep2 (N + 4) (N + 2) (N + 3) N (N + 1) [N, q1] [N + 1, q2] :=
  ⟨(show (N + 2 : Nat) ≠ N + 4 by omega), (show (N + 3 : Nat) ≠ N + 4 by omega), (show (N + 2 : Nat) ≠ N + 3 by omega), (show (N + 2 : Nat) ≠ N by omega), List.mem_cons_self, nm2 (by omega) (by omega), nm2 (by omega) (by omega),
    (show (N + 2 : Nat) ≠ N + 1 by omega), List.mem_cons_self, nm2 (by omega) (by omega), nm2 (by omega) (by omega), nm2 (by omega) (by omega), nm2 (by omega) (by omega)⟩
theorem new4 {N b : Nat} (h : b < N) : b ∉ [N + 4, N + 3, N, N + 1] := by
  intro hm
  simp only [List.mem_cons, List.not_mem_nil, or_false] at hm
  omega
section
variable {X : Cx} {G : Gx} {a b : Expr} {ops : List Opd} {p p2 pos pos2 : Pos}
theorem s_dictzip (hc : X.calm = true) (hg : Gl X "dict") (hm : X.mg "dict" = none) (hg2 : Gl X "zip") (hm2 : X.mg "zip" = none) (ha : PA X [a, b] (rdOs G ops))
    (hs : starEach [.Call (.Name "zip" p2) [a, b] [] pos2] X.env = (false, eval (.Call (.Name "zip" p2) [a, b] [] pos2) X.env) :: starEach [] X.env := by rfl)
    (hs2 : starEach [a, b] X.env = (false, eval a X.env) :: starEach [b] X.env := by rfl) (hpl2 : (backTo pos2 (starEach [b] X.env)).any (·.1) = false := by rfl) :
    PE X (.Call (.Name "dict" p) [.Call (.Name "zip" p2) [a, b] [] pos2] [] pos) (rdE G (mPure opDictZip ops)) := by
  refine ⟨fun pins s σ H Q I h => ?_⟩
  have h' := rz_of h
  refine Call_ (ld_blt I hg hm PyProof.Rows.boot_dict (PyProof.Rows.callWith_type1 ?_ hs rfl))
  rw [hs]
  show wpAny _ _ (spliced ((false, eval (.Call (.Name "zip" p2) [a, b] [] pos2) X.env) :: [])) _ _ s
  refine Calls.spliced_cons ?_
  refine Call_ (ld_blt I hg2 hm2 PyProof.Rows.boot_zip (PyProof.Rows.callWith_type1 (thn (ha.run pos2 pins s σ H _ I h') fun us s1 ⟨vs, H1, I1, r1, q1⟩ => ?_) hs2 hpl2))
  obtain ⟨F, ds, sl, sf, dn, ho, k⟩ := q1
  unfold opDictZip at ho
  split at ho
  case h_2 => cases ho
  case h_1 ks ws =>
  obtain ⟨zs, e1, ho⟩ := Option.bind_eq_some_iff.mp ho
  split at ho
  case isFalse => cases ho
  case isTrue hok =>
  cases ho
  simp only [Bool.and_eq_true, decide_eq_true_eq] at hok
  obtain ⟨⟨nd, hlen⟩, hbig⟩ := hok
  obtain ⟨v1, v2, rfl, d1, d2⟩ := dn.two
  obtain ⟨q1, xs, rfl, h1, n1⟩ := d1.list sf
  obtain ⟨q2, ys, rfl, h2, n2⟩ := d2.tuple
  have ex := strsOf_dn n1 e1
  subst ex
  obtain ⟨u1, u2, rfl, ru1, ru2⟩ := vals2 r1
  cases ru1
  cases ru2
  obtain ⟨its, rv, pl, _⟩ := I1.list (.inl h1)
  obtain ⟨its2, rv2, pt, _⟩ := I1.tuple (.inl (Rd.mono sf h2))
  obtain ⟨o1, ho1, _⟩ := pl.isList
  obtain ⟨o2, ho2, _⟩ := id pt
  have hlt1 := Heap.lt_size ho1
  have hlt2 := Heap.lt_size ho2
  have lz : zs.length = its2.length := by rw [hlen, ← n2.length, rv2.length]
  have li : its.length = zs.length := by have := rv.length; simp at this; omega
  generalize hN : s1.heap.objs.size = N at hlt1 hlt2
  refine zip_begins2 (begins_list q1 its.toArray) (begins_tuple q2 its2.toArray) pl.isList pt fun h' hz hTI hTO g1 g2 hsz hk => ?_
  refine Calls.spliced_nil ?_
  rw [hN] at hz hTI hTO g1 g2 hsz ⊢
  have S : ZipSep2 (N + 4) (N + 2) (N + 3) N (N + 1) [N, q1] [N + 1, q2] := sep_of N q1 q2 hlt1 hlt2
  have ok : ZOk (N + 4) (N + 2) (N + 3) N (N + 1) q1 q2 its.toArray its2.toArray h' :=
    ⟨hz, hTI, ⟨_, _, hTO⟩, ⟨⟨_, g1, rfl, rfl⟩, pl.isList.at fun o e => hk _ o e⟩, ⟨⟨_, g2, rfl, rfl⟩, Heap.IsTuple.at (show s1.heap.IsTuple q2 its2.toArray from pt) fun o e => hk _ o e⟩⟩
  refine call_dict_pairs (knd := mixKind X.prog X.w) (kvs := zipK zs its2) (pairs_zip (P := X.prog) (w := X.w) (N + 4) (N + 2) (N + 3) N (N + 1) q1 q2 S its.toArray its2.toArray (Nat.ne_of_lt hlt1) (Nat.ne_of_lt (Nat.lt_succ_of_lt hlt2))) (I.ok.hd hc) ok ⟨?_, ?_⟩ ?_ fun h'' tk hd' hk' => ?_
  · rw [zipK_len zs its2 lz]
    simp only [List.size_toArray]
    omega
  · intro i key v hr
    have hr1 : its[i]? = some key := by simpa using hr.1
    have hr2 : its2[i]? = some v := by simpa using hr.2
    have hil : i < its.length := (List.getElem?_eq_some_iff.mp hr1).1
    have hzi : zs[i]? = some zs[i] := List.getElem?_eq_getElem (by omega)
    obtain ⟨u, hu, ru⟩ := rv.get (show (zs.map V.str)[i]? = some (V.str zs[i]) by rw [List.getElem?_map, hzi]; rfl)
    rw [hr1] at hu
    cases hu
    exact ⟨_, zipK_get hzi hr2, kV_is (k := .inr zs[i]) ru⟩
  · simp only [List.size_toArray]
    exact Nat.le_trans (Nat.min_le_left _ _) (Nat.le_trans (show its.length ≤ 1000 by omega) (by decide))
  · have hnd : ((([] : List (Key × Value)) ++ zipK zs its2).map (·.1)).Nodup := by
      rw [List.nil_append, zipK_keys zs its2 lz]
      exact List.Pairwise.map _ (fun a b hne e => hne (Sum.inr.inj e)) nd
    rw [merged_new (zipK zs its2) [] hnd, List.nil_append] at hd'
    have hsz' : h'.objs.size = N + 5 := hsz
    show EP X pins σ Q (.ref h'.objs.size) _
    have hd2 : h''.DictOf (mixKind X.prog X.w) h'.objs.size (zipK zs its2) := hd'
    rw [hsz'] at hd2 ⊢
    have hle : s1.heap.objs.size ≤ N + 5 := by rw [hN]; exact Nat.le_add_right _ _
    have hf : H1 (N + 5) = none := I1.hok.fresh hle
    have kept : ∀ b u, s1.heap.get? b = some u → h''.get? b = some u := fun b u e => by
      have hb := Heap.lt_size e
      rw [hN] at hb
      exact hk' b u (new4 hb) (hk b u e)
    refine ⟨.ref (N + 5), upd H1 (N + 5) (.dK (zipK zs ys)), I1.laid (t' := tk) kept hle ⟨?_, ?_, _, zipK_rel zs rv2, hd2⟩, rfl, ?_⟩
    · rw [zipK_len zs ys (by rw [n2.length]; exact hlen)]
      exact Nat.le_trans hbig (by decide)
    · have hb := Nat.lt_of_lt_of_le I1.big hle
      rw [beq_eq_false_iff_ne]
      exact Nat.ne_of_gt hb
    · exact k _ F _ (Gr.new sf hf) ⟨N + 5, rfl, hf, sf.free hf, .inr ⟨_, _, rfl, upd_same, zipK_dn zs n2⟩⟩
end
end Sh
set_option Elab.async false
set_option linter.all false
set_option maxRecDepth 100000
set_option autoImplicit false
/-! own layer 19: the new rules by name; reckoning with them -/
namespace Sh
open PySem PySem.Spec PyProof.Rows L2

theorem bt_min : bootBuiltins "min" = some (.builtin "min") := by decide +kernel
theorem bt_max : bootBuiltins "max" = some (.builtin "max") := by decide +kernel
theorem bt_sum : bootBuiltins "sum" = some (.builtin "sum") := by decide +kernel
section
variable {X : Cx} {G : Gx} {p p2 pos : Pos} {e e2 : Expr} {o : Opd} {ops : List Opd} {es : List Expr}
theorem b_min2 (hc : X.calm = true) (hm : X.mg "min" = none) (ha : PA X [e, e2] (rdOs G ops)) (hg : Gl X "min" := by rfl) (he : starEach [e, e2] X.env = (false, eval e X.env) :: starEach [e2] X.env := by rfl) (hpl : (backTo pos (starEach [e2] X.env)).any (·.1) = false := by rfl) : PE X (.Call (.Name "min" p) [e, e2] [] pos) (rdE G (mPure opMin2 ops)) :=
  s_callB (z_min2 hc) hg hm bt_min ha (by decide) (by decide) he hpl
theorem b_max2 (hc : X.calm = true) (hm : X.mg "max" = none) (ha : PA X [e, e2] (rdOs G ops)) (hg : Gl X "max" := by rfl) (he : starEach [e, e2] X.env = (false, eval e X.env) :: starEach [e2] X.env := by rfl) (hpl : (backTo pos (starEach [e2] X.env)).any (·.1) = false := by rfl) : PE X (.Call (.Name "max" p) [e, e2] [] pos) (rdE G (mPure opMax2 ops)) :=
  s_callB (z_max2 hc) hg hm bt_max ha (by decide) (by decide) he hpl
theorem b_sum (hc : X.calm = true) (hm : X.mg "sum" = none) (ha : PA X [e] (rdOs G ops)) (hg : Gl X "sum" := by rfl) (he : starEach [e] X.env = (false, eval e X.env) :: starEach [] X.env := by rfl) : PE X (.Call (.Name "sum" p) [e] [] pos) (rdE G (mPure opSum ops)) :=
  s_callB (z_sum hc) hg hm bt_sum ha (by decide) (by decide) he rfl
end
/-! ### name = {..: .. for ..} -/
section
variable {X : Cx} {G : Gx} {tg iter kx vx : Expr} {ifs : List Expr} {pos spos py : Pos}
theorem sw_dict {gs : List Comprehension} {scope : Scope} {y : Str} {l : Nat} {env : Env} (hk : env.scope.kind = .function) (hy : env.scope.names.lookup y = some .local) (hl : (py.line == pos.line) = true)
    (ha : (scope.names.any fun (n, k) => n == y && (k == .local || k == .cell)) = false) : swapsWith (.DictComp kx vx gs scope pos) (some (.Name y py)) l env = pure true := by
  have e1 : env.kindOf y = some .local := hy
  have e2 : env.blockKind = .function := by unfold Env.blockKind; rw [hk]; rfl
  unfold swapsWith
  simp only [e2, e1, ha, Expr.pos, hl]
  rfl
theorem ps_setDc {i : Nat} {y : Str} {scope : Scope} {own : List (Str × Nat)} {wi : TI} {g : TG} {tt : TT} {tk tv : TE} (hc : X.calm = true) (hN : X.N.Nodup) (hy : X.N[i]? = some y) (hyl : X.env.scope.names.lookup y = some .local)
    (hsw : swapsWith (.DictComp kx vx [⟨tg, iter, ifs, 0⟩] scope pos) (some (.Name y py)) spos.line X.env = pure true) (hi : PI X tg iter wi) (ok : BlkOk X.N X.env.scope scope own)
    (hg : ∀ (s : Shared) (H : Hp) (C : Addr) (cl : List (Str × Addr)) (fp : List Addr), PG (X.blk s H scope (compEnvC scope cl C X.env) fp) tg g) (ht : ∀ (s : Shared) (H : Hp) (C : Addr) (cl : List (Str × Addr)) (fp : List Addr), PTs (X.blk s H scope (compEnvC scope cl C X.env) fp) ifs tt)
    (hk : ∀ (s : Shared) (H : Hp) (C : Addr) (cl : List (Str × Addr)) (fp : List Addr), PE (X.blk s H scope (compEnvC scope cl C X.env) fp) kx tk)
    (he : ∀ (s : Shared) (H : Hp) (C : Addr) (cl : List (Str × Addr)) (fp : List Addr), PE (X.blk s H scope (compEnvC scope cl C X.env) fp) vx tv) (hs : ∀ x, foldedSetIterable iter X.env x = pure x := by intro _; rfl) :
    PS X (.Assign [.Name y py] (.DictComp kx vx [⟨tg, iter, ifs, 0⟩] scope pos) spos) (tAsg (tDc wi g tt tk tv (own.map (·.2))) (gName i)) := by
  refine ⟨fun pins s σ H D I h => ?_⟩
  rw [exec_Assign_Name_used _ _ _ _ hsw]
  refine wpAny_bind (wpAny_standAt (wpAny_bind ?_))
  show wpAny _ X.A (do let _ ← comprehension (.DictComp kx vx [⟨tg, iter, ifs, 0⟩] scope pos) scope X.env (firstIterPos [⟨tg, iter, ifs, 0⟩] pos) newDict false (eval iter X.env) (some (assign (.Name y py) X.env))) _ _ s
  have h1 : tDc wi g tt tk tv (own.map (·.2)) σ H (fun x H1 => gName i x σ H1 D.nx) := h
  refine wpAny_bind (thn (dc_core (Qf := fun _ s' => SP X pins D .next s') hc hN I hi ok hg ht hk he hs h1 fun L C s1 m H1 I1 q hn f => ?_) fun _ s' hq => wpAny_pure (wpAny_pure hq))
  show wpAny _ _ (assign (.Name y py) X.env (.ref L)) _ _ _
  refine wpAny_assign_Name (store_ok2 (v := V.ref L) I1 hN hy (.inl hyl) rfl (fun s2 I2 ⟨a, sb, ha⟩ => ?_) (.inr hyl))
  obtain ⟨f0, f1, f2, f3, f4, f5⟩ := f
  have hne : C ≠ a := by
    rcases ha with e | e
    · rw [e]; exact f1
    · exact fun e' => f4 y a e e'.symm
  exact ⟨m, hn.sameBut sb hne, fun h3 sb3 => ⟨_, H1, I2.turned (t' := s2.toks) (fun b o hb e => (sb3.2 b hb).trans e) f0 f1 f3 f4 f5, q⟩⟩
theorem ss_setDc {i : Nat} {y : Str} {it : ItM} {t : Tg} {tt : MT} {mk m : ME} {scope : Scope} {own : List (Str × Nat)} (hc : X.calm = true) (hN : X.N.Nodup) (hy : X.N[i]? = some y) (hyl : X.env.scope.names.lookup y = some .local)
    (hsw : swapsWith (.DictComp kx vx [⟨tg, iter, ifs, 0⟩] scope pos) (some (.Name y py)) spos.line X.env = pure true) (hi : PI X tg iter (rdI G it)) (ok : BlkOk X.N X.env.scope scope own)
    (hg : ∀ (s : Shared) (H : Hp) (C : Addr) (cl : List (Str × Addr)) (fp : List Addr), PG (X.blk s H scope (compEnvC scope cl C X.env) fp) tg (rdG G.blk t)) (ht : ∀ (s : Shared) (H : Hp) (C : Addr) (cl : List (Str × Addr)) (fp : List Addr), PTs (X.blk s H scope (compEnvC scope cl C X.env) fp) ifs (rdT G.blk tt))
    (hk : ∀ (s : Shared) (H : Hp) (C : Addr) (cl : List (Str × Addr)) (fp : List Addr), PE (X.blk s H scope (compEnvC scope cl C X.env) fp) kx (rdE G.blk mk))
    (he : ∀ (s : Shared) (H : Hp) (C : Addr) (cl : List (Str × Addr)) (fp : List Addr), PE (X.blk s H scope (compEnvC scope cl C X.env) fp) vx (rdE G.blk m)) (hts : t.slots.all (fun i => (own.map (·.2)).contains i) = true := by rfl) (h0 : (G.p0 && i == 0) = false := by rfl) (hs : ∀ x, foldedSetIterable iter X.env x = pure x := by intro _; rfl) :
    PS X (.Assign [.Name y py] (.DictComp kx vx [⟨tg, iter, ifs, 0⟩] scope pos) spos) (rdS G (mSet i (mDc it t tt mk m (own.map (·.2))))) :=
  (ps_setDc hc hN hy hyl hsw hi ok hg ht hk he hs).byR fun σ H D h => rd_dc hts (rd_set h0 h)
end
/-! reckoning -/
@[simp] theorem op_max_ii (i j : Int) : opMax2 [.int i, .int j] = some (.fz (.int (if i < j then j else i))) := rfl
@[simp] theorem op_min_ii (i j : Int) : opMin2 [.int i, .int j] = some (.fz (.int (if j < i then j else i))) := rfl
@[simp] theorem op_max_ss (x y : Str) : opMax2 [.str x, .str y] = some (.fz (.str (if ltSS x y = true then y else x))) := rfl
@[simp] theorem op_min_ss (x y : Str) : opMin2 [.str x, .str y] = some (.fz (.str (if ltSS y x = true then y else x))) := rfl
@[simp] theorem ev_putD (i : Nat) (mk m : ME) (en : En) : mPutD i mk m en = (m en).bind fun p => match p.1.dat with
  | none => .bad
  | some y => match sget p.2 i with
    | .ow (.dict _) => (mk p.2).bind fun q => match q.1 with
      | .fz (.str z) => match sget q.2 i with
        | .ow (.dict kvs) => if kvs.length < 1000000 then .ok (.nx, q.2.set i (.ow (.dict (putD kvs z y)))) else .bad
        | _ => .bad
      | _ => .bad
    | _ => .bad := rfl
@[simp] theorem op_ixD (kvs : List (Da × Da)) (z : Str) : opIxD [.dict kvs, .str z] = (lookD kvs z).map .fz := rfl
@[simp] theorem ev_index (mo m : ME) (en : En) : mIndex mo m en = (mo en).bind fun p => match listD p.1 with
  | none => .bad
  | some ds => (m p.2).bind fun q => match keyS q.1 with
    | none => .bad
    | some z => match ixS ds z with
      | none => .bad
      | some j => .ok (.fz (.int (j : Int)), q.2) := rfl
@[simp] theorem listD_fz (ds : List Da) : listD (.fz (.list ds)) = some ds := rfl
@[simp] theorem listD_ow (ds : List Da) : listD (.ow (.list ds)) = some ds := rfl
@[simp] theorem keyS_str (z : Str) : keyS (.fz (.str z)) = some z := rfl
end Sh
set_option Elab.async false
set_option linter.all false
set_option maxRecDepth 100000
set_option autoImplicit false
/-! own layer 20: list(pairs that are new tuples) -/
namespace Sh
open PySem PySem.Spec PyProof.Rows L2 PySem.Calls

/-- an iterator whose items are new pairs, while at S a list is being filled -/
structure PSrc (P : Program) (w : World) (A : Around) (I S : Addr) (wr : List Addr) (n : Nat) (Rel : Nat → Value → Value → Prop) (St : Nat → Heap → Prop) : Prop where
  off : S ∉ wr
  frame : ∀ i h h', St i h → (∀ b o, b ≠ S → h.get? b = some o → h'.get? b = some o) → St i h'
  item : ∀ i (s : Shared) (Q : Option Value → Shared → Prop) (E : Value → Shared → Prop), i < n → St i s.heap → S < s.heap.objs.size →
    (∀ k v h' tk, Rel i k v → h'.get? s.heap.objs.size = some { cls := .type "tuple", data := .seq #[k, v] } → St (i + 1) h' → (∀ b o, b ∉ wr → s.heap.get? b = some o → h'.get? b = some o) → Q (some (.ref s.heap.objs.size)) { s with heap := h', toks := tk }) → wpAny (model P w) A (pyNext (.ref I)) Q E s
  done : ∀ (s : Shared) (Q : Option Value → Shared → Prop) (E : Value → Shared → Prop), St n s.heap →
    (∀ h' tk, (∀ b o, b ∉ wr → s.heap.get? b = some o → h'.get? b = some o) → Q none { s with heap := h', toks := tk }) → wpAny (model P w) A (pyNext (.ref I)) Q E s
structure PlG (Rel : Nat → Value → Value → Prop) (lo : Addr) (h : Heap) (as : List Addr) : Prop where
  rise : as.Pairwise (· < ·)
  above : ∀ a ∈ as, lo < a
  pairs : ∀ (j : Nat) (a : Addr), as[j]? = some a → ∃ k v, Rel j k v ∧ h.get? a = some { cls := .type "tuple", data := .seq #[k, v] }
theorem PlG.there {Rel : Nat → Value → Value → Prop} {lo : Addr} {h : Heap} {as : List Addr} (g : PlG Rel lo h as) {a : Addr} (ha : a ∈ as) : a < h.objs.size := by
  obtain ⟨j, hj⟩ := List.mem_iff_getElem?.mp ha
  obtain ⟨_, _, _, e⟩ := g.pairs j a hj
  exact Heap.lt_size e
section
variable {P : Program} {w : World} {A : Around} {s : Shared} {R : Result → Shared → Prop} {I S : Addr} {wr : List Addr} {n : Nat} {Rel : Nat → Value → Value → Prop} {St : Nat → Heap → Prop}
theorem pl_loop (W : PSrc P w A.in1 I S wr n Rel St) (hwr : ∀ b ∈ wr, b < S) (hn : n ≤ sizeLine) (res : Value) {h₁ : Heap}
    (hR : ∀ h' tk acc c as, (∀ b o, b ≠ S → b ∉ wr → h₁.get? b = some o → h'.get? b = some o) → h'.get? S = some { cls := .type "list", dict := none, data := .seq acc c, slots := #[] } → as.length = n → PlG Rel S h' as →
      acc.toList = as.map Value.ref → R (.ok (.ret res)) { s with heap := h', toks := tk }) :
    ∀ (k i : Nat) (h : Heap) (tk c : Nat) (acc : Array Value) (as : List Addr), n - i = k → i ≤ n → St i h → (∀ b o, b ≠ S → b ∉ wr → h₁.get? b = some o → h.get? b = some o) →
      h.get? S = some { cls := .type "list", dict := none, data := .seq acc c, slots := #[] } → acc.toList = as.map Value.ref → as.length = i → PlG Rel S h as →
      codeAny (model P w) A (.builtin "list.extend.loop" ⟨[.ref S, .ref I, res], []⟩) R { s with heap := h, toks := tk } := by
  have nwr : ∀ a, S < a → a ∉ wr := fun a ha hm => absurd (Nat.lt_trans ha (hwr a hm)) (Nat.lt_irrefl _)
  intro k
  induction k with
  | zero =>
    intro i h tk c acc as hk hi hst hkeep hS hacc hal hG
    have hin : i = n := by omega
    subst hin
    refine codeAny_builtin PySem.F.entry_extend_loop ?_
    rw [Around.under_plainId PySem.F.plain_extend_loop _]
    show wpAny _ A.in1 (pyNext (.ref I) >>= _) _ _ _
    refine wpAny_bind (W.done { s with heap := h, toks := tk } _ _ hst fun h' tk' he => ?_)
    refine wpAny_pure (hR h' tk' acc c as (fun b o h1 h2 e => he b o h2 (hkeep b o h1 h2 e)) (he S _ W.off hS) (by omega) ⟨hG.rise, hG.above, fun j a hj => ?_⟩ hacc)
    obtain ⟨key, x, e1, e3⟩ := hG.pairs j a hj
    exact ⟨key, x, e1, he a _ (nwr a (hG.above a (List.mem_of_getElem? hj))) e3⟩
  | succ k ih =>
    intro i h tk c acc as hk hi hst hkeep hS hacc hal hG
    have hlt : i < n := by omega
    have hsz : acc.size = i := by rw [← Array.length_toList, hacc, List.length_map, hal]
    have hSl : S < h.objs.size := Heap.lt_size hS
    refine codeAny_builtin PySem.F.entry_extend_loop ?_
    rw [Around.under_plainId PySem.F.plain_extend_loop _]
    show wpAny _ A.in1 (pyNext (.ref I) >>= _) _ _ _
    refine wpAny_bind (W.item i { s with heap := h, toks := tk } _ _ hlt hst hSl fun key x h' tk' hrel ht hst' hkp => ?_)
    dsimp only at ht hkp ⊢
    have hS' := hkp S _ W.off hS
    have up : ∀ b o, b ≠ S → h'.get? b = some o → (h'.update S (Obj.mapSeq (·.push (Value.ref h.objs.size)))).get? b = some o := fun b o hb e => (Heap.get?_update_other _ _ (Ne.symm hb)).trans e
    show wpAny _ A.in1 (updateSeq S (·.push (Value.ref h.objs.size)) >>= _) _ _ _
    refine wpAny_bind ?_
    refine wpAny_updateSeq hS' rfl (wpAny_pure ⟨plainId_quiet PySem.F.plain_extend_loop _, ih (i + 1) _ tk' _ (acc.push (Value.ref h.objs.size)) (as ++ [h.objs.size]) (by omega) hlt (W.frame _ _ _ hst' up)
      (fun b o h1 h2 e => up b o h1 (hkp b o h2 (hkeep b o h1 h2 e))) (Heap.get?_update_self _ hS' rfl) (by rw [Array.toList_push, hacc, List.map_append]; rfl) (by rw [List.length_append, hal]; rfl) ⟨?_, ?_, ?_⟩⟩) (by rw [hsz]; omega) (by show (acc.push (Value.ref h.objs.size)).size ≤ sizeLine + 1; rw [Array.size_push, hsz]; omega)
    · refine List.pairwise_append.mpr ⟨hG.rise, List.pairwise_singleton _ _, fun a ha b hb => ?_⟩
      rw [List.mem_singleton.mp hb]
      exact hG.there ha
    · intro a ha
      rcases List.mem_append.mp ha with ha | ha
      · exact hG.above a ha
      · rw [List.mem_singleton.mp ha]; exact hSl
    · intro j b hj
      rcases Nat.lt_trichotomy j as.length with h1 | h1 | h1
      · rw [List.getElem?_append_left h1] at hj
        obtain ⟨key', x', e1, e3⟩ := hG.pairs j b hj
        have hb := hG.above b (List.mem_of_getElem? hj)
        exact ⟨key', x', e1, up b _ (Nat.ne_of_gt hb) (hkp b _ (nwr b hb) e3)⟩
      · subst h1
        have hb : h.objs.size = b := by simpa using hj
        subst hb
        exact ⟨key, x, by rw [hal]; exact hrel, up _ _ (Nat.ne_of_gt hSl) ht⟩
      · have hnone : (as ++ [h.objs.size])[j]? = none := List.getElem?_eq_none (by rw [List.length_append, List.length_singleton]; omega)
        rw [hnone] at hj; cases hj
end
/-! ### zip of two lists as such a source -/
abbrev ZLOk (z TI TO i1 i2 l1 l2 : Addr) (xs ys : Array Value) (h : Heap) : Prop := IsZip h z TI TO .none ∧ IsTupOf2 h TI (.ref i1) (.ref i2) ∧ (∃ a b, IsTupOf2 h TO a b) ∧ (h.IsListIter i1 l1 0 ∧ h.IsList l1 xs) ∧ (h.IsListIter i2 l2 0 ∧ h.IsList l2 ys)
abbrev ZLSt (z TI TO i1 i2 l1 l2 S : Addr) (xs ys : Array Value) (i : Nat) (h : Heap) : Prop := IsTupOf2 h TI (.ref i1) (.ref i2) ∧ (h.IsListIter i1 l1 i ∧ h.IsList l1 xs) ∧ (h.IsListIter i2 l2 i ∧ h.IsList l2 ys) ∧
      ((IsZip h z TI TO .none ∧ ∃ a b, IsTupOf2 h TO a b) ∨ ∃ T f oT, IsZipHeld h z TI TO T f ∧ h.get? T = some oT ∧ T ≠ z ∧ T ≠ i1 ∧ T ≠ i2 ∧ T ≠ S)
section
variable {P : Program} {w : World} {A : Around}
theorem zl_src (hA : A.handled = none) {z TI TO i1 i2 l1 l2 S : Addr} (Z : ZipSep2 z TI TO i1 i2 [i1, l1] [i2, l2]) (xs ys : Array Value) (hl1 : l1 ≠ i1) (hl2 : l2 ≠ i2)
    (dz : S ≠ z) (dTI : S ≠ TI) (dTO : S ≠ TO) (di1 : S ≠ i1) (di2 : S ≠ i2) (dl1 : S ≠ l1) (dl2 : S ≠ l2) :
    PSrc P w A z S [z, TO, i1, i2] (min xs.size ys.size) (fun i k v => xs[i]? = some k ∧ ys[i]? = some v) (ZLSt z TI TO i1 i2 l1 l2 S xs ys) := by
  have D1 := Draws.list (prog := P) (w := w) (A := A.in1) hA i1 l1 hl1 xs
  have D2 := Draws.list (prog := P) (w := w) (A := A.in1) hA i2 l2 hl2 ys
  refine { off := ?_, frame := ?_, item := ?_, done := ?_ }
  · intro hm
    simp only [List.mem_cons, List.not_mem_nil, or_false] at hm
    rcases hm with e | e | e | e
    · exact dz e
    · exact dTO e
    · exact di1 e
    · exact di2 e
  · intro i h1 h2 st hk
    obtain ⟨hI, t1, t2, hz⟩ := st
    refine ⟨hk _ _ (Ne.symm dTI) hI, ⟨t1.1.at fun o e => hk _ o (Ne.symm di1) e, t1.2.at fun o e => hk _ o (Ne.symm dl1) e⟩, ⟨t2.1.at fun o e => hk _ o (Ne.symm di2) e, t2.2.at fun o e => hk _ o (Ne.symm dl2) e⟩, ?_⟩
    rcases hz with ⟨hz, a, b, hO⟩ | ⟨T, f, oT, hz, hT, r1, r2, r3, r4⟩
    · exact .inl ⟨hk _ _ (Ne.symm dz) hz, a, b, hk _ _ (Ne.symm dTO) hO⟩
    · exact .inr ⟨T, f, oT, hk _ _ (Ne.symm dz) hz, hk _ _ r4 hT, r1, r2, r3, r4⟩
  · intro i s1 Q1 E1 hi st hds hQ
    obtain ⟨hI, t1, t2, hz⟩ := st
    have g1 : i < xs.size := by omega
    have g2 : i < ys.size := by omega
    have lt : ∀ {c o}, s1.heap.get? c = some o → s1.heap.objs.size ≠ c := fun e => Nat.ne_of_gt (Heap.lt_size e)
    have m1 : s1.heap.objs.size ≠ i1 := let ⟨_, e, _⟩ := t1.1; lt e
    have m2 : s1.heap.objs.size ≠ i2 := let ⟨_, e, _⟩ := t2.1; lt e
    rcases hz with ⟨hz, a, b, hO⟩ | ⟨T, f, oT, hz, hT, r1, r2, r3, r4⟩
    · refine wpAny_pyNext_zipD2_item Z D1 D2 hz hI hO t1 t2 g1 g2 fun x y h' tk hx hy k1 k2 k3 k4 k5 k6 hk => ?_
      exact hQ x y h' tk ⟨hx, hy⟩ k5 ⟨hk _ _ Z.TIz Z.TITO Z.TIi1 Z.TIi2 hI, k3, k4, .inr ⟨s1.heap.objs.size, false, _, k1, k5, lt hz, m1, m2, Nat.ne_of_gt hds⟩⟩
        fun c o hc e => hk c o (fun q => hc (by simp [q])) (fun q => hc (by simp [q])) (fun q => hc (by simp [q])) (fun q => hc (by simp [q])) e
    · refine zh_nextI Z D1 D2 hz hT hI t1 t2 g1 g2 fun x y h' tk hx hy k1 k3 k4 k5 hk => ?_
      exact hQ x y h' tk ⟨hx, hy⟩ k5 ⟨hk _ _ Z.TIz Z.TIi1 Z.TIi2 hI, k3, k4, .inr ⟨T, true, oT, k1, hk _ _ r1 r2 r3 hT, r1, r2, r3, r4⟩⟩
        fun c o hc e => hk c o (fun q => hc (by simp [q])) (fun q => hc (by simp [q])) (fun q => hc (by simp [q])) e
  · intro s1 Q1 E1 st hQ
    obtain ⟨hI, t1, t2, hz⟩ := st
    have hend : min xs.size ys.size = xs.size ∨ min xs.size ys.size = ys.size := by omega
    rcases hz with ⟨hz, a, b, hO⟩ | ⟨T, f, oT, hz, hT, r1, r2, r3, r4⟩
    · exact wpAny_pyNext_zipD2_end Z D1 D2 hz hI hO t1 t2 (by omega) (by omega) hend fun h' tk hk => hQ h' tk fun c o hc e => hk c o (fun q => hc (by simp [q])) (fun q => hc (by simp [q])) (fun q => hc (by simp [q])) (fun q => hc (by simp [q])) e
    · exact zh_nextE Z D1 D2 hz hT hI t1 t2 (by omega) (by omega) hend fun h' tk hk => hQ h' tk fun c o hc e => hk c o (fun q => hc (by simp [q])) (fun q => hc (by simp [q])) (fun q => hc (by simp [q])) e
theorem zip_no_len : typeLookup (.type "zip") "__len__" = pure none := am_miss_of_fast (by decide +kernel)
theorem zip_no_hint : typeLookup (.type "zip") "__length_hint__" = pure none := am_miss_of_fast (by decide +kernel)
theorem zl_hint {E : Value → Shared → Prop} {s : Shared} {r : Addr} {Q : Bool → Shared → Prop} (hT : s.TypeIs (.ref r) "zip") (h : Q true s) : wpAny (model P w) A (Builtin.List.listLengthHint (.ref r)) Q E s := by
  unfold Builtin.List.listLengthHint
  refine wpAny_bind (wpAny_specialOf hT zip_no_len ?_)
  refine wpAny_ite_split (fun hab => absurd hab (by decide)) (fun _ => ?_)
  refine wpAny_ite_split (fun hab => absurd hab (by decide)) (fun _ => ?_)
  refine wpAny_bind (wpAny_specialOf hT zip_no_hint ?_)
  exact wpAny_pure h
theorem zl_extend {s : Shared} {R : Result → Shared → Prop} {z TI TO i1 i2 l1 l2 S : Addr} (hA : A.handled = none) (Z : ZipSep2 z TI TO i1 i2 [i1, l1] [i2, l2]) (xs ys : Array Value) (hl1 : l1 ≠ i1) (hl2 : l2 ≠ i2)
    (bz : z < S) (bTI : TI < S) (bTO : TO < S) (b1 : i1 < S) (b2 : i2 < S) (c1 : l1 < S) (c2 : l2 < S) (ok : ZLOk z TI TO i1 i2 l1 l2 xs ys s.heap) (res : Value) (c₀ : Nat) (hS : s.heap.get? S = some { cls := .type "list", data := .seq #[] c₀ })
    (hR : ∀ h' tk acc c as, (∀ b o, b ≠ S → b ∉ [z, TO, i1, i2] → s.heap.get? b = some o → h'.get? b = some o) → h'.get? S = some { cls := .type "list", dict := none, data := .seq acc c, slots := #[] } → as.length = min xs.size ys.size →
      PlG (fun i k v => xs[i]? = some k ∧ ys[i]? = some v) S h' as → acc.toList = as.map Value.ref → R (.ok (.ret res)) { s with heap := h', toks := tk }) (hn : min xs.size ys.size ≤ sizeLine) :
    wpAny (model P w) A.in1 (Builtin.List.listExtendWith (.ref S) (.ref z) res)
      (fun fin s' => match fin with | .done f => R (.ok f) s' | .again c' => c'.quiet = true ∧ codeAny (model P w) A c' R s') (fun e s' => R (.error e) s') s := by
  obtain ⟨hz, hI, ⟨a, b, hO⟩, t1, t2⟩ := ok
  have hT : s.TypeIs (.ref z) "zip" := ⟨_, hz, rfl⟩
  have W := zl_src (P := P) (w := w) (A := A.in1) hA Z xs ys hl1 hl2 (Nat.ne_of_gt bz) (Nat.ne_of_gt bTI) (Nat.ne_of_gt bTO) (Nat.ne_of_gt b1) (Nat.ne_of_gt b2) (Nat.ne_of_gt c1) (Nat.ne_of_gt c2)
  have hwr : ∀ b ∈ [z, TO, i1, i2], b < S := fun b hb => by
    simp only [List.mem_cons, List.not_mem_nil, or_false] at hb
    rcases hb with rfl | rfl | rfl | rfl <;> assumption
  have key : ∀ (h : Heap) (c₁ tk : Nat), (∀ b o, b ≠ S → s.heap.get? b = some o → h.get? b = some o) →
      h.get? S = some { cls := .type "list", data := .seq #[] c₁ } → codeAny (model P w) A (.builtin "list.extend.loop" ⟨[.ref S, .ref z, res], []⟩) R { s with heap := h, toks := tk } := by
    intro h c₁ tk hk hS₁
    refine pl_loop (h₁ := s.heap) W hwr hn res hR (min xs.size ys.size) 0 h tk c₁ #[] [] (Nat.sub_zero _) (Nat.zero_le _) ⟨hk _ _ (Nat.ne_of_lt bTI) hI, ⟨t1.1.at fun o e => hk _ o (Nat.ne_of_lt b1) e, t1.2.at fun o e => hk _ o (Nat.ne_of_lt c1) e⟩, ⟨t2.1.at fun o e => hk _ o (Nat.ne_of_lt b2) e, t2.2.at fun o e => hk _ o (Nat.ne_of_lt c2) e⟩, .inl ⟨hk _ _ (Nat.ne_of_lt bz) hz, a, b, hk _ _ (Nat.ne_of_lt bTO) hO⟩⟩
      (fun b o hb _ e => hk b o hb e) hS₁ rfl rfl ⟨List.Pairwise.nil, (fun _ ha => nomatch ha), (fun j a hj => by simp at hj)⟩
  unfold Builtin.List.listExtendWith
  refine wpAny_bind (wpAny_typeOf (T := "zip") hT ?_)
  have h1 : Builtin.List.listSameRef (.ref S) (.ref z) = false := by simp [Builtin.List.listSameRef, Nat.ne_of_gt bz]
  have h2 : (Value.type "zip" == Value.type "list") = false := by decide
  have h3 : (Value.type "zip" == Value.type "tuple") = false := by decide
  simp only [h1, h2, h3, Bool.or_false, Bool.false_eq_true, if_false]
  refine wpAny_bind (wpAny_pyIter_zip hz ?_)
  refine wpAny_bind (wpAny_holding (zl_hint hT ?_))
  refine wpAny_ite_split (fun _ => ?_) (fun _ => wpAny_pure ⟨plainId_quiet PySem.F.plain_extend_loop _, key _ c₀ _ (fun b o _ e => e) hS⟩)
  refine wpAny_bind (wpAny_rule ?_)
  refine wpAny_bind ?_
  show wpAny _ _ (updateSeq S (·.push .none) >>= fun _ => updateSeq S (·.pop)) _ _ _
  refine wpAny_bind (wpAny_updateSeq hS rfl ?_)
  have hS₂ := Heap.get?_update_self (Obj.mapSeq (·.push Value.none)) hS rfl
  refine wpAny_updateSeq (hz := by seq_fits) hS₂ rfl ?_
  have hS₃ := Heap.get?_update_self (Obj.mapSeq (·.pop)) hS₂ rfl
  refine wpAny_pure ⟨plainId_quiet PySem.F.plain_extend_loop _, key _ _ _ (fun b o hb e => ?_) hS₃⟩
  exact (Heap.get?_update_other _ _ (Ne.symm hb)).trans ((Heap.get?_update_other _ _ (Ne.symm hb)).trans e)
end
end Sh
set_option Elab.async false
set_option linter.all false
set_option maxRecDepth 100000
set_option autoImplicit false
/-! own layer 21: list(zip(list, list)), the rule -/
namespace Sh
open PySem PySem.Spec PyProof.Rows L2 PySem.Calls

section
variable {P : Program} {w : World} {A : Around} {E : Value → Shared → Prop} {s : Shared}
theorem zl_init {R : Result → Shared → Prop} {z TI TO i1 i2 l1 l2 S : Addr} (hA : A.handled = none) (Z : ZipSep2 z TI TO i1 i2 [i1, l1] [i2, l2]) (xs ys : Array Value) (hl1 : l1 ≠ i1) (hl2 : l2 ≠ i2)
    (bz : z < S) (bTI : TI < S) (bTO : TO < S) (b1 : i1 < S) (b2 : i2 < S) (c1 : l1 < S) (c2 : l2 < S) (ok : ZLOk z TI TO i1 i2 l1 l2 xs ys s.heap) (hS : s.heap.get? S = some { cls := .type "list", data := .seq #[] })
    (hR : ∀ h' tk acc c as, (∀ b o, b ≠ S → b ∉ [z, TO, i1, i2] → s.heap.get? b = some o → h'.get? b = some o) → h'.get? S = some { cls := .type "list", dict := none, data := .seq acc c, slots := #[] } → as.length = min xs.size ys.size →
      PlG (fun i k v => xs[i]? = some k ∧ ys[i]? = some v) S h' as → acc.toList = as.map Value.ref → R (.ok (.ret .none)) { s with heap := h', toks := tk }) (hn : min xs.size ys.size ≤ sizeLine) :
    wpAny (model P w) A.in1 (Builtin.«list.__init__» ⟨[.ref S, .ref z], []⟩)
      (fun fin s' => match fin with | .done f => R (.ok f) s' | .again c' => c'.quiet = true ∧ codeAny (model P w) A c' R s') (fun e s' => R (.error e) s') s := by
  show wpAny _ _ (do let old ← Builtin.List.listItems (.ref S); Builtin.List.listUpdate (.ref S) (fun _ => #[]); letGo old.toList.reverse; Builtin.List.listExtendWith (.ref S) (.ref z) .none) _ _ s
  refine wpAny_bind ?_
  unfold Builtin.List.listItems
  refine wpAny_bind (wpAny_seqItems hS rfl (wpAny_pure ?_))
  show wpAny _ _ (updateSeq S (fun _ => #[]) >>= fun _ => letGo (#[] : Array Value).toList.reverse >>= fun _ => Builtin.List.listExtendWith (.ref S) (.ref z) .none) _ _ s
  refine wpAny_bind (wpAny_updateSeq hS rfl ?_)
  have hS₂ := Heap.get?_update_self (Obj.mapSeq (fun _ => (#[] : Array Value))) hS rfl
  have oth : ∀ b o, b ≠ S → s.heap.get? b = some o → (s.heap.update S (Obj.mapSeq (fun _ => (#[] : Array Value)))).get? b = some o :=
    fun b o hb e => (Heap.get?_update_other _ _ (Ne.symm hb)).trans e
  refine wpAny_bind (wpAny_letGo ?_)
  obtain ⟨hz, hI, ⟨a, b, hO⟩, t1, t2⟩ := ok
  refine zl_extend hA Z xs ys hl1 hl2 bz bTI bTO b1 b2 c1 c2 ⟨oth _ _ (Nat.ne_of_lt bz) hz, oth _ _ (Nat.ne_of_lt bTI) hI, ⟨a, b, oth _ _ (Nat.ne_of_lt bTO) hO⟩, ⟨t1.1.at fun o e => oth _ o (Nat.ne_of_lt b1) e, t1.2.at fun o e => oth _ o (Nat.ne_of_lt c1) e⟩, ⟨t2.1.at fun o e => oth _ o (Nat.ne_of_lt b2) e, t2.2.at fun o e => oth _ o (Nat.ne_of_lt c2) e⟩⟩ .none _ hS₂ (fun h' tk acc c as hk hS' hl hG hacc => ?_) hn
  exact hR h' tk acc c as (fun b o hb hw e => hk b o hb hw (oth b o hb e)) hS' hl hG hacc
theorem zl_call {Q : Value → Shared → Prop} {z TI TO i1 i2 l1 l2 : Addr} (hA : A.handled = none) (Z : ZipSep2 z TI TO i1 i2 [i1, l1] [i2, l2]) (xs ys : Array Value) (hl1 : l1 ≠ i1) (hl2 : l2 ≠ i2)
    (ok : ZLOk z TI TO i1 i2 l1 l2 xs ys s.heap) (hn : min xs.size ys.size ≤ sizeLine)
    (hQ : ∀ h' tk acc c as, (∀ b o, b ∉ [z, TO, i1, i2] → s.heap.get? b = some o → h'.get? b = some o) → h'.get? s.heap.objs.size = some { cls := .type "list", dict := none, data := .seq acc c, slots := #[] } → as.length = min xs.size ys.size →
      PlG (fun i k v => xs[i]? = some k ∧ ys[i]? = some v) s.heap.objs.size h' as → acc.toList = as.map Value.ref → Q (.ref s.heap.objs.size) { s with heap := h', toks := tk }) :
    wpAny (model P w) A (call (.type "list") [.ref z]) Q E s := by
  refine callType_codes (Q₁ := fun obj s₁ => obj = .ref s.heap.objs.size ∧ s₁ = { s with heap := s.heap.push { cls := .type "list", data := .seq #[] } }) PySem.F.called_list (PySem.F.typeCall_list_1 _) PySem.F.entry_list_init
    (code_list_new _ ⟨rfl, rfl⟩) fun obj s₁ h₁ => ?_
  obtain ⟨rfl, rfl⟩ := h₁
  have hS : (s.heap.push { cls := .type "list", data := .seq #[] }).get? s.heap.objs.size = some { cls := .type "list", data := .seq #[] } := Heap.get?_push_size _ rfl
  obtain ⟨hz, hI, ⟨a, b, hO⟩, t1, t2⟩ := ok
  have pu : ∀ b o, s.heap.get? b = some o → (s.heap.push { cls := .type "list", data := .seq #[] }).get? b = some o := fun b o e => Heap.get?_push_of_some _ e
  have lt1 : i1 < s.heap.objs.size := let ⟨_, e, _⟩ := t1.1; Heap.lt_size e
  have lt2 : i2 < s.heap.objs.size := let ⟨_, e, _⟩ := t2.1; Heap.lt_size e
  have lt3 : l1 < s.heap.objs.size := let ⟨_, e, _⟩ := t1.2; Heap.lt_size e
  have lt4 : l2 < s.heap.objs.size := let ⟨_, e, _⟩ := t2.2; Heap.lt_size e
  refine ⟨⟨_, hS, rfl⟩, PySem.F.args_list_init_2 _ _, zl_init (A := A.in1) hA Z xs ys hl1 hl2 (Heap.lt_size hz) (Heap.lt_size hI) (Heap.lt_size hO) lt1 lt2 lt3 lt4 ⟨pu _ _ hz, pu _ _ hI, ⟨a, b, pu _ _ hO⟩, ⟨t1.1.at fun o e => pu _ o e, t1.2.at fun o e => pu _ o e⟩, ⟨t2.1.at fun o e => pu _ o e, t2.2.at fun o e => pu _ o e⟩⟩ hS (fun h' tk acc c as hk hS' hl hG hacc => ?_) hn⟩
  exact ⟨rfl, hQ h' tk acc c as (fun b o hw e => hk b o (Nat.ne_of_lt (Heap.lt_size e)) hw (pu _ _ e)) hS' hl hG hacc⟩
end
/-! ### new pairs, tracked -/
def putP : Hp → List Addr → List (V × V) → Hp
  | H, a :: as, p :: ps => putP (upd H a (.tup [p.1, p.2])) as ps
  | H, _, _ => H
theorem putP_off {b : Addr} : ∀ (as : List Addr) (ps : List (V × V)) (H : Hp), b ∉ as → putP H as ps b = H b
  | [], _, _, _ => rfl
  | _ :: _, [], _, _ => rfl
  | a :: as, p :: ps, H, h => by
    show putP (upd H a (.tup [p.1, p.2])) as ps b = H b
    rw [putP_off as ps _ (fun z => h (List.mem_cons_of_mem _ z)), upd_ne (fun z => h (by rw [z]; exact List.mem_cons_self))]
theorem putP_at : ∀ (as : List Addr) (ps : List (V × V)) (H : Hp), as.length = ps.length → as.Nodup → Paired (fun (t : Addr) (p : V × V) => putP H as ps t = some (.tup [p.1, p.2])) as ps
  | [], [], _, _, _ => .nil
  | [], _ :: _, _, h, _ => by cases h
  | _ :: _, [], _, h, _ => by cases h
  | a :: as, p :: ps, H, h, hn => by
    have hn' := List.nodup_cons.mp hn
    have ih := putP_at as ps (upd H a (.tup [p.1, p.2])) (Nat.succ.inj h) hn'.2
    refine .cons ?_ ih
    show putP (upd H a (.tup [p.1, p.2])) as ps a = some (.tup [p.1, p.2])
    rw [putP_off as ps _ hn'.1, upd_same]
theorem putP_only : ∀ (as : List Addr) (ps : List (V × V)) (H : Hp) (b : Addr) (o : HO), putP H as ps b = some o → H b = some o ∨ b ∈ as
  | [], _, _, _, _, h => .inl h
  | _ :: _, [], _, _, _, h => .inl h
  | a :: as, p :: ps, H, b, o, h => by
    by_cases hb : b ∈ a :: as
    · exact .inr hb
    · rw [putP_off (a :: as) (p :: ps) H hb] at h
      exact .inl h
section
variable {X : Cx} {pins : List (Addr × Obj)} {σ : L2.St} {H F : Hp} {s : Shared} {h' : Heap} {tk : Nat} {ps : List (V × V)} {acc : Array Value} {c : Nat} {as : List Addr} {S : Addr}
/-- a new list of new pairs -/
theorem pairs_laid (I : Inv X pins σ H s) (hz : ps.length ≤ sizeLine) (hSz : s.heap.objs.size ≤ S)
    (hk : ∀ b o, s.heap.get? b = some o → h'.get? b = some o) (hS : h'.get? S = some { cls := .type "list", dict := none, data := .seq acc c, slots := #[] }) (hl : as.length = ps.length) (rise : as.Pairwise (· < ·)) (above : ∀ a ∈ as, S < a)
    (hp : ∀ (j : Nat) (a : Addr), as[j]? = some a → ∃ k v x y, ps[j]? = some (x, y) ∧ RelV x k ∧ RelV y v ∧ h'.get? a = some { cls := .type "tuple", data := .seq #[k, v] }) (hacc : acc.toList = as.map Value.ref) :
    (∀ b o, H b = some o → putP (upd H S (.lst (as.map V.ref))) as ps b = some o) ∧ H S = none ∧ (∀ t ∈ as, H t = none) ∧ S ∉ as ∧ as.Nodup ∧ putP (upd H S (.lst (as.map V.ref))) as ps S = some (.lst (as.map V.ref)) ∧ Inv X pins σ (putP (upd H S (.lst (as.map V.ref))) as ps) { s with heap := h', toks := tk } := by
  have hSn : S ∉ as := fun z => Nat.lt_irrefl _ (above _ z)
  have nd : as.Nodup := List.Pairwise.imp (fun {a b} (h : a < b) => Nat.ne_of_lt h) rise
  have new : ∀ t ∈ as, H t = none := fun t ht => I.hok.fresh (Nat.le_trans hSz (Nat.le_of_lt (above t ht)))
  have newS : H S = none := I.hok.fresh hSz
  have atP := putP_at as ps (upd H S (.lst (as.map V.ref))) hl nd
  have off : ∀ b, b ∉ as → b ≠ S → putP (upd H S (.lst (as.map V.ref))) as ps b = H b := fun b h1 h2 => by rw [putP_off as ps _ h1, upd_ne h2]
  have low : ∀ b o, s.heap.get? b = some o → b ∉ as ∧ b ≠ S := fun b o e => ⟨fun z => absurd (Heap.lt_size e) (Nat.not_lt.mpr (Nat.le_trans hSz (Nat.le_of_lt (above b z)))), Nat.ne_of_lt (Nat.lt_of_lt_of_le (Heap.lt_size e) hSz)⟩
  have kp : ∀ b u, H b = some u → (putP (upd H S (.lst (as.map V.ref))) as ps) b = some u := fun b u e => by
    rw [off b (fun z => by rw [new b z] at e; cases e) (fun z => by rw [z, newS] at e; cases e)]
    exact e
  have eS : putP (upd H S (.lst (as.map V.ref))) as ps S = some (.lst (as.map V.ref)) := by rw [putP_off as ps _ hSn, upd_same]
  refine ⟨kp, newS, new, hSn, nd, eS, ?_⟩
  refine I.call' (ch := []) rfl ⟨fun b o q _ _ _ => hk b o q, fun b o q _ _ _ => ⟨o.slots, hk b o q⟩, fun b o q n _ => ?_, fun b o q _ => ⟨o, hk b o q⟩, fun b xs q => kp b _ q, fun b o u q => kp b _ q, fun b ps q => ⟨#[], by rw [kp b _ q]; simp⟩⟩ (fun b u q => ?_) I.bare fun b z => by simp at z
  · obtain ⟨z1, z2⟩ := low b o q
    rw [off b z1 z2]
    exact n
  · by_cases hb : b ∈ as
    · obtain ⟨j, pk, e1, e2, e3⟩ := LiI.paired_ix atP hb
      rw [e3] at q
      cases q
      obtain ⟨k, v, x, y, f1, f2, f3, f4⟩ := hp j b e1
      rw [e2] at f1
      cases f1
      exact ⟨by show 2 ≤ sizeLine; decide, [k, v], .cons f2 (.cons f3 .nil), ⟨_, f4, rfl, _, rfl⟩⟩
    · by_cases hb2 : b = S
      · rw [hb2] at q ⊢
        rw [eS] at q
        cases q
        refine ⟨by rw [List.length_map]; omega, acc.toList, c, by rw [hacc]; exact LiI.vals_refs as, ?_⟩
        rw [Array.toArray_toList]
        exact hS
      · rw [off b hb hb2] at q
        exact (I.hok b u q).stay (fun d v _ y => hk d v y) (fun d y => kp d _ y) fun d xs y => kp d _ y
end
/-- the frozen side -/
theorem pairs_gr {w : World} {F H : Hp} {as : List Addr} {ps : List (V × V)} {S : Addr} (sf : Same F H) (kp : ∀ b o, H b = some o → putP (upd H S (.lst (as.map V.ref))) as ps b = some o) (newS : H S = none) (new : ∀ t ∈ as, H t = none) (hS : S ∉ as) (hl : as.length = ps.length) (nd : as.Nodup) :
    Gr F H (putP F as ps) (putP (upd H S (.lst (as.map V.ref))) as ps) := by
  have sF : Same F (putP F as ps) := fun b o e => by
    by_cases hb : b ∈ as
    · have := sf _ _ e
      rw [new b hb] at this
      cases this
    · rw [putP_off as ps F hb]
      exact e
  refine ⟨sF, kp, fun b o e => ?_, fun b o e => ?_⟩
  · by_cases hb : b ∈ as
    · obtain ⟨j, pk, e1, e2, e3⟩ := LiI.paired_ix (putP_at as ps F hl nd) hb
      obtain ⟨y, g1, g2⟩ := LiI.paired_get (putP_at as ps (upd H S (.lst (as.map V.ref))) hl nd) e1
      rw [e2] at g1
      cases g1
      rw [e3] at e
      cases e
      exact g2
    · rw [putP_off as ps F hb] at e
      exact kp _ _ (sf _ _ e)
  · by_cases hb : b ∈ as
    · exact .inr (new b hb)
    · rw [putP_off as ps F hb] at e
      exact .inl e
def opListZip : List Da → Option Sl
  | [.list a, .list b] => if a.length ≤ 1000 then some (.ow (.list (zipD a b))) else none
  | _ => none
theorem zip_dn {w : World} {F F' : Hp} (sf : Same F F') : ∀ {xs ys : List V} {ds es : List Da} {as : List Addr}, DnAll w F xs ds → DnAll w F ys es → Paired (fun (t : Addr) (p : V × V) => F' t = some (.tup [p.1, p.2])) as (xs.zip ys) → DnAll w F' (as.map V.ref) (zipD ds es)
  | _, _, _, _, as, .nil, _, h => by
    cases h
    exact .nil
  | _, _, _, _, as, .cons _ _, .nil, h => by
    cases h
    exact .nil
  | _, _, _, _, as, .cons a b, .cons c d, h => by
    cases h with
    | cons r t => exact .cons (.tup (.inl r) (.cons (a.mono sf) (.cons (c.mono sf) .nil))) (zip_dn sf b d t)
section
variable {X : Cx} {G : Gx} {a b : Expr} {ops : List Opd} {p p2 pos pos2 : Pos}
theorem s_listzip (hc : X.calm = true) (hg : Gl X "list") (hm : X.mg "list" = none) (hg2 : Gl X "zip") (hm2 : X.mg "zip" = none) (ha : PA X [a, b] (rdOs G ops))
    (hs : starEach [.Call (.Name "zip" p2) [a, b] [] pos2] X.env = (false, eval (.Call (.Name "zip" p2) [a, b] [] pos2) X.env) :: starEach [] X.env := by rfl)
    (hs2 : starEach [a, b] X.env = (false, eval a X.env) :: starEach [b] X.env := by rfl) (hpl2 : (backTo pos2 (starEach [b] X.env)).any (·.1) = false := by rfl) :
    PE X (.Call (.Name "list" p) [.Call (.Name "zip" p2) [a, b] [] pos2] [] pos) (rdE G (mPure opListZip ops)) := by
  refine ⟨fun pins s σ H Q I h => ?_⟩
  have h' := rz_of h
  refine Call_ (ld_blt I hg hm bt_list (PyProof.Rows.callWith_type1 ?_ hs rfl))
  rw [hs]
  show wpAny _ _ (spliced ((false, eval (.Call (.Name "zip" p2) [a, b] [] pos2) X.env) :: [])) _ _ s
  refine Calls.spliced_cons ?_
  refine Call_ (ld_blt I hg2 hm2 PyProof.Rows.boot_zip (PyProof.Rows.callWith_type1 (thn (ha.run pos2 pins s σ H _ I h') fun us s1 ⟨vs, H1, I1, r1, q1⟩ => ?_) hs2 hpl2))
  obtain ⟨F, ds, sl, sf, dn, ho, k⟩ := q1
  unfold opListZip at ho
  split at ho
  case h_2 => cases ho
  case h_1 ks ws =>
  split at ho
  case isFalse => cases ho
  case isTrue hbig =>
  cases ho
  obtain ⟨v1, v2, rfl, d1, d2⟩ := dn.two
  obtain ⟨q1, xs, rfl, h1, n1⟩ := d1.list sf
  obtain ⟨q2, ys, rfl, h2, n2⟩ := d2.list sf
  obtain ⟨u1, u2, rfl, ru1, ru2⟩ := vals2 r1
  cases ru1
  cases ru2
  obtain ⟨its, rv, pl, _⟩ := I1.list (.inl h1)
  obtain ⟨its2, rv2, pl2, _⟩ := I1.list (.inl h2)
  obtain ⟨o1, ho1, _⟩ := pl.isList
  obtain ⟨o2, ho2, _⟩ := pl2.isList
  have hlt1 := Heap.lt_size ho1
  have hlt2 := Heap.lt_size ho2
  generalize hN : s1.heap.objs.size = N at hlt1 hlt2
  refine zip_begins2 (begins_list q1 its.toArray) (begins_list q2 its2.toArray) pl.isList pl2.isList fun h' hz hTI hTO g1 g2 hsz hk => ?_
  refine Calls.spliced_nil ?_
  rw [hN] at hz hTI hTO g1 g2 hsz ⊢
  have S : ZipSep2 (N + 4) (N + 2) (N + 3) N (N + 1) [N, q1] [N + 1, q2] := sep_of N q1 q2 hlt1 hlt2
  have ok : ZLOk (N + 4) (N + 2) (N + 3) N (N + 1) q1 q2 its.toArray its2.toArray h' :=
    ⟨hz, hTI, ⟨_, _, hTO⟩, ⟨⟨_, g1, rfl, rfl⟩, pl.isList.at fun o e => hk _ o e⟩, ⟨⟨_, g2, rfl, rfl⟩, pl2.isList.at fun o e => hk _ o e⟩⟩
  have hsz' : h'.objs.size = N + 5 := hsz
  have lx : xs.length = its.length := rv.length
  have ly : ys.length = its2.length := rv2.length
  have lk : xs.length = ks.length := n1.length
  have hmin : min its.toArray.size its2.toArray.size = (xs.zip ys).length := by simp [lx, ly]
  refine zl_call (s := { s1 with heap := h' }) (A := X.A) (I.ok.hd hc) S its.toArray its2.toArray (Nat.ne_of_lt hlt1) (Nat.ne_of_lt (Nat.lt_succ_of_lt hlt2)) ok (Nat.le_trans (Nat.min_le_left _ _) (by simp only [List.size_toArray]; exact Nat.le_trans (show its.length ≤ 1000 by omega) (by decide))) fun h'' tk acc c as hk' hS hl hG hacc => ?_
  show EP X pins σ Q (.ref h'.objs.size) _
  replace hS : h''.get? h'.objs.size = _ := hS
  replace hG : PlG _ h'.objs.size h'' as := hG
  rw [hsz'] at hS hG ⊢
  have hle : s1.heap.objs.size ≤ N + 5 := by rw [hN]; exact Nat.le_add_right _ _
  have kept : ∀ b u, s1.heap.get? b = some u → h''.get? b = some u := fun b u e => by
    have hb := Heap.lt_size e
    rw [hN] at hb
    exact hk' b u (new4 hb) (hk b u e)
  have hl' : as.length = (xs.zip ys).length := by rw [hl, hmin]
  obtain ⟨kp, newS, new, hSn, nd, eS, J⟩ := pairs_laid (tk := tk) (ps := xs.zip ys) I1 (by rw [List.length_zip]; exact Nat.le_trans (Nat.min_le_left _ _) (Nat.le_trans (show xs.length ≤ 1000 by omega) (by decide))) hle kept hS hl' hG.rise hG.above (fun j a hj => by
    obtain ⟨k1, v1, ⟨e1, e2⟩, e3⟩ := hG.pairs j a hj
    have e1' : its[j]? = some k1 := by simpa using e1
    have e2' : its2[j]? = some v1 := by simpa using e2
    have j1 := (List.getElem?_eq_some_iff.mp e1').1
    have j2 := (List.getElem?_eq_some_iff.mp e2').1
    obtain ⟨w1, w2, w3⟩ := rv.get (show xs[j]? = some xs[j] from List.getElem?_eq_getElem (by omega))
    obtain ⟨y1, y2, y3⟩ := rv2.get (show ys[j]? = some ys[j] from List.getElem?_eq_getElem (by omega))
    rw [e1'] at w2
    rw [e2'] at y2
    cases w2
    cases y2
    exact ⟨k1, v1, xs[j], ys[j], by rw [List.getElem?_zip_eq_some]; exact ⟨List.getElem?_eq_getElem (by omega), List.getElem?_eq_getElem (by omega)⟩, w3, y3, e3⟩) hacc
  refine ⟨.ref (N + 5), _, J, rfl, ?_⟩
  refine k _ (putP F as (xs.zip ys)) _ (pairs_gr (w := G.w) sf kp newS new hSn hl' nd) ⟨N + 5, rfl, newS, ?_, .inl ⟨as.map V.ref, zipD ks ws, rfl, eS, ?_⟩⟩
  · rw [putP_off as _ F hSn]
    exact sf.free newS
  · exact zip_dn (pairs_gr (w := G.w) sf kp newS new hSn hl' nd).ff n1 n2 (putP_at as _ F hl' nd)
end
end Sh
set_option Elab.async false
set_option linter.all false
set_option maxRecDepth 100000
set_option autoImplicit false
/-! own layer 22: d[k] += int -/
namespace Sh
open PySem PySem.Spec PyProof.Rows L2

def mAugD (i : Nat) (mk m : ME) : MS := fun en => match sget en i with
  | .ow (.dict _) => (mk en).bind fun p => match p.1 with
    | .fz (.str z) => match sget p.2 i with
      | .ow (.dict kvs) => match lookD kvs z with
        | some (.int a) => (m p.2).bind fun q => match q.1 with
          | .fz (.int b) => match sget q.2 i with
            | .ow (.dict kvs2) => if kvs2.length < 1000000 then .ok (.nx, q.2.set i (.ow (.dict (putD kvs2 z (.int (a + b)))))) else .bad
            | _ => .bad
          | _ => .bad
        | _ => .bad
      | _ => .bad
    | _ => .bad
  | _ => .bad
section
variable {X : Cx} {G : Gx} {pos p : Pos} {e o k : Expr}
theorem ss_augD {i : Nat} {mk m : ME} {tpos : Pos} (hu : X.A.units + 64 < cLine) (ho : PE X o (tVar i)) (hk : PE X k (rdE G mk)) (he : PE X e (rdE G m))
    (ha : ∀ ov iv new, augStore k ov iv new = (do holding [new, ov, iv] (setItem ov iv new); release [new, ov, iv] []; pure .next) := by intros; rfl) : PS X (.AugAssign (.Subscript o k tpos) .Add e pos) (rdS G (mAugD i mk m)) :=
  (ps_daug (by omega) ho hk he in_add ha).byR fun σ H D h => by
    obtain ⟨F, Fo, en, R, h⟩ := h
    unfold mAugD at h
    split at h
    case h_2 => exact h.elim
    case h_1 d0 hs0 =>
    obtain ⟨a, ea, q0⟩ := R.ow (sget_eq hs0 (by simp))
    refine ⟨_, ea, F, Fo, en, R, ?_⟩
    cases hm : mk en with
    | bad => simp only [hm, Rs.bind] at h; exact h.elim
    | ex x => simp only [hm, Rs.bind] at h; exact h
    | ok pq =>
      obtain ⟨sk, en1⟩ := pq
      simp only [hm, Rs.bind] at h
      intro kv F1 H1 s1 R1
      split at h
      case h_2 => exact h.elim
      case h_1 z =>
      split at h
      case h_2 => exact h.elim
      case h_1 kvs hs1 =>
      split at h
      case h_2 => exact h.elim
      case h_1 i1 hlk =>
      obtain ⟨v, ev, qk⟩ := R1.fz (i := 0) (by rfl)
      simp at ev; subst ev
      cases qk
      have R2 := R1.pop
      obtain ⟨b, eb, q3⟩ := R2.ow (sget_eq hs1 (by simp))
      rw [ea] at eb; cases eb
      obtain ⟨es, hx, dn⟩ := q3.dict
      obtain ⟨v1, hv1, hd1⟩ := (dn.look (z := z)).1 _ hlk
      cases hd1
      refine ⟨a, .int i1, rfl, .inl ⟨es, .inr z, .inl hx, rfl, hv1.symm⟩, F1, Fo, en1, R2, ?_⟩
      cases hm2 : m en1 with
      | bad => simp only [hm2, Rs.bind] at h; exact h.elim
      | ex x => simp only [hm2, Rs.bind] at h; exact PostX.mono s1 (Same.refl _) h
      | ok pq2 =>
        obtain ⟨sv, en2⟩ := pq2
        simp only [hm2, Rs.bind] at h
        intro y F3 H3 s3 R3
        split at h
        case h_2 => exact h.elim
        case h_1 i2 =>
        split at h
        case h_2 => exact h.elim
        case h_1 kvs2 hs2 =>
        split at h
        case isFalse => exact h.elim
        case isTrue hl =>
        obtain ⟨v, ev, qk⟩ := R3.fz (i := 0) (by rfl)
        simp at ev; subst ev
        cases qk
        have R4 := R3.pop
        have hi2 := sget_eq hs2 (by simp)
        obtain ⟨b2, eb2, q4⟩ := R4.ow hi2
        rw [ea] at eb2; cases eb2
        obtain ⟨es2, hx2, dn2⟩ := q4.dict
        refine ⟨i1, i2, rfl, rfl, _, .inl ⟨es2, .inr z, hx2, rfl, million (by rw [dn2.length]; exact hl), rfl⟩, ?_⟩
        exact h σ F3 _ (s1.trans s3) (R4.write hi2 ea fun H' e => ⟨q4.1, .inr ⟨_, _, rfl, e, dn2.put (.int _)⟩⟩) Kp.refl
end
@[simp] theorem ev_augD (i : Nat) (mk m : ME) (en : En) : mAugD i mk m en = match sget en i with
  | .ow (.dict _) => (mk en).bind fun p => match p.1 with
    | .fz (.str z) => match sget p.2 i with
      | .ow (.dict kvs) => match lookD kvs z with
        | some (.int a) => (m p.2).bind fun q => match q.1 with
          | .fz (.int b) => match sget q.2 i with
            | .ow (.dict kvs2) => if kvs2.length < 1000000 then .ok (.nx, q.2.set i (.ow (.dict (putD kvs2 z (.int (a + b)))))) else .bad
            | _ => .bad
          | _ => .bad
        | _ => .bad
      | _ => .bad
    | _ => .bad
  | _ => .bad := rfl
end Sh
set_option Elab.async false
set_option linter.all false
set_option maxRecDepth 100000
set_option autoImplicit false
/-! the defs that all laws have alike, over data (printed by gen.py) -/
namespace Mi
open PySem PySem.Spec PyProof.Rows L2 Sh
noncomputable def m_is_from : MS := mRet (mAndV (mPure (opIsi "int") [.sl 0]) (mAndV (mNotV (mPure (opIsi "bool") [.sl 0])) (mChain opLe opLe (.sl 1) (.sl 0) (.sl 2))))
noncomputable def f_is_from : List Da → Rs Sl := fnP 0 m_is_from

noncomputable def m_is_name : MS := mRet (mAndV (mPure (opIsi "str") [.sl 0]) (mAndV (mChain opLe opLe (.ex (mK (.int 1))) (.ex (mPure opLen [.sl 0])) (.ex (mK (.int 8)))) (mPure opAll [.ex (mLc ⟨[.sl 0], itSeq⟩ (.nm 1) (mYes) (mPure opIn [.sl 1, .ex (mK (.str "abcdefghijklmnopqrstuvwxyz"))]) [1])])))
noncomputable def f_is_name : List Da → Rs Sl := fnP 1 m_is_name

noncomputable def m_is_rising : MS := mRet (mPure opAll [.ex (mLc ⟨[.sl 0, .ex (mPure opSlLo [.sl 0, .ex (mK (.int 1))])], itZip⟩ (.tp [.nm 1, .nm 2]) (mYes) (mPure opLt [.sl 1, .sl 2]) [1, 2])])
noncomputable def f_is_rising : List Da → Rs Sl := fnP 2 m_is_rising

noncomputable def m_are_rows : MS := mSeq (mCond (mOr (mNot (mTE (mPure (opIsi "tuple") [.sl 0]))) (mTE (mPure opGt [.ex (mPure opLen [.sl 0]), .sl 2]))) (mRet (mK (.bool false))) (mSkip))
    (mRet (mPure opAll [.ex (mLc ⟨[.sl 0], itSeq⟩ (.nm 3) (mYes) (mAndV (mPure (opIsi "tuple") [.sl 3]) (mPure opEq [.ex (mPure opLen [.sl 3]), .sl 1])) [3])]))
noncomputable def f_are_rows : List Da → Rs Sl := fnP 1 m_are_rows

noncomputable def m_are_rooms : MS := mSeq (mCond (mOr (mNot (mTE (mCall (f_are_rows) [.sl 0, .ex (mK (.int 3)), .ex (mK (.int 5))]))) (mTE (mPure opEq [.sl 0, .ex (mPure opTup (exs []))]))) (mRet (mK (.bool false))) (mSkip))
    (mSeq (mCond (mNot (mTE (mPure opAll [.ex (mLc ⟨[.sl 0], itSeq⟩ (.nm 1) (mYes) (mAndV (mCall (f_is_name) [.ex (mPure opIx [.sl 1, .ex (mK (.int 0))])]) (mAndV (mCall (f_is_from) [.ex (mPure opIx [.sl 1, .ex (mK (.int 1))]), .ex (mK (.int 0)), .ex (mK (.int 9))]) (mCall (f_is_from) [.ex (mPure opIx [.sl 1, .ex (mK (.int 2))]), .ex (mK (.int 0)), .ex (mK (.int 9))]))) [1])]))) (mRet (mK (.bool false))) (mSkip))
    (mRet (mCall (f_is_rising) [.ex (mLc ⟨[.sl 0], itSeq⟩ (.nm 1) (mYes) (mPure opIx [.sl 1, .ex (mK (.int 0))]) [1])])))
noncomputable def f_are_rooms : List Da → Rs Sl := fnP 1 m_are_rooms

noncomputable def m_is_one_of : MS := mRet (mAndV (mPure (opIsi "str") [.sl 0]) (mPure opIn [.sl 0, .sl 1]))
noncomputable def f_is_one_of : List Da → Rs Sl := fnP 0 m_is_one_of

noncomputable def m_is_house : MS := mSeq (mCond (mOr (mNot (mTE (mPure (opIsi "tuple") [.sl 0]))) (mOr (mTE (mPure opNe [.ex (mPure opLen [.sl 0]), .ex (mK (.int 3))])) (mNot (mTE (mCall (f_are_rooms) [.ex (mPure opIx [.sl 0, .ex (mK (.int 0))])]))))) (mRet (mK (.bool false))) (mSkip))
    (mSeq (mAsg (.tp [.nm 2, .nm 3, .nm 4]) (mVar 0))
    (mSeq (mSet 1 (mLc ⟨[.sl 2], itSeq⟩ (.nm 5) (mYes) (mPure opIx [.sl 5, .ex (mK (.int 0))]) [5]))
    (mSeq (mCond (mOr (mNot (mTE (mCall (f_are_rows) [.sl 3, .ex (mK (.int 2)), .ex (mPure opMul [.ex (mK (.int 5)), .ex (mK (.int 5))])]))) (mNot (mTE (mCall (f_are_rows) [.sl 4, .ex (mK (.int 3)), .ex (mK (.int 10))])))) (mRet (mK (.bool false))) (mSkip))
    (mSeq (mCond (mNot (mTE (mPure opAll [.ex (mLc ⟨[.sl 3], itSeq⟩ (.nm 6) (mYes) (mAndV (mCall (f_is_one_of) [.ex (mPure opIx [.sl 6, .ex (mK (.int 0))]), .sl 1]) (mAndV (mCall (f_is_one_of) [.ex (mPure opIx [.sl 6, .ex (mK (.int 1))]), .sl 1]) (mPure opLt [.ex (mPure opIx [.sl 6, .ex (mK (.int 0))]), .ex (mPure opIx [.sl 6, .ex (mK (.int 1))])]))) [6])]))) (mRet (mK (.bool false))) (mSkip))
    (mSeq (mCond (mNot (mTE (mPure opAll [.ex (mLc ⟨[.sl 4], itSeq⟩ (.nm 6) (mYes) (mAndV (mCall (f_is_one_of) [.ex (mPure opIx [.sl 6, .ex (mK (.int 0))]), .sl 1]) (mAndV (mCall (f_is_one_of) [.ex (mPure opIx [.sl 6, .ex (mK (.int 1))]), .sl 1]) (mCall (f_is_from) [.ex (mPure opIx [.sl 6, .ex (mK (.int 2))]), .ex (mK (.int 1)), .ex (mK (.int 9))]))) [6])]))) (mRet (mK (.bool false))) (mSkip))
    (mRet (mAndV (mCall (f_is_rising) [.sl 3]) (mCall (f_is_rising) [.ex (mLc ⟨[.sl 4], itSeq⟩ (.nm 6) (mYes) (mPure opSlHi [.sl 6, .ex (mK (.int 2))]) [6])]))))))))
noncomputable def f_is_house : List Da → Rs Sl := fnP 6 m_is_house

noncomputable def m_law_deck : MS := mSeq (mCond (mTE (mPure opGe [.sl 0, .ex (mPure opPow [.ex (mK (.int 10)), .ex (mK (.int 18))])])) (mRet (mPure opLst (exs [mPure opSub [.sl 0, .ex (mPure opPow [.ex (mK (.int 10)), .ex (mK (.int 18))])], mPure opMod [.sl 0, .ex (mK (.int 2147483579))], mVar 1]))) (mSkip))
    (mRet (mPure opLst (exs [mK (.int 0), mPure opMod [.sl 0, .ex (mK (.int 2147483579))], mVar 1])))
noncomputable def f_law_deck : List Da → Rs Sl := fnP 0 m_law_deck

noncomputable def m_law_pick : MS := mSeq (mCond (mTE (mPure opGt [.ex (mPure opIx [.sl 0, .ex (mK (.int 0))]), .ex (mK (.int 1))])) (mSeq (mSet 3 (mPure opMod [.ex (mPure opIx [.sl 0, .ex (mK (.int 0))]), .sl 1]))
    (mSeq (mPut 0 (mK (.int 0)) (mPure opFdiv [.ex (mPure opIx [.sl 0, .ex (mK (.int 0))]), .sl 1]))
    (mRet (mMove 3)))) (mSkip))
    (mSeq (mPut 0 (mK (.int 2)) (mPure opAdd [.ex (mPure opIx [.sl 0, .ex (mK (.int 2))]), .ex (mK (.int 1))]))
    (mSeq (mSet 2 (mPure opMod [.ex (mPure opPow [.ex (mPure opAdd [.ex (mPure opIx [.sl 0, .ex (mK (.int 1))]), .ex (mPure opMul [.ex (mK (.int 15485867)), .ex (mPure opIx [.sl 0, .ex (mK (.int 2))])])]), .ex (mK (.int 5))]), .ex (mK (.int 2147483647))]))
    (mSeq (mSet 3 (mPure opFdiv [.ex (mPure opMod [.ex (mPure opPow [.ex (mPure opAdd [.sl 2, .ex (mPure opMul [.ex (mK (.int 7919)), .ex (mPure opIx [.sl 0, .ex (mK (.int 2))])])]), .ex (mK (.int 3))]), .ex (mK (.int 2147483629))]), .ex (mK (.int 32))]))
    (mRet (mPure opMod [.sl 3, .sl 1])))))
noncomputable def f_law_pick : List Da → List Da → Rs (Sl × List Da) := fnD 2 m_law_pick

noncomputable def m_law_whole : MS := mRet (mAndV (mPure (opIsi "int") [.sl 0]) (mNotV (mPure (opIsi "bool") [.sl 0])))
noncomputable def f_law_whole : List Da → Rs Sl := fnP 0 m_law_whole

noncomputable def m_law_one : MS := mRet (mPure opIx [.sl 1, .ex (mCallD (f_law_pick) 0 [.ex (mPure opLen [.sl 1])])])
noncomputable def f_law_one : List Da → List Da → Rs (Sl × List Da) := fnD 0 m_law_one

noncomputable def m_law_sort : MS := mSeq (mCond (mTE (mPure (opIsi "bool") [.sl 0])) (mRet (mK (.int 1))) (mSkip))
    (mSeq (mCond (mTE (mPure (opIsi "int") [.sl 0])) (mRet (mK (.int 2))) (mSkip))
    (mSeq (mCond (mTE (mPure (opIsi "str") [.sl 0])) (mRet (mK (.int 3))) (mSkip))
    (mSeq (mCond (mTE (mPure (opIsi "list") [.sl 0])) (mRet (mK (.int 4))) (mSkip))
    (mRet (mIf (mTE (mPure (opIsi "tuple") [.sl 0])) (mK (.int 5)) (mK (.int 6)))))))
noncomputable def f_law_sort : List Da → Rs Sl := fnP 0 m_law_sort

noncomputable def mb_law_same (self : List Da → Rs Sl) : MS := mSeq (mCond (mTE (mPure opNe [.ex (mCall (f_law_sort) [.sl 0]), .ex (mCall (f_law_sort) [.sl 1])])) (mRet (mK (.bool false))) (mSkip))
    (mSeq (mCond (mAnd (mTE (mPure opGt [.ex (mCall (f_law_sort) [.sl 0]), .ex (mK (.int 3))])) (mTE (mPure opLt [.ex (mCall (f_law_sort) [.sl 0]), .ex (mK (.int 6))]))) (mSeq (mCond (mTE (mPure opNe [.ex (mPure opLen [.sl 0]), .ex (mPure opLen [.sl 1])])) (mRet (mK (.bool false))) (mSkip))
    (mRet (mPure opEq [.ex (mLc ⟨[.sl 0], itEnum⟩ (.tp [.nm 2, .nm 3]) (mNot (mTE (mCall (self) [.sl 3, .ex (mPure opIx [.sl 1, .sl 2])]))) (mVar 2) [2, 3]), .ex (mPure opLst (exs []))]))) (mSkip))
    (mRet (mPure opEq [.sl 0, .sl 1])))
noncomputable def r_law_same : Nat → List Da → Rs Sl
  | 0 => fun _ => .bad
  | n + 1 => fnP 2 (mb_law_same (r_law_same n))

noncomputable def m_law_odd : MS := mSeq (mSet 1 (mPure opLst (exs [mK (.none), mK (.bool true), mK (.str ""), mK (.str "a"), mPure opTup (exs []), mPure opLst (exs []), mPure opTup (exs [mPure opTup (exs [])]), mK (.int 7), mPure opNeg [.ex (mK (.int 1))], mPure opPow [.ex (mK (.int 10)), .ex (mK (.int 30))], mPure opTup (exs [mK (.int 1), mK (.int 2)]), mK (.str "A"), mPure opTup (exs [mK (.int 0), mK (.str "a")]), mPure opLst (exs [mPure opTup (exs [mK (.int 0), mK (.str "a")])]), mPure opTup (exs [mK (.str "a")]), mPure opTup (exs [mK (.bool true), mK (.str "a")])])))
    (mRet (mCallD (f_law_one) 0 [.sl 1]))
noncomputable def f_law_odd : List Da → List Da → Rs (Sl × List Da) := fnD 1 m_law_odd

noncomputable def mb_law_spoilt (self : List Da → List Da → Rs (Sl × List Da)) : MS := mSeq (mCond (mAnd (mTE (mPure (opIsi2 "tuple" "list") [.sl 1])) (mAnd (mTE (mPure opGt [.ex (mPure opLen [.sl 1]), .ex (mK (.int 0))])) (mTE (mPure opGt [.ex (mCallD (f_law_pick) 0 [.ex (mK (.int 5))]), .ex (mK (.int 0))])))) (mSeq (mSet 2 (mPure opList [.sl 1]))
    (mSeq (mSet 3 (mCallD (f_law_pick) 0 [.ex (mPure opLen [.sl 2])]))
    (mSeq (mPut 2 (mVar 3) (mCallD (self) 0 [.ex (mPure opIx [.sl 2, .sl 3])]))
    (mRet (mIf (mTE (mPure (opIsi "tuple") [.sl 1])) (mPure opTuple [.sl 2]) (mVar 2)))))) (mSkip))
    (mSeq (mCond (mTE (mPure (opIsi2 "tuple" "list") [.sl 1])) (mSeq (mSet 4 (mIf (mTE (mPure (opIsi "tuple") [.sl 1])) (mPure opList [.sl 1]) (mPure opTuple [.sl 1])))
    (mRet (mPure opIx [.ex (mPure opLst (exs [mVar 4, mPure opAdd [.sl 1, .ex (mPure opSlHi [.sl 1, .ex (mK (.int 1))])], mPure opSlLo [.sl 1, .ex (mK (.int 1))], mPure revd [.sl 1], mK (.none)])), .ex (mCallD (f_law_pick) 0 [.ex (mK (.int 5))])]))) (mSkip))
    (mSeq (mCond (mTE (mPure (opIsi "int") [.sl 1])) (mRet (mPure opIx [.ex (mPure opLst (exs [mPure opAdd [.sl 1, .ex (mK (.int 1))], mPure opSub [.sl 1, .ex (mK (.int 1))], mK (.bool true), mK (.none), mK (.int 9), mK (.int 10), mPure opStr [.sl 1]])), .ex (mCallD (f_law_pick) 0 [.ex (mK (.int 7))])])) (mSkip))
    (mRet (mPure opIx [.ex (mPure opLst (exs [mK (.none), mK (.int 7), mK (.str "n"), mK (.str ""), mK (.str "A"), mK (.str "abcdefghi"), mK (.str "a"), mK (.str "row")])), .ex (mCallD (f_law_pick) 0 [.ex (mK (.int 8))])]))))
noncomputable def r_law_spoilt : Nat → List Da → List Da → Rs (Sl × List Da)
  | 0 => fun _ _ => .bad
  | n + 1 => fnD 3 (mb_law_spoilt (r_law_spoilt n))

noncomputable def m_law_house : MS := mSeq (mSet 3 (mPure opLst (exs [])))
    (mSeq (mFor ⟨[.ex (mPure opSlHi [.ex (mPure opLst (exs [mK (.str "bay"), mK (.str "den"), mK (.str "hut"), mK (.str "loft"), mK (.str "nook")])), .ex (mPure opAdd [.ex (mK (.int 2)), .ex (mCallD (f_law_pick) 0 [.ex (mPure opSub [.sl 1, .ex (mK (.int 1))])])])])], itSeq⟩ (.nm 4) (mAppend 3 (mPure opTup (exs [mVar 4, mCallD (f_law_pick) 0 [.ex (mPure opAdd [.sl 2, .ex (mK (.int 1))])], mCallD (f_law_one) 0 [.ex (mPure opLst (exs [mK (.int 1), mK (.int 1), mK (.int 2), mK (.int 0), mCallD (f_law_pick) 0 [.ex (mK (.int 10))]]))]]))))
    (mSeq (mPar [6, 7, 8] [mLc ⟨[.sl 3], itSeq⟩ (.nm 12) (mYes) (mPure opIx [.sl 12, .ex (mK (.int 0))]) [12], mPure opLst (exs []), mPure opLst (exs [])])
    (mSeq (mFor ⟨[.ex (mVar 6)], itEnum⟩ (.tp [.nm 9, .nm 10]) (mSet 7 (mPure opAdd [.sl 7, .ex (mLc ⟨[.ex (mPure opSlLo [.sl 6, .ex (mPure opAdd [.sl 9, .ex (mK (.int 1))])])], itSeq⟩ (.nm 13) (mTE (mPure opGt [.ex (mCallD (f_law_pick) 0 [.ex (mK (.int 4))]), .ex (mK (.int 0))])) (mPure opTup (exs [mVar 10, mVar 13])) [13])])))
    (mSeq (mFor ⟨[.ex (mCallD (f_law_pick) 0 [.ex (mK (.int 4))])], itRng⟩ (.nm 5) (mSeq (mSet 11 (mPure opTup (exs [mCallD (f_law_one) 0 [.sl 6], mCallD (f_law_one) 0 [.sl 6]])))
    (mCond (mTE (mPure opNotIn [.sl 11, .ex (mLc ⟨[.sl 8], itSeq⟩ (.nm 10) (mYes) (mPure opSlHi [.sl 10, .ex (mK (.int 2))]) [10])])) (mAppend 8 (mPure opAdd [.sl 11, .ex (mPure opTup (exs [mCallD (f_law_one) 0 [.ex (mPure opLst (exs [mK (.int 1), mK (.int 1), mK (.int 2), mPure opAdd [.ex (mK (.int 1)), .ex (mCallD (f_law_pick) 0 [.ex (mK (.int 9))])]]))]]))])) (mSkip))))
    (mRet (mPure opTup (exs [mPure opTuple [.sl 3], mPure opTuple [.sl 7], mPure opTuple [.ex (mPure opSorted [.sl 8])]])))))))
noncomputable def f_law_house : List Da → List Da → Rs (Sl × List Da) := fnD 11 m_law_house

noncomputable def m_law_is_name : MS := mSeq (mCond (mOr (mNot (mTE (mPure (opIsi "str") [.sl 0]))) (mNot (mTE (mChain opLe opLe (.ex (mK (.int 1))) (.ex (mPure opLen [.sl 0])) (.ex (mK (.int 8))))))) (mRet (mK (.bool false))) (mSkip))
    (mRet (mPure opEq [.ex (mLc ⟨[.sl 0], itSeq⟩ (.nm 1) (mNot (mTE (mChain opLe opLe (.ex (mK (.str "a"))) (.sl 1) (.ex (mK (.str "z")))))) (mVar 1) [1]), .ex (mPure opLst (exs []))]))
noncomputable def f_law_is_name : List Da → Rs Sl := fnP 1 m_law_is_name

noncomputable def m_law_in : MS := mRet (mAndV (mCall (f_law_whole) [.sl 0]) (mChain opLe opLe (.sl 1) (.sl 0) (.sl 2)))
noncomputable def f_law_in : List Da → Rs Sl := fnP 0 m_law_in

noncomputable def m_law_are : MS := mSeq (mCond (mNot (mTE (mPure (opIsi "tuple") [.sl 0]))) (mRet (mK (.bool false))) (mSkip))
    (mRet (mPure opEq [.ex (mLc ⟨[.sl 0], itSeq⟩ (.nm 2) (mOr (mNot (mTE (mPure (opIsi "tuple") [.sl 2]))) (mTE (mPure opNe [.ex (mPure opLen [.sl 2]), .sl 1]))) (mVar 2) [2]), .ex (mPure opLst (exs []))]))
noncomputable def f_law_are : List Da → Rs Sl := fnP 1 m_law_are

noncomputable def m_law_written : MS := mSeq (mSet 1 (mPure opSlHi [.ex (mPure opLst (exs [mK (.str "a"), mK (.str "b"), mK (.str "c"), mK (.str "d"), mK (.str "e"), mK (.str "f")])), .ex (mPure opAdd [.ex (mK (.int 5)), .ex (mCallD (f_law_pick) 0 [.ex (mK (.int 2))])])]))
    (mSeq (mSet 2 (mPure opTuple [.ex (mLc ⟨[.sl 1], itSeq⟩ (.nm 7) (mYes) (mPure opTup (exs [mVar 7, mK (.int 9), mK (.int 9)])) [7])]))
    (mSeq (mSet 3 (mPure opLst (exs [])))
    (mSeq (mFor ⟨[.ex (mPure opSlHi [.sl 1, .ex (mK (.int 4))])], itSeq⟩ (.nm 4) (mSet 3 (mPure opAdd [.sl 3, .ex (mLc ⟨[.ex (mPure opSlHi [.sl 1, .ex (mK (.int 4))])], itSeq⟩ (.nm 8) (mYes) (mPure opTup (exs [mVar 4, mVar 8])) [8])])))
    (mSeq (mSet 5 (mPure opLst (exs [mPure opTup (exs [mVar 2, mPure opTup (exs []), mPure opTup (exs [])]), mPure opTup (exs [mVar 2, mPure opTup (exs []), mPure opTuple [.ex (mLc ⟨[.ex (mPure opSlHi [.sl 3, .ex (mPure opAdd [.ex (mK (.int 9)), .ex (mCallD (f_law_pick) 0 [.ex (mK (.int 3))])])])], itSeq⟩ (.nm 9) (mYes) (mPure opAdd [.sl 9, .ex (mPure opTup (exs [mK (.int 1)]))]) [9])]])])))
    (mSeq (mSet 5 (mPure opAdd [.sl 5, .ex (mPure opLst (exs [mPure opTup (exs [mVar 2, mPure opTup (exs [mPure opTup (exs [mK (.str "a"), mK (.str "a")])]), mPure opTup (exs [])]), mPure opTup (exs [mVar 2, mPure opTup (exs [mPure opTup (exs [mK (.str "b"), mK (.str "a")])]), mPure opTup (exs [])]), mPure opTup (exs [mVar 2, mPure opTup (exs [mPure opTup (exs [mK (.str "a"), mK (.str "b")])]), mPure opTup (exs [mPure opTup (exs [mK (.str "a"), mK (.str "a"), mK (.int 9)])])])]))]))
    (mSeq (mAppend 5 (mPure opTup (exs [mVar 2, mPure opTup (exs []), mPure opTup (exs [mPure opTup (exs [mK (.str "a"), mK (.str "a"), mK (.int 1)]), mPure opTup (exs [mK (.str "a"), mK (.str "a"), mK (.int 2)])])])))
    (mSeq (mFor ⟨[.ex (mPure opLst (exs [mK (.int 0), mK (.int 9), mK (.int 10), mPure opNeg [.ex (mK (.int 1))], mK (.bool true)]))], itSeq⟩ (.nm 6) (mSeq (mSet 5 (mPure opAdd [.sl 5, .ex (mPure opLst (exs [mPure opTup (exs [mPure opTup (exs [mPure opTup (exs [mK (.str "a"), mVar 6, mK (.int 1)])]), mPure opTup (exs []), mPure opTup (exs [])]), mPure opTup (exs [mPure opTup (exs [mPure opTup (exs [mK (.str "a"), mK (.int 1), mVar 6])]), mPure opTup (exs []), mPure opTup (exs [])])]))]))
    (mAppend 5 (mPure opTup (exs [mPure opTup (exs [mPure opTup (exs [mK (.str "a"), mK (.int 1), mK (.int 1)])]), mPure opTup (exs []), mPure opTup (exs [mPure opTup (exs [mK (.str "a"), mK (.str "a"), mVar 6])])])))))
    (mRet (mMove 5)))))))))
noncomputable def f_law_written : List Da → List Da → Rs (Sl × List Da) := fnD 9 m_law_written

noncomputable def m_are_bearers : MS := mSeq (mCond (mOr (mNot (mTE (mPure (opIsi "tuple") [.sl 0]))) (mNot (mTE (mChain opLe opLe (.ex (mK (.int 1))) (.ex (mPure opLen [.sl 0])) (.ex (mK (.int 3))))))) (mRet (mK (.bool false))) (mSkip))
    (mRet (mPure opAll [.ex (mLc ⟨[.sl 0], itSeq⟩ (.nm 1) (mYes) (mCall (f_is_from) [.sl 1, .ex (mK (.int 0)), .ex (mK (.int 9))]) [1])]))
noncomputable def f_are_bearers : List Da → Rs Sl := fnP 1 m_are_bearers

noncomputable def m_names_of : MS := mRet (mLc ⟨[.ex (mPure opIx [.sl 0, .ex (mK (.int 0))])], itSeq⟩ (.nm 1) (mYes) (mPure opIx [.sl 1, .ex (mK (.int 0))]) [1])
noncomputable def f_names_of : List Da → Rs Sl := fnP 1 m_names_of

noncomputable def m_are_places : MS := mSeq (mCond (mOr (mNot (mTE (mPure (opIsi "tuple") [.sl 2]))) (mTE (mPure opNe [.ex (mPure opLen [.sl 2]), .ex (mPure opLen [.sl 1])]))) (mRet (mK (.bool false))) (mSkip))
    (mRet (mPure opAll [.ex (mLc ⟨[.sl 2], itSeq⟩ (.nm 3) (mYes) (mCall (f_is_one_of) [.sl 3, .ex (mCall (f_names_of) [.sl 0])]) [3])]))
noncomputable def f_are_places : List Da → Rs Sl := fnP 1 m_are_places

noncomputable def m_is_standing : MS := mSeq (mCond (mOr (mNot (mTE (mPure (opIsi "tuple") [.sl 2]))) (mOr (mTE (mPure opNe [.ex (mPure opLen [.sl 2]), .ex (mK (.int 2))])) (mNot (mTE (mCall (f_are_places) [.sl 0, .sl 1, .ex (mPure opIx [.sl 2, .ex (mK (.int 0))])]))))) (mRet (mK (.bool false))) (mSkip))
    (mSeq (mCond (mOr (mNot (mTE (mPure (opIsi "tuple") [.ex (mPure opIx [.sl 2, .ex (mK (.int 1))])]))) (mTE (mPure opNe [.ex (mPure opLen [.ex (mPure opIx [.sl 2, .ex (mK (.int 1))])]), .ex (mPure opLen [.ex (mPure opIx [.sl 0, .ex (mK (.int 0))])])]))) (mRet (mK (.bool false))) (mSkip))
    (mRet (mPure opAll [.ex (mLc ⟨[.ex (mPure opIx [.sl 2, .ex (mK (.int 1))]), .ex (mPure opIx [.sl 0, .ex (mK (.int 0))])], itZip⟩ (.tp [.nm 3, .nm 4]) (mYes) (mCall (f_is_from) [.sl 3, .ex (mK (.int 0)), .ex (mPure opIx [.sl 4, .ex (mK (.int 1))])]) [3, 4])])))
noncomputable def f_is_standing : List Da → Rs Sl := fnP 2 m_is_standing

noncomputable def m_need_house : MS := mCond (mNot (mTE (mCall (f_is_house) [.sl 0]))) (mNever) (mSkip)
noncomputable def f_need_house : List Da → Rs Sl := fnP 0 m_need_house

noncomputable def m_need_bearers : MS := mSeq (mDo (mCall (f_need_house) [.sl 0]))
    (mCond (mNot (mTE (mCall (f_are_bearers) [.sl 1]))) (mNever) (mSkip))
noncomputable def f_need_bearers : List Da → Rs Sl := fnP 0 m_need_bearers

noncomputable def m_need_places : MS := mSeq (mDo (mCall (f_need_bearers) [.sl 0, .sl 1]))
    (mCond (mNot (mTE (mCall (f_are_places) [.sl 0, .sl 1, .sl 2]))) (mNever) (mSkip))
noncomputable def f_need_places : List Da → Rs Sl := fnP 0 m_need_places

noncomputable def m_is_stand : MS := mSeq (mDo (mCall (f_need_bearers) [.sl 0, .sl 1]))
    (mRet (mCall (f_is_standing) [.sl 0, .sl 1, .sl 2]))
noncomputable def f_is_stand : List Da → Rs Sl := fnP 0 m_is_stand

noncomputable def m_caps_of : MS := mRet (mPure opTuple [.ex (mLc ⟨[.ex (mPure opIx [.sl 0, .ex (mK (.int 0))])], itSeq⟩ (.nm 1) (mYes) (mPure opIx [.sl 1, .ex (mK (.int 1))]) [1])])
noncomputable def f_caps_of : List Da → Rs Sl := fnP 1 m_caps_of

noncomputable def m_full_stand : MS := mSeq (mDo (mCall (f_need_places) [.sl 0, .sl 1, .sl 2]))
    (mRet (mPure opTup (exs [mVar 2, mCall (f_caps_of) [.sl 0]])))
noncomputable def f_full_stand : List Da → Rs Sl := fnP 0 m_full_stand

noncomputable def m_law_bearers : MS := mRet (mPure opTuple [.ex (mLc ⟨[.ex (mPure opAdd [.ex (mK (.int 1)), .ex (mCallD (f_law_pick) 0 [.sl 1])])], itRng⟩ (.nm 2) (mYes) (mCallD (f_law_one) 0 [.ex (mPure opLst (exs [mK (.int 1), mK (.int 1), mK (.int 2), mK (.int 0), mK (.int 3)]))]) [2])])
noncomputable def f_law_bearers : List Da → List Da → Rs (Sl × List Da) := fnD 1 m_law_bearers

noncomputable def m_law_places : MS := mRet (mPure opTuple [.ex (mLc ⟨[.sl 2], itSeq⟩ (.nm 3) (mYes) (mPure opIx [.ex (mCallD (f_law_one) 0 [.ex (mPure opIx [.sl 1, .ex (mK (.int 0))])]), .ex (mK (.int 0))]) [3])])
noncomputable def f_law_places : List Da → List Da → Rs (Sl × List Da) := fnD 1 m_law_places

noncomputable def m_law_stand : MS := mSeq (mSet 3 (mLc ⟨[.ex (mPure opIx [.sl 1, .ex (mK (.int 0))])], itSeq⟩ (.nm 4) (mYes) (mCallD (f_law_one) 0 [.ex (mPure opLst (exs [mPure opIx [.sl 4, .ex (mK (.int 1))], mPure opIx [.sl 4, .ex (mK (.int 1))], mCallD (f_law_pick) 0 [.ex (mPure opAdd [.ex (mPure opIx [.sl 4, .ex (mK (.int 1))]), .ex (mK (.int 1))])]]))]) [4]))
    (mRet (mPure opTup (exs [mCallD (f_law_places) 0 [.sl 1, .sl 2], mPure opTuple [.sl 3]])))
noncomputable def f_law_stand : List Da → List Da → Rs (Sl × List Da) := fnD 2 m_law_stand

noncomputable def m_law_hall : MS := mSeq (mPar [4, 5] [mCallD (f_law_house) 0 [.sl 1, .sl 2], mCallD (f_law_bearers) 0 [.sl 3]])
    (mRet (mPure opTup (exs [mVar 4, mVar 5, mCallD (f_law_stand) 0 [.sl 4, .sl 5]])))
noncomputable def f_law_hall : List Da → List Da → Rs (Sl × List Da) := fnD 2 m_law_hall

noncomputable def m_law_are_bearers : MS := mSeq (mCond (mOr (mNot (mTE (mPure (opIsi "tuple") [.sl 0]))) (mNot (mTE (mChain opLe opLe (.ex (mK (.int 1))) (.ex (mPure opLen [.sl 0])) (.ex (mK (.int 3))))))) (mRet (mK (.bool false))) (mSkip))
    (mRet (mPure opEq [.ex (mLc ⟨[.sl 0], itSeq⟩ (.nm 1) (mNot (mTE (mCall (f_law_in) [.sl 1, .ex (mK (.int 0)), .ex (mK (.int 9))]))) (mVar 1) [1]), .ex (mPure opLst (exs []))]))
noncomputable def f_law_are_bearers : List Da → Rs Sl := fnP 1 m_law_are_bearers

noncomputable def m_need_stand : MS := mSeq (mDo (mCall (f_need_bearers) [.sl 0, .sl 1]))
    (mCond (mNot (mTE (mCall (f_is_standing) [.sl 0, .sl 1, .sl 2]))) (mNever) (mSkip))
noncomputable def f_need_stand : List Da → Rs Sl := fnP 0 m_need_stand

noncomputable def m_are_near : MS := mRet (mPure opIn [.ex (mPure opTup (exs [mPure opMin2 [.sl 1, .sl 2], mPure opMax2 [.sl 1, .sl 2]])), .ex (mPure opIx [.sl 0, .ex (mK (.int 1))])])
noncomputable def f_are_near : List Da → Rs Sl := fnP 0 m_are_near

noncomputable def m_gained : MS := mSeq (mSet 3 (mPure opDictZip [.ex (mCall (f_names_of) [.sl 0]), .sl 1]))
    (mSeq (mSet 4 (mDc ⟨[.ex (mPure opIx [.sl 0, .ex (mK (.int 0))])], itSeq⟩ (.nm 8) (mYes) (mPure opIx [.sl 8, .ex (mK (.int 0))]) (mPure opIx [.sl 8, .ex (mK (.int 1))]) [8]))
    (mSeq (mFor ⟨[.ex (mPure opIx [.sl 0, .ex (mK (.int 2))])], itSeq⟩ (.tp [.nm 5, .nm 6, .nm 7]) (mCond (mTE (mPure opEq [.sl 5, .sl 2])) (mPutD 3 (mVar 6) (mPure opMin2 [.ex (mPure opIxD [.sl 4, .sl 6]), .ex (mPure opAdd [.ex (mPure opIxD [.sl 3, .sl 6]), .sl 7])])) (mSkip)))
    (mRet (mMove 3))))
noncomputable def f_gained : List Da → Rs Sl := fnP 6 m_gained

noncomputable def m_come : MS := mSeq (mAsg (.tp [.nm 8, .nm 9]) (mVar 2))
    (mSeq (mSet 5 (mCall (f_names_of) [.sl 0]))
    (mSeq (mCond (mOr (mNot (mTE (mCall (f_are_near) [.sl 0, .ex (mPure opIx [.sl 8, .sl 3]), .sl 4]))) (mTE (mPure opLt [.ex (mPure opIx [.sl 9, .ex (mIndex (mVar 5) (mVar 4))]), .ex (mPure opIx [.sl 1, .sl 3])]))) (mRet (mK (.none))) (mSkip))
    (mSeq (mSet 6 (mCall (f_gained) [.sl 0, .sl 9, .ex (mPure opIx [.sl 8, .sl 3])]))
    (mSeq (mSet 7 (mPure opIx [.ex (mPure opIx [.ex (mPure opIx [.sl 0, .ex (mK (.int 0))]), .ex (mIndex (mVar 5) (mVar 4))]), .ex (mK (.int 2))]))
    (mSeq (mPutD 6 (mVar 4) (mPure opMax2 [.ex (mK (.int 0)), .ex (mPure opSub [.ex (mPure opIxD [.sl 6, .sl 4]), .sl 7])]))
    (mRet (mPure opTup (exs [mPure opAdd [.ex (mPure opAdd [.ex (mPure opSlHi [.sl 8, .sl 3]), .ex (mPure opTup (exs [mVar 4]))]), .ex (mPure opSlLo [.sl 8, .ex (mPure opAdd [.sl 3, .ex (mK (.int 1))])])], mPure opTuple [.ex (mLc ⟨[.sl 5], itSeq⟩ (.nm 10) (mYes) (mPure opIxD [.sl 6, .sl 10]) [10])]]))))))))
noncomputable def f_come : List Da → Rs Sl := fnP 6 m_come

noncomputable def m_nexts : MS := mSeq (mSet 3 (mPure opLst (exs [])))
    (mSeq (mFor ⟨[.ex (mPure opLen [.sl 1])], itRng⟩ (.nm 4) (mFor ⟨[.ex (mCall (f_names_of) [.sl 0])], itSeq⟩ (.nm 5) (mSeq (mSet 6 (mCall (f_come) [.sl 0, .sl 1, .sl 2, .sl 4, .sl 5]))
    (mCond (mTE (mPure opIsNot [.sl 6, .ex (mK (.none))])) (mAppend 3 (mPure opTup (exs [mVar 4, mVar 5, mVar 6]))) (mSkip)))))
    (mRet (mMove 3)))
noncomputable def f_nexts : List Da → Rs Sl := fnP 4 m_nexts

noncomputable def m_comings : MS := mSeq (mDo (mCall (f_need_stand) [.sl 0, .sl 1, .sl 2]))
    (mRet (mCall (f_nexts) [.sl 0, .sl 1, .sl 2]))
noncomputable def f_comings : List Da → Rs Sl := fnP 0 m_comings

noncomputable def m_is_coming : MS := mSeq (mCond (mOr (mNot (mTE (mPure (opIsi "tuple") [.sl 2]))) (mOr (mTE (mPure opNe [.ex (mPure opLen [.sl 2]), .ex (mK (.int 2))])) (mNot (mTE (mCall (f_is_from) [.ex (mPure opIx [.sl 2, .ex (mK (.int 0))]), .ex (mK (.int 0)), .ex (mPure opSub [.ex (mPure opLen [.sl 1]), .ex (mK (.int 1))])]))))) (mRet (mK (.bool false))) (mSkip))
    (mRet (mCall (f_is_one_of) [.ex (mPure opIx [.sl 2, .ex (mK (.int 1))]), .ex (mCall (f_names_of) [.sl 0])]))
noncomputable def f_is_coming : List Da → Rs Sl := fnP 0 m_is_coming

noncomputable def m_is_row : MS := mRet (mAndV (mPure (opIsi "list") [.sl 2]) (mPure opAll [.ex (mLc ⟨[.sl 2], itSeq⟩ (.nm 3) (mYes) (mCall (f_is_coming) [.sl 0, .sl 1, .sl 3]) [3])]))
noncomputable def f_is_row : List Da → Rs Sl := fnP 1 m_is_row

noncomputable def m_need_row : MS := mCond (mOr (mNot (mTE (mCall (f_is_row) [.sl 0, .sl 1, .sl 2]))) (mTE (mPure opGt [.ex (mPure opLen [.sl 2]), .ex (mK (.int 60))]))) (mNever) (mSkip)
noncomputable def f_need_row : List Da → Rs Sl := fnP 0 m_need_row

noncomputable def m_walked : MS := mSeq (mSet 4 (mPure opLst (exs [mVar 2])))
    (mSeq (mFor ⟨[.ex (mVar 3)], itSeq⟩ (.tp [.nm 5, .nm 6]) (mSeq (mSet 7 (mCall (f_come) [.sl 0, .sl 1, .ex (mPure opIx [.sl 4, .ex (mPure opNeg [.ex (mK (.int 1))])]), .sl 5, .sl 6]))
    (mSeq (mCond (mTE (mPure opIs [.sl 7, .ex (mK (.none))])) (mRet (mMove 4)) (mSkip))
    (mAppend 4 (mVar 7)))))
    (mRet (mMove 4)))
noncomputable def f_walked : List Da → Rs Sl := fnP 4 m_walked

noncomputable def m_gone : MS := mSeq (mDo (mCall (f_need_stand) [.sl 0, .sl 1, .sl 2]))
    (mSeq (mDo (mCall (f_need_row) [.sl 0, .sl 1, .sl 3]))
    (mSeq (mSet 4 (mCall (f_walked) [.sl 0, .sl 1, .sl 2, .sl 3]))
    (mRet (mIf (mTE (mPure opEq [.ex (mPure opLen [.sl 4]), .ex (mPure opAdd [.ex (mPure opLen [.sl 3]), .ex (mK (.int 1))])])) (mPure opIx [.sl 4, .ex (mPure opNeg [.ex (mK (.int 1))])]) (mK (.none))))))
noncomputable def f_gone : List Da → Rs Sl := fnP 1 m_gone

noncomputable def m_halt : MS := mSeq (mDo (mCall (f_need_stand) [.sl 0, .sl 1, .sl 2]))
    (mSeq (mDo (mCall (f_need_row) [.sl 0, .sl 1, .sl 3]))
    (mSeq (mSet 4 (mCall (f_walked) [.sl 0, .sl 1, .sl 2, .sl 3]))
    (mRet (mIf (mTE (mPure opLe [.ex (mPure opLen [.sl 4]), .ex (mPure opLen [.sl 3])])) (mPure opSub [.ex (mPure opLen [.sl 4]), .ex (mK (.int 1))]) (mK (.none))))))
noncomputable def f_halt : List Da → Rs Sl := fnP 1 m_halt

noncomputable def m_law_come : MS := mSeq (mAsg (.tp [.nm 8, .nm 9]) (mPure opTup (exs [mPure opIx [.sl 0, .ex (mK (.int 0))], mPure opIx [.ex (mPure opIx [.sl 2, .ex (mK (.int 0))]), .sl 3]])))
    (mSeq (mCond (mAnd (mTE (mPure opNotIn [.ex (mPure opTup (exs [mVar 9, mVar 4])), .ex (mPure opIx [.sl 0, .ex (mK (.int 1))])])) (mTE (mPure opNotIn [.ex (mPure opTup (exs [mVar 4, mVar 9])), .ex (mPure opIx [.sl 0, .ex (mK (.int 1))])]))) (mRet (mK (.none))) (mSkip))
    (mSeq (mSet 5 (mIndex (mLc ⟨[.sl 8], itSeq⟩ (.nm 11) (mYes) (mPure opIx [.sl 11, .ex (mK (.int 0))]) [11]) (mVar 4)))
    (mSeq (mCond (mTE (mPure opLt [.ex (mPure opIx [.ex (mPure opIx [.sl 2, .ex (mK (.int 1))]), .sl 5]), .ex (mPure opIx [.sl 1, .sl 3])])) (mRet (mK (.none))) (mSkip))
    (mSeq (mSet 6 (mPure opLst (exs [])))
    (mSeq (mFor ⟨[.ex (mVar 8)], itEnum⟩ (.tp [.nm 10, .nm 11]) (mSeq (mSet 12 (mPure opSum [.ex (mLc ⟨[.ex (mPure opIx [.sl 0, .ex (mK (.int 2))])], itSeq⟩ (.nm 14) (mTE (mPure opEq [.ex (mPure opSlHi [.sl 14, .ex (mK (.int 2))]), .ex (mPure opTup (exs [mVar 9, mPure opIx [.sl 11, .ex (mK (.int 0))]]))])) (mPure opIx [.sl 14, .ex (mK (.int 2))]) [14])]))
    (mSeq (mSet 13 (mPure opMin2 [.ex (mPure opIx [.sl 11, .ex (mK (.int 1))]), .ex (mPure opAdd [.ex (mPure opIx [.ex (mPure opIx [.sl 2, .ex (mK (.int 1))]), .sl 10]), .sl 12])]))
    (mAppend 6 (mIf (mTE (mPure opEq [.sl 10, .sl 5])) (mPure opMax2 [.ex (mK (.int 0)), .ex (mPure opSub [.sl 13, .ex (mPure opIx [.sl 11, .ex (mK (.int 2))])])]) (mVar 13))))))
    (mSeq (mSet 7 (mPure opTuple [.ex (mLc ⟨[.ex (mPure opIx [.sl 2, .ex (mK (.int 0))])], itEnum⟩ (.tp [.nm 10, .nm 15]) (mYes) (mIf (mTE (mPure opEq [.sl 10, .sl 3])) (mVar 4) (mVar 15)) [10, 15])]))
    (mRet (mPure opTup (exs [mVar 7, mPure opTuple [.sl 6]])))))))))
noncomputable def f_law_come : List Da → Rs Sl := fnP 11 m_law_come

noncomputable def m_law_nexts : MS := mSeq (mSet 3 (mPure opLst (exs [])))
    (mSeq (mFor ⟨[.ex (mPure opLen [.sl 1])], itRng⟩ (.nm 4) (mFor ⟨[.ex (mPure opIx [.sl 0, .ex (mK (.int 0))])], itSeq⟩ (.nm 5) (mSeq (mSet 6 (mCall (f_law_come) [.sl 0, .sl 1, .sl 2, .sl 4, .ex (mPure opIx [.sl 5, .ex (mK (.int 0))])]))
    (mCond (mTE (mPure opIsNot [.sl 6, .ex (mK (.none))])) (mAppend 3 (mPure opTup (exs [mVar 4, mPure opIx [.sl 5, .ex (mK (.int 0))], mVar 6]))) (mSkip)))))
    (mRet (mMove 3)))
noncomputable def f_law_nexts : List Da → Rs Sl := fnP 4 m_law_nexts

noncomputable def m_law_gone : MS := mSeq (mFor ⟨[.ex (mVar 3)], itEnum⟩ (.tp [.nm 4, .tp [.nm 5, .nm 6]]) (mSeq (mSet 2 (mCall (f_law_come) [.sl 0, .sl 1, .sl 2, .sl 5, .sl 6]))
    (mCond (mTE (mPure opIs [.sl 2, .ex (mK (.none))])) (mRet (mMove 4)) (mSkip))))
    (mRet (mMove 2))
noncomputable def f_law_gone : List Da → Rs Sl := fnP 3 m_law_gone

noncomputable def m_law_row : MS := mSeq (mSet 5 (mPure opLst (exs [])))
    (mSeq (mFor ⟨[.ex (mCallD (f_law_pick) 0 [.ex (mPure opAdd [.sl 4, .ex (mK (.int 1))])])], itRng⟩ (.nm 6) (mSeq (mSet 7 (mLc ⟨[.ex (mCall (f_law_nexts) [.sl 1, .sl 2, .sl 3])], itSeq⟩ (.nm 10) (mYes) (mPure opSlHi [.sl 10, .ex (mK (.int 2))]) [10]))
    (mSeq (mCond (mOr (mTE (mPure opEq [.sl 7, .ex (mPure opLst (exs []))])) (mTE (mPure opEq [.ex (mCallD (f_law_pick) 0 [.ex (mK (.int 15))]), .ex (mK (.int 0))]))) (mSet 7 (mPure opLst (exs [mPure opTup (exs [mCallD (f_law_pick) 0 [.ex (mPure opLen [.sl 2])], mPure opIx [.ex (mCallD (f_law_one) 0 [.ex (mPure opIx [.sl 1, .ex (mK (.int 0))])]), .ex (mK (.int 0))]])]))) (mSkip))
    (mSeq (mSet 8 (mCallD (f_law_one) 0 [.sl 7]))
    (mSeq (mSet 9 (mCall (f_law_come) [.sl 1, .sl 2, .sl 3, .ex (mPure opIx [.sl 8, .ex (mK (.int 0))]), .ex (mPure opIx [.sl 8, .ex (mK (.int 1))])]))
    (mSeq (mSet 3 (mIf (mTE (mPure opIsNot [.sl 9, .ex (mK (.none))])) (mVar 9) (mVar 3)))
    (mAppend 5 (mVar 8))))))))
    (mRet (mMove 5)))
noncomputable def f_law_row : List Da → List Da → Rs (Sl × List Da) := fnD 6 m_law_row

noncomputable def m_along : MS := mSeq (mSet 2 (mPure opList [.sl 0]))
    (mSeq (mSet 3 (mPure opLst (exs [])))
    (mSeq (mFor ⟨[.ex (mVar 1)], itSeq⟩ (.tp [.nm 4, .nm 5]) (mSeq (mAppend 3 (mPure opTup (exs [mPure opIx [.sl 2, .sl 4], mVar 5])))
    (mPut 2 (mVar 4) (mVar 5))))
    (mRet (mMove 3))))
noncomputable def f_along : List Da → Rs Sl := fnP 4 m_along

noncomputable def m_law_aimless : MS := mSeq (mPar [6, 7] [mPure opList [.sl 3], mPure opLst (exs [])])
    (mSeq (mFor ⟨[.ex (mCallD (f_law_pick) 0 [.ex (mPure opAdd [.sl 4, .ex (mK (.int 1))])])], itRng⟩ (.nm 5) (mSeq (mSet 8 (mCallD (f_law_pick) 0 [.ex (mPure opLen [.sl 2])]))
    (mSeq (mSet 9 (mPure opLst (exs [])))
    (mSeq (mFor ⟨[.ex (mPure opIx [.sl 1, .ex (mK (.int 1))])], itSeq⟩ (.tp [.nm 11, .nm 12]) (mSeq (mSet 9 (mPure opAdd [.sl 9, .ex (mPure opMul [.ex (mPure opLst (exs [mVar 12])), .ex (mPure opInt [.ex (mPure opEq [.sl 11, .ex (mPure opIx [.sl 6, .sl 8])])])])]))
    (mSet 9 (mPure opAdd [.sl 9, .ex (mPure opMul [.ex (mPure opLst (exs [mVar 11])), .ex (mPure opInt [.ex (mPure opEq [.sl 12, .ex (mPure opIx [.sl 6, .sl 8])])])])]))))
    (mSeq (mSet 9 (mIf (mTE (mPure opGt [.ex (mCallD (f_law_pick) 0 [.ex (mK (.int 30))]), .ex (mK (.int 0))])) (mVar 9) (mPure opLst (exs []))))
    (mSeq (mSet 10 (mCallD (f_law_one) 0 [.ex (mPure opAdd [.sl 9, .ex (mPure opMul [.ex (mPure opLst (exs [mPure opIx [.ex (mCallD (f_law_one) 0 [.ex (mPure opIx [.sl 1, .ex (mK (.int 0))])]), .ex (mK (.int 0))]])), .ex (mPure opInt [.ex (mPure opEq [.sl 9, .ex (mPure opLst (exs []))])])])])]))
    (mSeq (mAppend 7 (mPure opTup (exs [mVar 8, mVar 10])))
    (mPut 6 (mVar 8) (mVar 10)))))))))
    (mRet (mMove 7)))
noncomputable def f_law_aimless : List Da → List Da → Rs (Sl × List Da) := fnD 8 m_law_aimless

noncomputable def m_law_all_sizes : MS := mSeq (mSet 1 (mPure opLst (exs [mPure opTup (exs [])])))
    (mSeq (mFor ⟨[.ex (mPure opIx [.sl 0, .ex (mK (.int 0))])], itSeq⟩ (.nm 2) (mSeq (mSet 3 (mPure opLst (exs [])))
    (mSeq (mFor ⟨[.ex (mVar 1)], itSeq⟩ (.nm 4) (mSet 3 (mPure opAdd [.sl 3, .ex (mLc ⟨[.ex (mPure opAdd [.ex (mPure opIx [.sl 2, .ex (mK (.int 1))]), .ex (mK (.int 1))])], itRng⟩ (.nm 5) (mYes) (mPure opAdd [.sl 4, .ex (mPure opTup (exs [mVar 5]))]) [5])])))
    (mSet 1 (mVar 3)))))
    (mRet (mMove 1)))
noncomputable def f_law_all_sizes : List Da → Rs Sl := fnP 5 m_law_all_sizes

noncomputable def m_law_enough : MS := mRet (mAndV (mPure opIsNot [.sl 1, .ex (mK (.none))]) (mPure opEq [.ex (mLc ⟨[.sl 0], itEnum⟩ (.tp [.nm 2, .nm 3]) (mTE (mPure opLt [.sl 3, .ex (mPure opIx [.sl 1, .sl 2])])) (mVar 2) [2, 3]), .ex (mPure opLst (exs []))]))
noncomputable def f_law_enough : List Da → Rs Sl := fnP 2 m_law_enough

noncomputable def m_law_can : MS := mRet (mPure (opIsi "tuple") [.ex (mCall (f_law_gone) [.sl 0, .sl 1, .ex (mPure opTup (exs [mVar 2, mVar 3])), .sl 4])])
noncomputable def f_law_can : List Da → Rs Sl := fnP 0 m_law_can

noncomputable def m_law_eased : MS := mSeq (mAsg (.tp [.nm 9, .nm 10, .nm 11]) (mVar 1))
    (mSeq (mAsg (.tp [.nm 12, .nm 13, .nm 14]) (mVar 9))
    (mSeq (mSet 2 (mLc ⟨[.sl 12], itSeq⟩ (.nm 17) (mYes) (mPure opIx [.sl 17, .ex (mK (.int 0))]) [17]))
    (mSeq (mSet 3 (mPure opTuple [.ex (mLc ⟨[.sl 12, .ex (mPure opIx [.sl 11, .ex (mK (.int 1))])], itZip⟩ (.tp [.nm 17, .nm 18]) (mYes) (mPure opMin2 [.ex (mPure opIx [.sl 17, .ex (mK (.int 1))]), .ex (mPure opAdd [.sl 18, .ex (mCallD (f_law_pick) 0 [.ex (mK (.int 3))])])]) [17, 18])]))
    (mSeq (mSet 4 (mPure opTuple [.ex (mLc ⟨[.sl 10], itSeq⟩ (.nm 18) (mYes) (mPure opMax2 [.ex (mK (.int 0)), .ex (mPure opSub [.sl 18, .ex (mCallD (f_law_pick) 0 [.ex (mK (.int 2))])])]) [18])]))
    (mSeq (mSet 5 (mPure opTuple [.ex (mLc ⟨[.sl 12], itSeq⟩ (.tp [.nm 19, .nm 20, .nm 21]) (mYes) (mPure opTup (exs [mVar 19, mVar 20, mPure opMax2 [.ex (mK (.int 0)), .ex (mPure opSub [.sl 21, .ex (mCallD (f_law_pick) 0 [.ex (mK (.int 2))])])]])) [19, 20, 21])]))
    (mSeq (mSet 6 (mPure opTuple [.ex (mLc ⟨[.sl 14], itSeq⟩ (.tp [.nm 22, .nm 19, .nm 23]) (mYes) (mPure opTup (exs [mVar 22, mVar 19, mPure opMin2 [.ex (mK (.int 9)), .ex (mPure opAdd [.sl 23, .ex (mK (.int 1))])]])) [22, 19, 23])]))
    (mSeq (mSet 7 (mPure opLst (exs [])))
    (mSeq (mFor ⟨[.ex (mVar 2)], itEnum⟩ (.tp [.nm 15, .nm 16]) (mSet 7 (mPure opAdd [.sl 7, .ex (mLc ⟨[.ex (mPure opSlLo [.sl 2, .ex (mPure opAdd [.sl 15, .ex (mK (.int 1))])])], itSeq⟩ (.nm 24) (mYes) (mPure opTup (exs [mVar 16, mVar 24])) [24])])))
    (mSeq (mSet 8 (mPure opLst (exs [mPure opTup (exs [mVar 9, mVar 10, mPure opTup (exs [mPure opIx [.sl 11, .ex (mK (.int 0))], mVar 3])]), mPure opTup (exs [mVar 9, mVar 4, mVar 11]), mPure opTup (exs [mPure opTup (exs [mVar 5, mVar 13, mVar 14]), mVar 10, mVar 11])])))
    (mSeq (mSet 8 (mPure opAdd [.sl 8, .ex (mPure opLst (exs [mPure opTup (exs [mPure opTup (exs [mVar 12, mVar 13, mVar 6]), mVar 10, mVar 11]), mPure opTup (exs [mPure opTup (exs [mVar 12, mPure opTuple [.sl 7], mVar 14]), mVar 10, mVar 11])]))]))
    (mRet (mPure opAdd [.sl 8, .ex (mPure opLst (exs [mPure opTup (exs [mPure opTup (exs [mVar 5, mPure opTuple [.sl 7], mVar 6]), mVar 4, mPure opTup (exs [mPure opIx [.sl 11, .ex (mK (.int 0))], mVar 3])])]))]))))))))))))
noncomputable def f_law_eased : List Da → List Da → Rs (Sl × List Da) := fnD 23 m_law_eased

noncomputable def m_kept_lines : MS := mRet (mDc ⟨[.sl 2], itSeq⟩ (.nm 3) (mYes) (mVar 3) (mLc ⟨[.ex (mCall (f_nexts) [.sl 0, .sl 1, .sl 3])], itSeq⟩ (.tp [.nm 4, .nm 5, .nm 6]) (mYes) (mVar 6) [4, 5, 6]) [3])
noncomputable def f_kept_lines : List Da → Rs Sl := fnP 4 m_kept_lines

noncomputable def m_is_lasso : MS := mSeq (mDo (mCall (f_need_stand) [.sl 0, .sl 1, .sl 2]))
    (mSeq (mCond (mOr (mNot (mTE (mPure (opIsi "tuple") [.sl 3]))) (mOr (mTE (mPure opNe [.ex (mPure opLen [.sl 3]), .ex (mK (.int 2))])) (mNot (mTE (mPure opAll [.ex (mLc ⟨[.sl 3], itSeq⟩ (.nm 5) (mYes) (mCall (f_is_row) [.sl 0, .sl 1, .sl 5]) [5])]))))) (mRet (mK (.bool false))) (mSkip))
    (mSeq (mAsg (.tp [.nm 5, .nm 6]) (mVar 3))
    (mSeq (mSet 4 (mCall (f_walked) [.sl 0, .sl 1, .sl 2, .ex (mPure opAdd [.sl 5, .sl 6])]))
    (mSeq (mCond (mOr (mTE (mPure opEq [.sl 6, .ex (mPure opLst (exs []))])) (mTE (mPure opNe [.ex (mPure opLen [.sl 4]), .ex (mPure opAdd [.ex (mPure opAdd [.ex (mPure opLen [.sl 5]), .ex (mPure opLen [.sl 6])]), .ex (mK (.int 1))])]))) (mRet (mK (.bool false))) (mSkip))
    (mSeq (mPar [7, 8] [mPure opIx [.sl 4, .ex (mPure opLen [.sl 5])], mPure opIx [.sl 4, .ex (mPure opNeg [.ex (mK (.int 1))])]])
    (mRet (mAndV (mPure opEq [.ex (mPure opIx [.sl 7, .ex (mK (.int 0))]), .ex (mPure opIx [.sl 8, .ex (mK (.int 0))])]) (mPure opAll [.ex (mLc ⟨[.ex (mPure opIx [.sl 7, .ex (mK (.int 1))]), .ex (mPure opIx [.sl 8, .ex (mK (.int 1))])], itZip⟩ (.tp [.nm 9, .nm 10]) (mYes) (mPure opLe [.sl 9, .sl 10]) [9, 10])]))))))))
noncomputable def f_is_lasso : List Da → Rs Sl := fnP 7 m_is_lasso

noncomputable def m_law_are_rows : MS := mSeq (mSet 3 (mLc ⟨[.ex (mPure opIx [.sl 0, .ex (mK (.int 0))])], itSeq⟩ (.nm 5) (mYes) (mPure opIx [.sl 5, .ex (mK (.int 0))]) [5]))
    (mSeq (mCond (mNot (mTE (mPure (opIsi "list") [.sl 2]))) (mRet (mK (.bool false))) (mSkip))
    (mSeq (mFor ⟨[.ex (mVar 2)], itSeq⟩ (.nm 4) (mSeq (mCond (mOr (mNot (mTE (mPure (opIsi "tuple") [.sl 4]))) (mOr (mTE (mPure opNe [.ex (mPure opLen [.sl 4]), .ex (mK (.int 2))])) (mOr (mNot (mTE (mCall (f_law_whole) [.ex (mPure opIx [.sl 4, .ex (mK (.int 0))])]))) (mNot (mTE (mPure (opIsi "str") [.ex (mPure opIx [.sl 4, .ex (mK (.int 1))])])))))) (mRet (mK (.bool false))) (mSkip))
    (mCond (mOr (mNot (mTE (mChain opLe opLt (.ex (mK (.int 0))) (.ex (mPure opIx [.sl 4, .ex (mK (.int 0))])) (.ex (mPure opLen [.sl 1]))))) (mTE (mPure opNotIn [.ex (mPure opIx [.sl 4, .ex (mK (.int 1))]), .sl 3]))) (mRet (mK (.bool false))) (mSkip))))
    (mRet (mK (.bool true)))))
noncomputable def f_law_are_rows : List Da → Rs Sl := fnP 3 m_law_are_rows

noncomputable def m_law_is_lasso : MS := mSeq (mCond (mOr (mNot (mTE (mPure (opIsi "tuple") [.sl 3]))) (mOr (mTE (mPure opNe [.ex (mPure opLen [.sl 3]), .ex (mK (.int 2))])) (mNot (mTE (mCall (f_law_are_rows) [.sl 0, .sl 1, .ex (mPure opIx [.sl 3, .ex (mK (.int 0))])]))))) (mRet (mK (.bool false))) (mSkip))
    (mSeq (mCond (mOr (mNot (mTE (mCall (f_law_are_rows) [.sl 0, .sl 1, .ex (mPure opIx [.sl 3, .ex (mK (.int 1))])]))) (mTE (mPure opEq [.ex (mPure opIx [.sl 3, .ex (mK (.int 1))]), .ex (mPure opLst (exs []))]))) (mRet (mK (.bool false))) (mSkip))
    (mSeq (mSet 4 (mCall (f_law_gone) [.sl 0, .sl 1, .sl 2, .ex (mPure opIx [.sl 3, .ex (mK (.int 0))])]))
    (mSeq (mCond (mTE (mPure (opIsi "int") [.sl 4])) (mRet (mK (.bool false))) (mSkip))
    (mSeq (mSet 5 (mCall (f_law_gone) [.sl 0, .sl 1, .sl 4, .ex (mPure opIx [.sl 3, .ex (mK (.int 1))])]))
    (mSeq (mCond (mOr (mTE (mPure (opIsi "int") [.sl 5])) (mTE (mPure opNe [.ex (mPure opIx [.sl 4, .ex (mK (.int 0))]), .ex (mPure opIx [.sl 5, .ex (mK (.int 0))])]))) (mRet (mK (.bool false))) (mSkip))
    (mRet (mPure opEq [.ex (mLc ⟨[.ex (mPure opIx [.sl 5, .ex (mK (.int 1))])], itEnum⟩ (.tp [.nm 6, .nm 7]) (mTE (mPure opLt [.sl 7, .ex (mPure opIx [.ex (mPure opIx [.sl 4, .ex (mK (.int 1))]), .sl 6])])) (mVar 6) [6, 7]), .ex (mPure opLst (exs []))])))))))
noncomputable def f_law_is_lasso : List Da → Rs Sl := fnP 4 m_law_is_lasso

noncomputable def m_need_wish : MS := mSeq (mSet 3 (mAndV (mPure (opIsi "tuple") [.sl 2]) (mAndV (mPure opNe [.sl 2, .ex (mPure opTup (exs []))]) (mPure opAll [.ex (mLc ⟨[.sl 2], itSeq⟩ (.nm 4) (mYes) (mCall (f_is_coming) [.sl 0, .sl 1, .sl 4]) [4])]))))
    (mCond (mOr (mNot (mTE (mVar 3))) (mNot (mTE (mCall (f_is_rising) [.ex (mLc ⟨[.sl 2], itSeq⟩ (.nm 4) (mYes) (mPure opIx [.sl 4, .ex (mK (.int 0))]) [4])])))) (mNever) (mSkip))
noncomputable def f_need_wish : List Da → Rs Sl := fnP 2 m_need_wish

noncomputable def m_is_met : MS := mRet (mPure opAll [.ex (mLc ⟨[.sl 1], itSeq⟩ (.tp [.nm 2, .nm 3]) (mYes) (mPure opEq [.ex (mPure opIx [.ex (mPure opIx [.sl 0, .ex (mK (.int 0))]), .sl 2]), .sl 3]) [2, 3])])
noncomputable def f_is_met : List Da → Rs Sl := fnP 2 m_is_met

noncomputable def m_law_met : MS := mRet (mPure opEq [.ex (mLc ⟨[.sl 1], itSeq⟩ (.nm 2) (mTE (mPure opNe [.ex (mPure opIx [.ex (mPure opIx [.sl 0, .ex (mK (.int 0))]), .ex (mPure opIx [.sl 2, .ex (mK (.int 0))])]), .ex (mPure opIx [.sl 2, .ex (mK (.int 1))])])) (mVar 2) [2]), .ex (mPure opLst (exs []))])
noncomputable def f_law_met : List Da → Rs Sl := fnP 1 m_law_met

noncomputable def m_law_wish : MS := mSeq (mSet 3 (mLc ⟨[.ex (mPure opLen [.sl 2])], itRng⟩ (.nm 4) (mYes) (mPure opTup (exs [mVar 4, mPure opIx [.ex (mCallD (f_law_one) 0 [.ex (mPure opIx [.sl 1, .ex (mK (.int 0))])]), .ex (mK (.int 0))]])) [4]))
    (mRet (mIf (mTE (mPure opEq [.ex (mCallD (f_law_pick) 0 [.ex (mK (.int 2))]), .ex (mK (.int 0))])) (mPure opTuple [.sl 3]) (mPure opTup (exs [mCallD (f_law_one) 0 [.sl 3]]))))
noncomputable def f_law_wish : List Da → List Da → Rs (Sl × List Da) := fnD 2 m_law_wish

noncomputable def m_law_orders : MS := mSeq (mSet 1 (mPure opLst (exs [mPure opLst (exs [])])))
    (mSeq (mFor ⟨[.ex (mVar 0)], itSeq⟩ (.nm 2) (mSeq (mSet 3 (mPure opLst (exs [])))
    (mSeq (mFor ⟨[.ex (mVar 1)], itSeq⟩ (.nm 4) (mFor ⟨[.ex (mPure opAdd [.ex (mPure opLen [.sl 4]), .ex (mK (.int 1))])], itRng⟩ (.nm 5) (mAppend 3 (mPure opAdd [.ex (mPure opAdd [.ex (mPure opSlHi [.sl 4, .sl 5]), .ex (mPure opLst (exs [mVar 2]))]), .ex (mPure opSlLo [.sl 4, .sl 5])]))))
    (mSeq (mSet 3 (mPure opSorted [.sl 3]))
    (mSet 1 (mLc ⟨[.sl 3], itEnum⟩ (.tp [.nm 6, .nm 4]) (mOr (mTE (mPure opEq [.sl 6, .ex (mK (.int 0))])) (mTE (mPure opNe [.sl 4, .ex (mPure opIx [.sl 3, .ex (mPure opSub [.sl 6, .ex (mK (.int 1))])])]))) (mVar 4) [6, 4]))))))
    (mRet (mMove 1)))
noncomputable def f_law_orders : List Da → Rs Sl := fnP 6 m_law_orders

noncomputable def m_changed : MS := mSeq (mSet 4 (mPure opMin2 [.ex (mPure opIx [.sl 0, .ex (mK (.int 1))]), .ex (mPure opAdd [.sl 1, .sl 2])]))
    (mRet (mIf (mTE (mVar 3)) (mPure opMax2 [.ex (mK (.int 0)), .ex (mPure opSub [.sl 4, .ex (mPure opIx [.sl 0, .ex (mK (.int 2))])])]) (mVar 4)))
noncomputable def f_changed : List Da → Rs Sl := fnP 1 m_changed

noncomputable def m_law_all_stands : MS := mSeq (mSet 2 (mLc ⟨[.ex (mPure opIx [.sl 0, .ex (mK (.int 0))])], itSeq⟩ (.nm 4) (mYes) (mPure opIx [.sl 4, .ex (mK (.int 0))]) [4]))
    (mSeq (mPar [7, 8] [mPure opLst (exs [mPure opTup (exs [])]), mPure opLst (exs [mPure opTup (exs [])])])
    (mSeq (mFor ⟨[.ex (mVar 1)], itSeq⟩ (.nm 3) (mSeq (mSet 9 (mPure opLst (exs [])))
    (mSeq (mFor ⟨[.ex (mVar 7)], itSeq⟩ (.nm 6) (mSet 9 (mPure opAdd [.sl 9, .ex (mLc ⟨[.sl 2], itSeq⟩ (.nm 10) (mYes) (mPure opAdd [.sl 6, .ex (mPure opTup (exs [mVar 10]))]) [10])])))
    (mSet 7 (mVar 9)))))
    (mSeq (mFor ⟨[.ex (mPure opIx [.sl 0, .ex (mK (.int 0))])], itSeq⟩ (.nm 4) (mSeq (mSet 9 (mPure opLst (exs [])))
    (mSeq (mFor ⟨[.ex (mVar 8)], itSeq⟩ (.nm 6) (mSet 9 (mPure opAdd [.sl 9, .ex (mLc ⟨[.ex (mPure opAdd [.ex (mPure opIx [.sl 4, .ex (mK (.int 1))]), .ex (mK (.int 1))])], itRng⟩ (.nm 11) (mYes) (mPure opAdd [.sl 6, .ex (mPure opTup (exs [mVar 11]))]) [11])])))
    (mSet 8 (mVar 9)))))
    (mSeq (mSet 5 (mPure opLst (exs [])))
    (mSeq (mFor ⟨[.ex (mVar 7)], itSeq⟩ (.nm 6) (mSet 5 (mPure opAdd [.sl 5, .ex (mLc ⟨[.sl 8], itSeq⟩ (.nm 3) (mYes) (mPure opTup (exs [mVar 6, mVar 3])) [3])])))
    (mRet (mMove 5)))))))
noncomputable def f_law_all_stands : List Da → Rs Sl := fnP 10 m_law_all_stands

noncomputable def m_need_both : MS := mSeq (mDo (mCall (f_need_house) [.sl 0]))
    (mSeq (mDo (mCall (f_need_house) [.sl 1]))
    (mSeq (mDo (mCall (f_need_places) [.sl 0, .sl 2, .sl 3]))
    (mCond (mTE (mPure opNe [.ex (mCall (f_names_of) [.sl 0]), .ex (mCall (f_names_of) [.sl 1])])) (mNever) (mSkip))))
noncomputable def f_need_both : List Da → Rs Sl := fnP 0 m_need_both

noncomputable def m_by_comings : MS := mRet (mDc ⟨[.ex (mCall (f_nexts) [.sl 0, .sl 1, .sl 2])], itSeq⟩ (.nm 3) (mYes) (mPure opSlHi [.sl 3, .ex (mK (.int 2))]) (mPure opIx [.sl 3, .ex (mK (.int 2))]) [3])
noncomputable def f_by_comings : List Da → Rs Sl := fnP 1 m_by_comings

noncomputable def m_law_full : MS := mRet (mPure opTup (exs [mVar 1, mPure opTuple [.ex (mLc ⟨[.ex (mPure opIx [.sl 0, .ex (mK (.int 0))])], itSeq⟩ (.nm 2) (mYes) (mPure opIx [.sl 2, .ex (mK (.int 1))]) [2])]]))
noncomputable def f_law_full : List Da → Rs Sl := fnP 1 m_law_full
end Mi
set_option Elab.async false
set_option linter.all false
set_option maxRecDepth 100000
set_option autoImplicit false
/-! the defs that all laws have alike, over data (printed by gen.py) -/
namespace Mi
open PySem PySem.Spec PyProof.Rows L2 Sh
noncomputable def m_needs : MS := mSeq (mDo (mCall (f_need_places) [.sl 0, .sl 1, .sl 2]))
    (mSeq (mDo (mCall (f_need_row) [.sl 0, .sl 1, .sl 3]))
    (mSeq (mSet 4 (mCall (f_along) [.sl 2, .sl 3]))
    (mSeq (mCond (mNot (mTE (mPure opAll [.ex (mLc ⟨[.sl 4], itSeq⟩ (.tp [.nm 9, .nm 7]) (mYes) (mCall (f_are_near) [.sl 0, .sl 9, .sl 7]) [9, 7])]))) (mRet (mK (.none))) (mSkip))
    (mSeq (mSet 5 (mDc ⟨[.ex (mCall (f_names_of) [.sl 0])], itSeq⟩ (.nm 7) (mYes) (mVar 7) (mK (.int 0)) [7]))
    (mSeq (mSet 6 (mDc ⟨[.ex (mPure opIx [.sl 0, .ex (mK (.int 0))])], itSeq⟩ (.nm 8) (mYes) (mPure opIx [.sl 8, .ex (mK (.int 0))]) (mVar 8) [8]))
    (mSeq (mFor ⟨[.ex (mPure revd [.ex (mPure opListZip [.sl 4, .sl 3])])], itSeq⟩ (.tp [.tp [.nm 9, .nm 7], .tp [.nm 10, .nm 11]]) (mSeq (mCond (mTE (mPure opGt [.ex (mPure opIxD [.sl 5, .sl 7]), .ex (mK (.int 0))])) (mAugD 5 (mVar 7) (mPure opIx [.ex (mPure opIxD [.sl 6, .sl 7]), .ex (mK (.int 2))])) (mSkip))
    (mSeq (mFor ⟨[.ex (mPure opIx [.sl 0, .ex (mK (.int 2))])], itSeq⟩ (.tp [.nm 12, .nm 13, .nm 14]) (mCond (mTE (mPure opEq [.sl 12, .sl 9])) (mSeq (mCond (mTE (mPure opGt [.ex (mPure opIxD [.sl 5, .sl 13]), .ex (mPure opIx [.ex (mPure opIxD [.sl 6, .sl 13]), .ex (mK (.int 1))])])) (mRet (mK (.none))) (mSkip))
    (mPutD 5 (mVar 13) (mPure opMax2 [.ex (mK (.int 0)), .ex (mPure opSub [.ex (mPure opIxD [.sl 5, .sl 13]), .sl 14])]))) (mSkip)))
    (mSeq (mPutD 5 (mVar 7) (mPure opMax2 [.ex (mPure opIxD [.sl 5, .sl 7]), .ex (mPure opIx [.sl 1, .sl 10])]))
    (mCond (mTE (mPure opGt [.ex (mPure opIxD [.sl 5, .sl 7]), .ex (mPure opIx [.ex (mPure opIxD [.sl 6, .sl 7]), .ex (mK (.int 1))])])) (mRet (mK (.none))) (mSkip))))))
    (mRet (mPure opTuple [.ex (mLc ⟨[.ex (mCall (f_names_of) [.sl 0])], itSeq⟩ (.nm 7) (mYes) (mPure opIxD [.sl 5, .sl 7]) [7])]))))))))
noncomputable def f_needs : List Da → Rs Sl := fnP 11 m_needs
end Mi
set_option Elab.async false
set_option linter.all false
set_option maxRecDepth 100000
set_option autoImplicit false
/-! houses.py over data -/
namespace Mi
open PySem PySem.Spec PyProof.Rows L2 Sh

@[simp] theorem atI_0 {α : Type} (a : α) (l : List α) : atI (a :: l) 0 = some a := Sh.atI_nat (a :: l) 0
@[simp] theorem atI_1 {α : Type} (a b : α) (l : List α) : atI (a :: b :: l) 1 = some b := Sh.atI_nat (a :: b :: l) 1
@[simp] theorem atI_2 {α : Type} (a b c : α) (l : List α) : atI (a :: b :: c :: l) 2 = some c := Sh.atI_nat (a :: b :: c :: l) 2
@[simp] theorem cut_hi2 {α : Type} (a b : α) (l : List α) : cutD (a :: b :: l) none (some 2) = [a, b] := by
  have := Sh.cutD_hi (a :: b :: l) 2
  simpa using this
@[simp] theorem cut_lo1 {α : Type} (l : List α) : cutD l (some 1) none = l.drop 1 := Sh.cutD_lo l 1
mutual
/-- what is no dict, of few parts -/
def Wf (l : Nat) : Da → Bool
  | .none => true
  | .bool _ => true
  | .int i => decide (i.natAbs ≤ 2 ^ 200 + l)
  | .str z => decide (z.length ≤ l)
  | .list xs => decide (xs.length ≤ l) && WfAll l xs
  | .tuple xs => decide (xs.length ≤ l) && WfAll l xs
  | .dict _ => false
def WfAll (l : Nat) : List Da → Bool
  | [] => true
  | x :: xs => Wf l x && WfAll l xs
end
theorem WfAll_iff {l : Nat} : ∀ {xs : List Da}, WfAll l xs = true ↔ ∀ x ∈ xs, Wf l x = true
  | [] => by simp [WfAll]
  | x :: xs => by simp [WfAll, WfAll_iff (xs := xs)]
theorem depthAll_le {n : Nat} : ∀ {xs : List Da}, PyData.depthAll xs ≤ n ↔ ∀ x ∈ xs, x.depth ≤ n
  | [] => by simp [PyData.depthAll]
  | x :: xs => by
    rw [PyData.depthAll]
    have := depthAll_le (n := n) (xs := xs)
    simp only [List.mem_cons, forall_eq_or_imp]
    rw [← this]
    omega
theorem plainAll_iff : ∀ {xs : List Da}, PyData.plainAll xs = true ↔ ∀ x ∈ xs, x.plain = true
  | [] => by simp [PyData.plainAll]
  | x :: xs => by
    rw [PyData.plainAll, Bool.and_eq_true, plainAll_iff (xs := xs)]
    simp
mutual
theorem Wf.plain {l : Nat} : ∀ {d : Da}, Wf l d = true → d.plain = true
  | .none, _ => rfl
  | .bool _, _ => rfl
  | .int _, _ => rfl
  | .str _, _ => rfl
  | .list xs, h => by
    rw [Wf, Bool.and_eq_true] at h
    rw [PyData.plain]
    exact WfAll.plain h.2
  | .tuple xs, h => by
    rw [Wf, Bool.and_eq_true] at h
    rw [PyData.plain]
    exact WfAll.plain h.2
  | .dict _, h => by simp [Wf] at h
theorem WfAll.plain {l : Nat} : ∀ {xs : List Da}, WfAll l xs = true → PyData.plainAll xs = true
  | [], _ => rfl
  | x :: xs, h => by
    rw [WfAll, Bool.and_eq_true] at h
    rw [PyData.plainAll, Wf.plain h.1, WfAll.plain h.2]
    rfl
end
theorem Wf.tup {l : Nat} {xs : List Da} (h : Wf l (.tuple xs) = true) : xs.length ≤ l ∧ ∀ x ∈ xs, Wf l x = true := by
  rw [Wf, Bool.and_eq_true, decide_eq_true_eq] at h
  exact ⟨h.1, WfAll_iff.mp h.2⟩
theorem Wf.lst {l : Nat} {xs : List Da} (h : Wf l (.list xs) = true) : xs.length ≤ l ∧ ∀ x ∈ xs, Wf l x = true := by
  rw [Wf, Bool.and_eq_true, decide_eq_true_eq] at h
  exact ⟨h.1, WfAll_iff.mp h.2⟩
theorem Wf.str {l : Nat} {z : Str} (h : Wf l (.str z) = true) : z.length ≤ l := by simpa [Wf] using h

/-! ### is_from, is_name -/
def isFrom (d : Da) (lo hi : Int) : Bool := match d with
  | .int i => decide (lo ≤ i) && decide (i ≤ hi)
  | _ => false
theorem e_is_from (d : Da) (lo hi : Int) : f_is_from [d, .int lo, .int hi] = .ok (.fz (.bool (isFrom d lo hi))) := by
  unfold f_is_from m_is_from
  rw [fnP_eq]
  cases d <;> simp [isFrom, PyData.isInt, PyData.isBool]
  rename_i i
  by_cases h1 : lo ≤ i <;> by_cases h2 : i ≤ hi <;> simp [h1, h2]
def letters : List Nat := ("abcdefghijklmnopqrstuvwxyz" : Str).cps.toList
def isName1 : Da → Bool
  | .str ⟨#[c]⟩ => decide (c ∈ letters)
  | _ => false
def isName : Da → Bool
  | .str z => decide ((1 : Int) ≤ z.length) && decide ((z.length : Int) ≤ 8) && z.cps.toList.all fun c => decide (c ∈ letters)
  | _ => false
theorem e_is_name (d : Da) {l : Nat} (hl : l ≤ 100000) (hd : Wf l d = true) : f_is_name [d] = .ok (.fz (.bool (isName d))) := by
  unfold f_is_name m_is_name
  rw [fnP_eq]
  cases d with
  | str z =>
    have hz := Wf.str hd
    have hz' : z.length ≤ 1000000 := by omega
    have hz2 : z.cps.size ≤ 1000000 := hz'
    have hlc : mLc ⟨[.sl 0], itSeq⟩ (.nm 1) mYes (mPure opIn [.sl 1, .ex (mK (.str "abcdefghijklmnopqrstuvwxyz"))]) [1] [.fz (.str z), .no] = .ok (.ow (.list ((z.cps.toList.map fun c => PyData.str ⟨#[c]⟩).map fun d => .bool (isName1 d))), [.fz (.str z), .no]) := by
      refine Sh.lc_map (fun d => .bool (isName1 d)) rfl rfl rfl rfl rfl rfl rfl (by simpa using hz2) fun d hd => ?_
      simp only [List.mem_map] at hd
      obtain ⟨c, hc, rfl⟩ := hd
      exact ⟨_, .fz (.bool (isName1 (.str ⟨#[c]⟩))), _, rfl, rfl, rfl, rfl⟩
    have ha := op_all_map isName1 (z.cps.toList.map fun c => PyData.str ⟨#[c]⟩)
    by_cases h1 : (1 : Int) ≤ z.length
    · by_cases h2 : (z.length : Int) ≤ 8
      · simp [isName, PyData.isStr, hz', hlc, h1, h2, -List.map_map, ha]
        rfl
      · simp [isName, PyData.isStr, hz', h1, h2]
    · simp [isName, PyData.isStr, hz', h1]
  | _ => simp [isName, PyData.isStr]
/-! ### is_rising -/
def rising : List Da → Bool
  | a :: b :: r => PySem.W.dataLt a b && rising (b :: r)
  | _ => true
def ltP : Da → Bool
  | .tuple [a, b] => PySem.W.dataLt a b
  | _ => false
theorem zip_rising : ∀ ds : List Da, (zipD ds (ds.drop 1)).all ltP = rising ds
  | [] => rfl
  | [_] => rfl
  | a :: b :: r => by
    have ih := zip_rising (b :: r)
    simp only [List.drop_one, List.tail_cons] at ih
    simp only [List.drop_one, List.tail_cons, zipD, List.all_cons, rising, ltP]
    rw [← ih]
def Cmps (ds : List Da) : Prop := ∀ a ∈ ds, ∀ b ∈ ds, okl a b = true
theorem zip_mem : ∀ {xs ys : List Da} {d : Da}, d ∈ zipD xs ys → ∃ a b, a ∈ xs ∧ b ∈ ys ∧ d = .tuple [a, b]
  | [], _, _, h => by simp [zipD] at h
  | _ :: _, [], _, h => by simp [zipD] at h
  | x :: xs, y :: ys, d, h => by
    simp only [zipD, List.mem_cons] at h
    rcases h with h | h
    · exact ⟨x, y, by simp, by simp, h⟩
    · obtain ⟨a, b, h1, h2, h3⟩ := zip_mem h
      exact ⟨a, b, by simp [h1], by simp [h2], h3⟩
theorem lt_of_okl {a b : Da} (h : okl a b = true) : opLt [a, b] = some (.fz (.bool (PySem.W.dataLt a b))) := by
  rw [opLt, if_pos h]
theorem e_is_rising {d : Da} {ds : List Da} (hd : d = .list ds ∨ d = .tuple ds) (hl : ds.length ≤ 1000000) (hc : Cmps ds) : f_is_rising [d] = .ok (.fz (.bool (rising ds))) := by
  unfold f_is_rising m_is_rising
  rw [fnP_eq]
  have hz : (zipD ds (ds.drop 1)).length ≤ 1000000 := by rw [zipD_len]; omega
  have ha := op_all_map ltP (zipD ds (ds.drop 1))
  rw [zip_rising] at ha
  have body : ∀ D : Da, ∀ x ∈ zipD ds (ds.drop 1), ∃ e1 s e3, asg (.tp [.nm 1, .nm 2]) x [.fz D, .no, .no] = some e1 ∧ (mPure opLt [.sl 1, .sl 2]) e1 = .ok (s, e3) ∧ s.dat = some (.bool (ltP x)) ∧ wipeE e3 [1, 2] = [.fz D, .no, .no] := fun D x hx => by
    obtain ⟨a, b, h1, h2, rfl⟩ := zip_mem hx
    have ho := lt_of_okl (hc a h1 b (List.mem_of_mem_drop h2))
    exact ⟨[.fz D, .fz a, .fz b], .fz (.bool (PySem.W.dataLt a b)), [.fz D, .fz a, .fz b], by simp, by simp [ho], rfl, by simp⟩
  rcases hd with rfl | rfl
  · have hlc : mLc ⟨[.sl 0, .ex (mPure opSlLo [.sl 0, .ex (mK (.int 1))])], itZip⟩ (.tp [.nm 1, .nm 2]) mYes (mPure opLt [.sl 1, .sl 2]) [1, 2] [.fz (.list ds), .no, .no] = .ok (.ow (.list ((zipD ds (ds.drop 1)).map fun d => .bool (ltP d))), [.fz (.list ds), .no, .no]) := by
      refine Sh.lc_map (os := [.at 0, .va (.list (ds.drop 1))]) (ds := [.list ds, .list (ds.drop 1)]) (fun d => .bool (ltP d)) ?_ rfl rfl rfl rfl rfl rfl hz (body _)
      simp [opSlLo, sliced]
    simp [hlc, ha]
    simpa using zip_rising ds
  · have hlc : mLc ⟨[.sl 0, .ex (mPure opSlLo [.sl 0, .ex (mK (.int 1))])], itZip⟩ (.tp [.nm 1, .nm 2]) mYes (mPure opLt [.sl 1, .sl 2]) [1, 2] [.fz (.tuple ds), .no, .no] = .ok (.ow (.list ((zipD ds (ds.drop 1)).map fun d => .bool (ltP d))), [.fz (.tuple ds), .no, .no]) := by
      refine Sh.lc_map (os := [.at 0, .va (.tuple (ds.drop 1))]) (ds := [.tuple ds, .tuple (ds.drop 1)]) (fun d => .bool (ltP d)) ?_ rfl rfl rfl rfl rfl rfl hz (body _)
      simp [opSlLo, sliced]
    simp [hlc, ha]
    simpa using zip_rising ds
/-! ### are_rows -/
def rowIs (size : Int) : Da → Bool
  | .tuple ys => decide ((ys.length : Int) = size)
  | _ => false
def areRows (d : Da) (size most : Int) : Bool := match d with
  | .tuple xs => !decide (most < (xs.length : Int)) && xs.all (rowIs size)
  | _ => false
theorem e_are_rows (d : Da) (size most : Int) {l : Nat} (hl : l ≤ 100000) (hd : Wf l d = true) : f_are_rows [d, .int size, .int most] = .ok (.fz (.bool (areRows d size most))) := by
  unfold f_are_rows m_are_rows
  rw [fnP_eq]
  cases d with
  | tuple xs =>
    have hx := (Wf.tup hd).1
    have hlc : mLc ⟨[.sl 0], itSeq⟩ (.nm 3) mYes (mAndV (mPure (opIsi "tuple") [.sl 3]) (mPure opEq [.ex (mPure opLen [.sl 3]), .sl 1])) [3] [.fz (.tuple xs), .fz (.int size), .fz (.int most), .no] = .ok (.ow (.list (xs.map fun d => .bool (rowIs size d))), [.fz (.tuple xs), .fz (.int size), .fz (.int most), .no]) := by
      refine Sh.lc_mapS (fun d => .bool (rowIs size d)) rfl rfl rfl rfl rfl rfl rfl (by omega) fun d hd => ?_
      refine ⟨_, .fz (.bool (rowIs size d)), rfl, ?_, rfl, rfl⟩
      cases d <;> simp [PyData.isTuple, rowIs]
    by_cases h1 : most < (xs.length : Int)
    · simp [areRows, PyData.isTuple, h1]
    · simp [areRows, PyData.isTuple, h1, hlc]
  | _ => simp [areRows, PyData.isTuple]
theorem areRows_tup {d : Da} {size most : Int} (h : areRows d size most = true) : ∃ xs, d = .tuple xs ∧ (xs.length : Int) ≤ most ∧ ∀ x ∈ xs, ∃ ys, x = .tuple ys ∧ (ys.length : Int) = size := by
  cases d with
  | tuple xs =>
    simp only [areRows, Bool.and_eq_true, Bool.not_eq_true', decide_eq_false_iff_not, List.all_eq_true] at h
    refine ⟨xs, rfl, by omega, fun x hx => ?_⟩
    have := h.2 x hx
    cases x with
    | tuple ys => exact ⟨ys, rfl, by simpa [rowIs] using this⟩
    | _ => simp [rowIs] at this
  | _ => simp [areRows] at h
theorem len2 {ys : List Da} (h : (ys.length : Int) = 2) : ∃ a b, ys = [a, b] := by
  match ys, h with
  | [a, b], _ => exact ⟨a, b, rfl⟩
  | [], h => simp at h
  | [_], h => simp at h
  | _ :: _ :: _ :: _, h => simp at h; omega
theorem len3 {ys : List Da} (h : (ys.length : Int) = 3) : ∃ a b c, ys = [a, b, c] := by
  match ys, h with
  | [a, b, c], _ => exact ⟨a, b, c, rfl⟩
  | [], h => simp at h
  | [_], h => simp at h
  | [_, _], h => simp at h
  | _ :: _ :: _ :: _ :: _, h => simp at h; omega

/-! ### are_rooms -/
def fstD : Da → Da
  | .tuple (a :: _) => a
  | d => d
def roomOk : Da → Bool
  | .tuple [a, b, c] => isName a && isFrom b 0 9 && isFrom c 0 9
  | _ => false
def parts : Da → List Da
  | .tuple xs => xs
  | _ => []
def areRooms (d : Da) : Bool := areRows d 3 5 && !(parts d).isEmpty && (parts d).all roomOk && rising ((parts d).map fstD)
theorem eqv_nil : ∀ xs : List Da, PyData.eqvAll xs [] = xs.isEmpty
  | [] => rfl
  | _ :: _ => rfl
theorem name_str {d : Da} (h : isName d = true) : ∃ z, d = .str z := by
  cases d with
  | str z => exact ⟨z, rfl⟩
  | _ => simp [isName] at h
theorem okl_ss (a b : Str) : okl (.str a) (.str b) = true := rfl
theorem strs_cmp {ds : List Da} (h : ∀ d ∈ ds, ∃ z, d = .str z) : Cmps ds := fun a ha b hb => by
  obtain ⟨x, rfl⟩ := h a ha
  obtain ⟨y, rfl⟩ := h b hb
  rfl
theorem e_are_rooms (d : Da) {l : Nat} (hl : l ≤ 100000) (hd : Wf l d = true) : f_are_rooms [d] = .ok (.fz (.bool (areRooms d))) := by
  unfold f_are_rooms m_are_rooms
  rw [fnP_eq]
  have hr := e_are_rows d 3 5 hl hd
  cases h1 : areRows d 3 5 with
  | false => 
    rw [h1] at hr
    simp [hr, areRooms, h1]
  | true =>
    rw [h1] at hr
    obtain ⟨xs, rfl, hlen, hrow⟩ := areRows_tup h1
    have hw := (Wf.tup hd).2
    have hpl : (PyData.tuple xs).plain = true := Wf.plain hd
    have hq : opEq [.tuple xs, .tuple []] = some (.fz (.bool xs.isEmpty)) := by
      have hok : okc (.tuple xs) (.tuple []) = true := by
        unfold okc
        rw [hpl]
        simp [PyData.plain, PyData.plainAll, PyData.depth, PyData.depthAll]
      rw [opEq, if_pos hok]
      simp [PyData.eqv, eqv_nil]
    cases he : xs.isEmpty with
    | true =>
      rw [he] at hq
      simp [hr, areRooms, h1, hq, parts, he]
    | false =>
      rw [he] at hq
      have hlc : mLc ⟨[.sl 0], itSeq⟩ (.nm 1) (mYes) (mAndV (mCall (f_is_name) [.ex (mPure opIx [.sl 1, .ex (mK (.int 0))])]) (mAndV (mCall (f_is_from) [.ex (mPure opIx [.sl 1, .ex (mK (.int 1))]), .ex (mK (.int 0)), .ex (mK (.int 9))]) (mCall (f_is_from) [.ex (mPure opIx [.sl 1, .ex (mK (.int 2))]), .ex (mK (.int 0)), .ex (mK (.int 9))]))) [1] [.fz (.tuple xs), .no]
          = .ok (.ow (.list (xs.map fun d => .bool (roomOk d))), [.fz (.tuple xs), .no]) := by
        refine Sh.lc_mapS (fun d => .bool (roomOk d)) rfl rfl rfl rfl rfl rfl rfl (by omega) fun d hd => ?_
        refine ⟨_, .fz (.bool (roomOk d)), rfl, ?_, rfl, rfl⟩
        obtain ⟨ys, rfl, hy⟩ := hrow d hd
        obtain ⟨a, b, c, rfl⟩ := len3 hy
        have hwd := (Wf.tup (hw _ hd)).2
        have hn := e_is_name a hl (hwd a (by simp))
        cases q1 : isName a <;> cases q2 : isFrom b 0 9 <;> cases q3 : isFrom c 0 9 <;> simp [hn, e_is_from, q1, q2, q3, roomOk]
      cases ha : xs.all roomOk with
      | false =>
        simp [hr, areRooms, h1, hq, parts, he, hlc, ha]
      | true =>
        have hlc2 : mLc ⟨[.sl 0], itSeq⟩ (.nm 1) (mYes) (mPure opIx [.sl 1, .ex (mK (.int 0))]) [1] [.fz (.tuple xs), .no] = .ok (.ow (.list (xs.map fstD)), [.fz (.tuple xs), .no]) := by
          refine Sh.lc_mapS fstD rfl rfl rfl rfl rfl rfl rfl (by omega) fun d hd => ?_
          refine ⟨_, .fz (fstD d), rfl, ?_, rfl, rfl⟩
          obtain ⟨ys, rfl, hy⟩ := hrow d hd
          obtain ⟨a, b, c, rfl⟩ := len3 hy
          simp [fstD]
        have hris := e_is_rising (d := .list (xs.map fstD)) (ds := xs.map fstD) (.inl rfl) (by rw [List.length_map]; omega) (strs_cmp fun d hd => by
          simp only [List.mem_map] at hd
          obtain ⟨x, hx, rfl⟩ := hd
          have := List.all_eq_true.mp ha x hx
          obtain ⟨ys, rfl, hy⟩ := hrow x hx
          obtain ⟨a, b, c, rfl⟩ := len3 hy
          simp only [roomOk, Bool.and_eq_true] at this
          exact name_str this.1.1)
        simp [hr, areRooms, h1, hq, parts, he, hlc, ha, hlc2, hris]
/-! ### is_one_of, is_house -/
def isOneOf (d : Da) (names : List Da) : Bool := d.isStr && names.any fun y => PyData.eqv y d
theorem e_is_one_of (d : Da) (names : List Da) (hp : PyData.plainAll names = true) : f_is_one_of [d, .list names] = .ok (.fz (.bool (isOneOf d names))) := by
  unfold f_is_one_of m_is_one_of
  rw [fnP_eq]
  cases d with
  | str z =>
    have hi : inOk (.str z) names = true := by
      unfold inOk
      rw [hp]
      simp [PyData.plain, PyData.depth]
    have ho : opIn [.str z, .list names] = some (.fz (.bool (names.any fun y => PyData.eqv y (.str z)))) := by
      show (if inOk (.str z) names = true then _ else _) = _
      rw [if_pos hi]
    simp [isOneOf, PyData.isStr, ho]
  | _ => simp [isOneOf, PyData.isStr]
def doorOk (names : List Da) : Da → Bool
  | .tuple [a, b] => isOneOf a names && isOneOf b names && PySem.W.dataLt a b
  | _ => false
def gainOk (names : List Da) : Da → Bool
  | .tuple [a, b, c] => isOneOf a names && isOneOf b names && isFrom c 1 9
  | _ => false
def take2 : Da → Da
  | .tuple (a :: b :: _) => .tuple [a, b]
  | d => d
def isHouse (d : Da) : Bool := match d with
  | .tuple [rooms, doors, gains] => areRooms rooms && areRows doors 2 25 && areRows gains 3 10 && (parts doors).all (doorOk ((parts rooms).map fstD)) && (parts gains).all (gainOk ((parts rooms).map fstD)) && rising (parts doors) && rising ((parts gains).map take2)
  | _ => false
theorem oneOf_str {d : Da} {names : List Da} (h : isOneOf d names = true) : ∃ z, d = .str z := by
  cases d with
  | str z => exact ⟨z, rfl⟩
  | _ => simp [isOneOf, PyData.isStr] at h
theorem okl_pairs (a b c d : Str) : okl (.tuple [.str a, .str b]) (.tuple [.str c, .str d]) = true := rfl
theorem len_ne3 {xs : List Da} (h : ¬ (xs.length : Int) = 3) : isHouse (.tuple xs) = false := by
  unfold isHouse
  split
  · rename_i e
    cases e
    simp at h
  · rfl
theorem e_is_house (d : Da) {l : Nat} (hl : l ≤ 100000) (hd : Wf l d = true) : f_is_house [d] = .ok (.fz (.bool (isHouse d))) := by
  unfold f_is_house m_is_house
  rw [fnP_eq]
  cases d with
  | tuple xs =>
    by_cases h3 : (xs.length : Int) = 3
    · obtain ⟨rooms, doors, gains, rfl⟩ := len3 h3
      have hw := (Wf.tup hd).2
      have wr := hw rooms (by simp)
      have wd := hw doors (by simp)
      have wg := hw gains (by simp)
      have hro := e_are_rooms rooms hl wr
      cases h1 : areRooms rooms with
      | false =>
        rw [h1] at hro
        simp [PyData.isTuple, hro, isHouse, h1]
      | true =>
        rw [h1] at hro
        have h1' : areRows rooms 3 5 = true := by
          simp only [areRooms, Bool.and_eq_true] at h1
          exact h1.1.1.1
        have h1a : (parts rooms).all roomOk = true := by
          simp only [areRooms, Bool.and_eq_true] at h1
          exact h1.1.2
        obtain ⟨rs, rfl, hrl, hrr⟩ := areRows_tup h1'
        have hna : ∀ x ∈ rs.map fstD, ∃ z, x = .str z := fun d hd => by
          simp only [List.mem_map] at hd
          obtain ⟨x, hx, rfl⟩ := hd
          have := List.all_eq_true.mp h1a x hx
          obtain ⟨ys, rfl, hy⟩ := hrr x hx
          obtain ⟨a, b, c, rfl⟩ := len3 hy
          simp only [roomOk, Bool.and_eq_true] at this
          exact name_str this.1.1
        have hpn : PyData.plainAll (rs.map fstD) = true := plainAll_iff.mpr fun x hx => by
          obtain ⟨z, rfl⟩ := hna x hx
          rfl
        have hlc1 : mLc ⟨[.sl 2], itSeq⟩ (.nm 5) (mYes) (mPure opIx [.sl 5, .ex (mK (.int 0))]) [5] [.fz (.tuple [.tuple rs, doors, gains]), .no, .fz (.tuple rs), .fz doors, .fz gains, .no, .no] = .ok (.ow (.list (rs.map fstD)), [.fz (.tuple [.tuple rs, doors, gains]), .no, .fz (.tuple rs), .fz doors, .fz gains, .no, .no]) := by
          refine Sh.lc_mapS fstD rfl rfl rfl rfl rfl rfl rfl (by omega) fun d hd => ?_
          refine ⟨_, .fz (fstD d), rfl, ?_, rfl, rfl⟩
          obtain ⟨ys, rfl, hy⟩ := hrr d hd
          obtain ⟨a, b, c, rfl⟩ := len3 hy
          simp [fstD]
        have hdo := e_are_rows doors 2 25 hl wd
        have hga := e_are_rows gains 3 10 hl wg
        have hmul : opMul [.int 5, .int 5] = some (.fz (.int 25)) := rfl
        cases h4 : areRows doors 2 25 with
        | false =>
          rw [h4] at hdo
          simp [PyData.isTuple, hro, isHouse, h1, hlc1, hdo, hmul, h4]
        | true =>
          rw [h4] at hdo
          cases h5 : areRows gains 3 10 with
          | false =>
            rw [h5] at hga
            simp [PyData.isTuple, hro, isHouse, h1, hlc1, hdo, hga, hmul, h4, h5]
          | true =>
            rw [h5] at hga
            obtain ⟨dr, rfl, hdl, hdr⟩ := areRows_tup h4
            obtain ⟨gr, rfl, hgl, hgr⟩ := areRows_tup h5
            have hlc2 : mLc ⟨[.sl 3], itSeq⟩ (.nm 6) (mYes) (mAndV (mCall (f_is_one_of) [.ex (mPure opIx [.sl 6, .ex (mK (.int 0))]), .sl 1]) (mAndV (mCall (f_is_one_of) [.ex (mPure opIx [.sl 6, .ex (mK (.int 1))]), .sl 1]) (mPure opLt [.ex (mPure opIx [.sl 6, .ex (mK (.int 0))]), .ex (mPure opIx [.sl 6, .ex (mK (.int 1))])]))) [6]
                [.fz (.tuple [.tuple rs, .tuple dr, .tuple gr]), .ow (.list (rs.map fstD)), .fz (.tuple rs), .fz (.tuple dr), .fz (.tuple gr), .no, .no] = .ok (.ow (.list (dr.map fun d => .bool (doorOk (rs.map fstD) d))), [.fz (.tuple [.tuple rs, .tuple dr, .tuple gr]), .ow (.list (rs.map fstD)), .fz (.tuple rs), .fz (.tuple dr), .fz (.tuple gr), .no, .no]) := by
              refine Sh.lc_mapS (fun d => .bool (doorOk (rs.map fstD) d)) rfl rfl rfl rfl rfl rfl rfl (by omega) fun d hd => ?_
              refine ⟨_, .fz (.bool (doorOk (rs.map fstD) d)), rfl, ?_, rfl, rfl⟩
              obtain ⟨ys, rfl, hy⟩ := hdr d hd
              obtain ⟨a, b, rfl⟩ := len2 hy
              have o1 := e_is_one_of a (rs.map fstD) hpn
              have o2 := e_is_one_of b (rs.map fstD) hpn
              cases q1 : isOneOf a (rs.map fstD) with
              | false => simp [o1, q1, doorOk]
              | true =>
                cases q2 : isOneOf b (rs.map fstD) with
                | false => simp [o1, o2, q1, q2, doorOk]
                | true =>
                  obtain ⟨za, rfl⟩ := oneOf_str q1
                  obtain ⟨zb, rfl⟩ := oneOf_str q2
                  have hlt := lt_of_okl (okl_ss za zb)
                  simp [o1, o2, q1, q2, doorOk, hlt]
            have hlc3 : mLc ⟨[.sl 4], itSeq⟩ (.nm 6) (mYes) (mAndV (mCall (f_is_one_of) [.ex (mPure opIx [.sl 6, .ex (mK (.int 0))]), .sl 1]) (mAndV (mCall (f_is_one_of) [.ex (mPure opIx [.sl 6, .ex (mK (.int 1))]), .sl 1]) (mCall (f_is_from) [.ex (mPure opIx [.sl 6, .ex (mK (.int 2))]), .ex (mK (.int 1)), .ex (mK (.int 9))]))) [6]
                [.fz (.tuple [.tuple rs, .tuple dr, .tuple gr]), .ow (.list (rs.map fstD)), .fz (.tuple rs), .fz (.tuple dr), .fz (.tuple gr), .no, .no] = .ok (.ow (.list (gr.map fun d => .bool (gainOk (rs.map fstD) d))), [.fz (.tuple [.tuple rs, .tuple dr, .tuple gr]), .ow (.list (rs.map fstD)), .fz (.tuple rs), .fz (.tuple dr), .fz (.tuple gr), .no, .no]) := by
              refine Sh.lc_mapS (fun d => .bool (gainOk (rs.map fstD) d)) rfl rfl rfl rfl rfl rfl rfl (by omega) fun d hd => ?_
              refine ⟨_, .fz (.bool (gainOk (rs.map fstD) d)), rfl, ?_, rfl, rfl⟩
              obtain ⟨ys, rfl, hy⟩ := hgr d hd
              obtain ⟨a, b, c, rfl⟩ := len3 hy
              have o1 := e_is_one_of a (rs.map fstD) hpn
              have o2 := e_is_one_of b (rs.map fstD) hpn
              cases q1 : isOneOf a (rs.map fstD) <;> cases q2 : isOneOf b (rs.map fstD) <;> cases q3 : isFrom c 1 9 <;> simp [o1, o2, e_is_from, q1, q2, q3, gainOk]
            cases h6 : dr.all (doorOk (rs.map fstD)) with
            | false => simp [PyData.isTuple, hro, isHouse, h1, hlc1, hdo, hga, hmul, h4, h5, hlc2, parts, h6]
            | true =>
              cases h7 : gr.all (gainOk (rs.map fstD)) with
              | false => simp [PyData.isTuple, hro, isHouse, h1, hlc1, hdo, hga, hmul, h4, h5, hlc2, hlc3, parts, h6, h7]
              | true =>
                have hlc4 : mLc ⟨[.sl 4], itSeq⟩ (.nm 6) (mYes) (mPure opSlHi [.sl 6, .ex (mK (.int 2))]) [6] [.fz (.tuple [.tuple rs, .tuple dr, .tuple gr]), .ow (.list (rs.map fstD)), .fz (.tuple rs), .fz (.tuple dr), .fz (.tuple gr), .no, .no] = .ok (.ow (.list (gr.map take2)), [.fz (.tuple [.tuple rs, .tuple dr, .tuple gr]), .ow (.list (rs.map fstD)), .fz (.tuple rs), .fz (.tuple dr), .fz (.tuple gr), .no, .no]) := by
                  refine Sh.lc_mapS take2 rfl rfl rfl rfl rfl rfl rfl (by omega) fun d hd => ?_
                  refine ⟨_, .fz (take2 d), rfl, ?_, rfl, rfl⟩
                  obtain ⟨ys, rfl, hy⟩ := hgr d hd
                  obtain ⟨a, b, c, rfl⟩ := len3 hy
                  simp [opSlHi, sliced, take2]
                have c1 : Cmps dr := fun x hx y hy => by
                  have k1 := List.all_eq_true.mp h6 x hx
                  have k2 := List.all_eq_true.mp h6 y hy
                  obtain ⟨xs, rfl, hxl⟩ := hdr x hx
                  obtain ⟨a, b, rfl⟩ := len2 hxl
                  obtain ⟨ys, rfl, hyl⟩ := hdr y hy
                  obtain ⟨c, d, rfl⟩ := len2 hyl
                  simp only [doorOk, Bool.and_eq_true] at k1 k2
                  obtain ⟨_, rfl⟩ := oneOf_str k1.1.1
                  obtain ⟨_, rfl⟩ := oneOf_str k1.1.2
                  obtain ⟨_, rfl⟩ := oneOf_str k2.1.1
                  obtain ⟨_, rfl⟩ := oneOf_str k2.1.2
                  rfl
                have c2 : Cmps (gr.map take2) := fun x hx y hy => by
                  simp only [List.mem_map] at hx hy
                  obtain ⟨x, hx, rfl⟩ := hx
                  obtain ⟨y, hy, rfl⟩ := hy
                  have k1 := List.all_eq_true.mp h7 x hx
                  have k2 := List.all_eq_true.mp h7 y hy
                  obtain ⟨xs, rfl, hxl⟩ := hgr x hx
                  obtain ⟨a, b, z, rfl⟩ := len3 hxl
                  obtain ⟨ys, rfl, hyl⟩ := hgr y hy
                  obtain ⟨c, d, z', rfl⟩ := len3 hyl
                  simp only [gainOk, Bool.and_eq_true] at k1 k2
                  obtain ⟨_, rfl⟩ := oneOf_str k1.1.1
                  obtain ⟨_, rfl⟩ := oneOf_str k1.1.2
                  obtain ⟨_, rfl⟩ := oneOf_str k2.1.1
                  obtain ⟨_, rfl⟩ := oneOf_str k2.1.2
                  rfl
                have r1 := e_is_rising (d := .tuple dr) (ds := dr) (.inr rfl) (by omega) c1
                have r2 := e_is_rising (d := .list (gr.map take2)) (ds := gr.map take2) (.inl rfl) (by rw [List.length_map]; omega) c2
                cases q1 : rising dr <;> cases q2 : rising (gr.map take2) <;> simp [PyData.isTuple, hro, isHouse, h1, hlc1, hdo, hga, hmul, h4, h5, hlc2, hlc3, parts, h6, h7, r1, r2, hlc4, q1, q2]
    · simp [PyData.isTuple, h3, len_ne3 h3]
  | _ => simp [isHouse, PyData.isTuple]
end Mi
set_option Elab.async false
set_option linter.all false
set_option maxRecDepth 100000
set_option autoImplicit false
/-! houses as records; bearers, places, stands -/
namespace Mi
open PySem PySem.Spec PyProof.Rows L2 Sh

structure Hs where
  rooms : List (Str × Int × Int)
  doors : List (Str × Str)
  gains : List (Str × Str × Int)
def eRoom (r : Str × Int × Int) : Da := .tuple [.str r.1, .int r.2.1, .int r.2.2]
def eDoor (p : Str × Str) : Da := .tuple [.str p.1, .str p.2]
def eGain (g : Str × Str × Int) : Da := .tuple [.str g.1, .str g.2.1, .int g.2.2]
def Hs.enc (h : Hs) : Da := .tuple [.tuple (h.rooms.map eRoom), .tuple (h.doors.map eDoor), .tuple (h.gains.map eGain)]
def Hs.names (h : Hs) : List Str := h.rooms.map (·.1)
def Hs.caps (h : Hs) : List Int := h.rooms.map (·.2.1)
@[simp] theorem ix_e0 (h : Hs) : opIx [h.enc, .int 0] = some (.fz (.tuple (h.rooms.map eRoom))) := rfl
@[simp] theorem ix_e1 (h : Hs) : opIx [h.enc, .int 1] = some (.fz (.tuple (h.doors.map eDoor))) := rfl
@[simp] theorem ix_e2 (h : Hs) : opIx [h.enc, .int 2] = some (.fz (.tuple (h.gains.map eGain))) := rfl
def dstr (z : Str) : Da := .str z
def dint (i : Int) : Da := .int i
structure HsOk (h : Hs) : Prop where
  n1 : h.rooms ≠ []
  n5 : h.rooms.length ≤ 5
  room : ∀ r ∈ h.rooms, isName (.str r.1) = true ∧ 0 ≤ r.2.1 ∧ r.2.1 ≤ 9 ∧ 0 ≤ r.2.2 ∧ r.2.2 ≤ 9
  ris : rising (h.names.map dstr) = true
  door : ∀ p ∈ h.doors, p.1 ∈ h.names ∧ p.2 ∈ h.names ∧ PySem.W.dataLt (.str p.1) (.str p.2) = true
  dris : rising (h.doors.map eDoor) = true
  d25 : h.doors.length ≤ 25
  gain : ∀ g ∈ h.gains, g.1 ∈ h.names ∧ g.2.1 ∈ h.names ∧ 1 ≤ g.2.2 ∧ g.2.2 ≤ 9
  gris : rising (h.gains.map fun g => eDoor (g.1, g.2.1)) = true
  g10 : h.gains.length ≤ 10
theorem map_fst (h : Hs) : (h.rooms.map eRoom).map fstD = h.names.map dstr := by
  unfold Hs.names
  rw [List.map_map, List.map_map]
  rfl
theorem any_names (names : List Str) (z : Str) : ((names.map dstr).any fun y => PyData.eqv y (.str z)) = decide (z ∈ names) := by
  induction names with
  | nil => rfl
  | cons a r ih =>
    simp only [List.map_cons, List.any_cons, ih, dstr, PyData.eqv]
    by_cases h : a = z
    · subst h; simp
    · have h' : z ≠ a := fun e => h e.symm
      simp [h, h']
@[simp] theorem oneOf_name (names : List Str) (z : Str) : isOneOf (.str z) (names.map dstr) = decide (z ∈ names) := by
  unfold isOneOf
  rw [any_names]
  rfl
theorem isHouse_enc {h : Hs} (k : HsOk h) : isHouse h.enc = true := by
  unfold Hs.enc isHouse
  simp only [Bool.and_eq_true]
  have hne : (h.rooms.map eRoom).isEmpty = false := by
    cases e : h.rooms with
    | nil => exact absurd e k.n1
    | cons a r => rfl
  refine ⟨⟨⟨⟨⟨⟨?_, ?_⟩, ?_⟩, ?_⟩, ?_⟩, ?_⟩, ?_⟩
  · unfold areRooms
    simp only [Bool.and_eq_true]
    refine ⟨⟨⟨?_, ?_⟩, ?_⟩, ?_⟩
    · simp only [areRows, Bool.and_eq_true, List.all_eq_true, Bool.not_eq_true', decide_eq_false_iff_not, List.length_map]
      refine ⟨by have := k.n5; omega, fun x hx => ?_⟩
      obtain ⟨r, _, rfl⟩ := List.mem_map.mp hx
      rfl
    · simp only [parts, hne]; rfl
    · simp only [parts, List.all_eq_true]
      intro x hx
      obtain ⟨r, hr, rfl⟩ := List.mem_map.mp hx
      obtain ⟨h1, h2, h3, h4, h5⟩ := k.room r hr
      simp [eRoom, roomOk, h1, isFrom, h2, h3, h4, h5]
    · simp only [parts, map_fst]; exact k.ris
  · simp only [areRows, Bool.and_eq_true, List.all_eq_true, Bool.not_eq_true', decide_eq_false_iff_not, List.length_map]
    refine ⟨by have := k.d25; omega, fun x hx => ?_⟩
    obtain ⟨r, _, rfl⟩ := List.mem_map.mp hx
    rfl
  · simp only [areRows, Bool.and_eq_true, List.all_eq_true, Bool.not_eq_true', decide_eq_false_iff_not, List.length_map]
    refine ⟨by have := k.g10; omega, fun x hx => ?_⟩
    obtain ⟨r, _, rfl⟩ := List.mem_map.mp hx
    rfl
  · simp only [parts, List.all_eq_true, map_fst]
    intro x hx
    obtain ⟨r, hr, rfl⟩ := List.mem_map.mp hx
    obtain ⟨h1, h2, h3⟩ := k.door r hr
    simp [eDoor, doorOk, h1, h2, h3]
  · simp only [parts, List.all_eq_true, map_fst]
    intro x hx
    obtain ⟨r, hr, rfl⟩ := List.mem_map.mp hx
    obtain ⟨h1, h2, h3, h4⟩ := k.gain r hr
    simp [eGain, gainOk, h1, h2, isFrom, h3, h4]
  · exact k.dris
  · simp only [parts]
    have e : (h.gains.map eGain).map take2 = h.gains.map fun g => eDoor (g.1, g.2.1) := by
      rw [List.map_map]
      rfl
    rw [e]
    exact k.gris
theorem name_len {z : Str} (h : isName (.str z) = true) : 1 ≤ z.length ∧ z.length ≤ 8 := by
  simp only [isName, Bool.and_eq_true, decide_eq_true_eq] at h
  omega
theorem HsOk.nlen {h : Hs} (k : HsOk h) {z : Str} (hz : z ∈ h.names) : z.length ≤ 8 := by
  obtain ⟨r, hr, rfl⟩ := List.mem_map.mp hz
  exact (name_len (k.room r hr).1).2
theorem wf_enc {h : Hs} (k : HsOk h) : Wf 100 h.enc = true := by
  have hi : ∀ i : Int, 0 ≤ i → i ≤ 9 → Wf 100 (.int i) = true := fun i h1 h2 => by
    simp only [Wf, decide_eq_true_eq]
    have : i.natAbs ≤ 9 := by omega
    exact Nat.le_trans this (by decide)
  have hs : ∀ z : Str, z ∈ h.names → Wf 100 (.str z) = true := fun z hz => by
    have := k.nlen hz
    simp only [Wf, decide_eq_true_eq]
    omega
  unfold Hs.enc
  simp only [Wf, WfAll, Bool.and_eq_true, decide_eq_true_eq, List.length_map, WfAll_iff]
  refine ⟨by simp, ⟨⟨by have := k.n5; omega, fun x hx => ?_⟩, ⟨by have := k.d25; omega, fun x hx => ?_⟩, ⟨by have := k.g10; omega, fun x hx => ?_⟩, trivial⟩⟩
  · obtain ⟨r, hr, rfl⟩ := List.mem_map.mp hx
    obtain ⟨_, h2, h3, h4, h5⟩ := k.room r hr
    have e1 := hs r.1 (List.mem_map.mpr ⟨r, hr, rfl⟩)
    simp [eRoom, Wf, WfAll] at e1 ⊢
    have e2 := hi _ h2 h3
    have e3 := hi _ h4 h5
    simp [Wf] at e2 e3
    exact ⟨e1, e2, e3⟩
  · obtain ⟨r, hr, rfl⟩ := List.mem_map.mp hx
    obtain ⟨h1, h2, _⟩ := k.door r hr
    have e1 := hs _ h1
    have e2 := hs _ h2
    simp [eDoor, Wf, WfAll] at e1 e2 ⊢
    exact ⟨e1, e2⟩
  · obtain ⟨r, hr, rfl⟩ := List.mem_map.mp hx
    obtain ⟨h1, h2, h3, h4⟩ := k.gain r hr
    have e1 := hs _ h1
    have e2 := hs _ h2
    have e3 := hi _ (by omega) h4
    simp [eGain, Wf, WfAll] at e1 e2 e3 ⊢
    exact ⟨e1, e2, e3⟩
/-! ### bearers -/
def areBearers (d : Da) : Bool := match d with
  | .tuple xs => decide ((1 : Int) ≤ xs.length) && decide ((xs.length : Int) ≤ 3) && xs.all fun x => isFrom x 0 9
  | _ => false
theorem e_are_bearers (d : Da) {l : Nat} (hl : l ≤ 100000) (hd : Wf l d = true) : f_are_bearers [d] = .ok (.fz (.bool (areBearers d))) := by
  unfold f_are_bearers m_are_bearers
  rw [fnP_eq]
  cases d with
  | tuple xs =>
    have hx := (Wf.tup hd).1
    have hlc : mLc ⟨[.sl 0], itSeq⟩ (.nm 1) (mYes) (mCall (f_is_from) [.sl 1, .ex (mK (.int 0)), .ex (mK (.int 9))]) [1] [.fz (.tuple xs), .no] = .ok (.ow (.list (xs.map fun d => .bool (isFrom d 0 9))), [.fz (.tuple xs), .no]) := by
      refine Sh.lc_mapS (fun d => .bool (isFrom d 0 9)) rfl rfl rfl rfl rfl rfl rfl (by omega) fun d hd => ?_
      refine ⟨_, .fz (.bool (isFrom d 0 9)), rfl, ?_, rfl, rfl⟩
      simp [e_is_from]
    by_cases h1 : (1 : Int) ≤ xs.length
    · by_cases h2 : (xs.length : Int) ≤ 3
      · simp [areBearers, PyData.isTuple, h1, h2, hlc]
      · simp [areBearers, PyData.isTuple, h1, h2]
    · simp [areBearers, PyData.isTuple, h1]
  | _ => simp [areBearers, PyData.isTuple]
/-! ### names, caps -/
theorem e_names_of {h : Hs} (k : HsOk h) : f_names_of [h.enc] = .ok (.ow (.list (h.names.map dstr))) := by
  unfold f_names_of m_names_of
  rw [fnP_eq]
  have hlc : mLc ⟨[.ex (mPure opIx [.sl 0, .ex (mK (.int 0))])], itSeq⟩ (.nm 1) (mYes) (mPure opIx [.sl 1, .ex (mK (.int 0))]) [1] [.fz h.enc, .no] = .ok (.ow (.list ((h.rooms.map eRoom).map fstD)), [.fz h.enc, .no]) := by
    refine Sh.lc_mapS (os := [.va (.tuple (h.rooms.map eRoom))]) (ds := [.tuple (h.rooms.map eRoom)]) fstD ?_ rfl rfl rfl rfl rfl rfl (by have := k.n5; simp; omega) fun d hd => ?_
    · simp
    · obtain ⟨r, hr, rfl⟩ := List.mem_map.mp hd
      exact ⟨_, .fz (fstD (eRoom r)), rfl, by simp [eRoom, fstD], rfl, rfl⟩
  rw [map_fst] at hlc
  simp [hlc]
def sndD : Da → Da
  | .tuple (_ :: b :: _) => b
  | d => d
theorem map_snd (h : Hs) : (h.rooms.map eRoom).map sndD = h.caps.map dint := by
  unfold Hs.caps
  rw [List.map_map, List.map_map]
  rfl
theorem e_caps_of {h : Hs} (k : HsOk h) : f_caps_of [h.enc] = .ok (.fz (.tuple (h.caps.map dint))) := by
  unfold f_caps_of m_caps_of
  rw [fnP_eq]
  have hlc : mLc ⟨[.ex (mPure opIx [.sl 0, .ex (mK (.int 0))])], itSeq⟩ (.nm 1) (mYes) (mPure opIx [.sl 1, .ex (mK (.int 1))]) [1] [.fz h.enc, .no] = .ok (.ow (.list ((h.rooms.map eRoom).map sndD)), [.fz h.enc, .no]) := by
    refine Sh.lc_mapS (os := [.va (.tuple (h.rooms.map eRoom))]) (ds := [.tuple (h.rooms.map eRoom)]) sndD ?_ rfl rfl rfl rfl rfl rfl (by have := k.n5; simp; omega) fun d hd => ?_
    · simp
    · obtain ⟨r, hr, rfl⟩ := List.mem_map.mp hd
      exact ⟨_, .fz (sndD (eRoom r)), rfl, by simp [eRoom, sndD], rfl, rfl⟩
  rw [map_snd] at hlc
  simp [hlc, opTuple]
/-! ### places, stands -/
def arePlaces (names : List Str) (nb : Nat) (d : Da) : Bool := match d with
  | .tuple xs => decide ((xs.length : Int) = nb) && xs.all fun x => isOneOf x (names.map dstr)
  | _ => false
theorem plain_names (names : List Str) : PyData.plainAll (names.map dstr) = true := plainAll_iff.mpr fun x hx => by
  obtain ⟨z, _, rfl⟩ := List.mem_map.mp hx
  rfl
theorem e_are_places {h : Hs} (k : HsOk h) (bs : List Da) (d : Da) {l : Nat} (hl : l ≤ 100000) (hd : Wf l d = true) : f_are_places [h.enc, .tuple bs, d] = .ok (.fz (.bool (arePlaces h.names bs.length d))) := by
  unfold f_are_places m_are_places
  rw [fnP_eq]
  cases d with
  | tuple xs =>
    have hx := (Wf.tup hd).1
    have hn := e_names_of k
    have hlc : mLc ⟨[.sl 2], itSeq⟩ (.nm 3) (mYes) (mCall (f_is_one_of) [.sl 3, .ex (mCall (f_names_of) [.sl 0])]) [3] [.fz h.enc, .fz (.tuple bs), .fz (.tuple xs), .no] = .ok (.ow (.list (xs.map fun d => .bool (isOneOf d (h.names.map dstr)))), [.fz h.enc, .fz (.tuple bs), .fz (.tuple xs), .no]) := by
      refine Sh.lc_mapS (fun d => .bool (isOneOf d (h.names.map dstr))) rfl rfl rfl rfl rfl rfl rfl (by omega) fun d hd => ?_
      refine ⟨_, .fz (.bool (isOneOf d (h.names.map dstr))), rfl, ?_, rfl, rfl⟩
      have ho := e_is_one_of d (h.names.map dstr) (plain_names _)
      simp [hn, ho]
    by_cases h1 : (xs.length : Int) = bs.length
    · simp [arePlaces, PyData.isTuple, h1, hlc]
    · simp [arePlaces, PyData.isTuple, h1]
  | _ => simp [arePlaces, PyData.isTuple]
def szOk : Da → Bool
  | .tuple [x, .tuple (_ :: .int c :: _)] => isFrom x 0 c
  | _ => false
def isStanding (h : Hs) (nb : Nat) (d : Da) : Bool := match d with
  | .tuple [p, .tuple xs] => arePlaces h.names nb p && (decide ((xs.length : Int) = h.rooms.length) && (zipD xs (h.rooms.map eRoom)).all szOk)
  | _ => false
theorem e_is_standing {h : Hs} (k : HsOk h) (bs : List Da) (d : Da) {l : Nat} (hl : l ≤ 100000) (hd : Wf l d = true) : f_is_standing [h.enc, .tuple bs, d] = .ok (.fz (.bool (isStanding h bs.length d))) := by
  unfold f_is_standing m_is_standing
  rw [fnP_eq]
  cases d with
  | tuple ps =>
    by_cases h2 : (ps.length : Int) = 2
    · obtain ⟨p, s, rfl⟩ := len2 h2
      have hw := (Wf.tup hd).2
      have hpl := e_are_places k bs p hl (hw p (by simp))
      cases q1 : arePlaces h.names bs.length p with
      | false =>
        rw [q1] at hpl
        cases s <;> simp [PyData.isTuple, hpl, isStanding, q1]
      | true =>
        rw [q1] at hpl
        cases s with
        | tuple xs =>
          have hx := (Wf.tup (hw (.tuple xs) (by simp))).1
          by_cases h3 : (xs.length : Int) = h.rooms.length
          · have hlc : mLc ⟨[.ex (mPure opIx [.sl 2, .ex (mK (.int 1))]), .ex (mPure opIx [.sl 0, .ex (mK (.int 0))])], itZip⟩ (.tp [.nm 3, .nm 4]) (mYes) (mCall (f_is_from) [.sl 3, .ex (mK (.int 0)), .ex (mPure opIx [.sl 4, .ex (mK (.int 1))])]) [3, 4] [.fz h.enc, .fz (.tuple bs), .fz (.tuple [p, .tuple xs]), .no, .no]
                = .ok (.ow (.list ((zipD xs (h.rooms.map eRoom)).map fun d => .bool (szOk d))), [.fz h.enc, .fz (.tuple bs), .fz (.tuple [p, .tuple xs]), .no, .no]) := by
              refine Sh.lc_mapS (os := [.va (.tuple xs), .va (.tuple (h.rooms.map eRoom))]) (ds := [.tuple xs, .tuple (h.rooms.map eRoom)]) (fun d => .bool (szOk d)) ?_ rfl rfl rfl rfl rfl rfl (by rw [zipD_len]; omega) fun d hd => ?_
              · simp
              · obtain ⟨a, b, ha, hb, rfl⟩ := zip_mem hd
                obtain ⟨r, hr, rfl⟩ := List.mem_map.mp hb
                refine ⟨[.fz h.enc, .fz (.tuple bs), .fz (.tuple [p, .tuple xs]), .fz a, .fz (eRoom r)], .fz (.bool (szOk (.tuple [a, eRoom r]))), by simp, ?_, rfl, by simp⟩
                simp [eRoom, e_is_from, szOk]
            simp [PyData.isTuple, hpl, isStanding, q1, hlc, h3]
          · simp [PyData.isTuple, hpl, isStanding, q1, h3]
        | _ => simp [PyData.isTuple, hpl, isStanding, q1]
    · have : isStanding h bs.length (.tuple ps) = false := by
        unfold isStanding
        split
        · rename_i e
          cases e
          simp at h2
        · rfl
      simp [PyData.isTuple, h2, this]
  | _ => simp [isStanding, PyData.isTuple]
end Mi
set_option Elab.async false
set_option linter.all false
set_option maxRecDepth 100000
set_option autoImplicit false
/-! refusals that aren't; stands as records -/
namespace Mi
open PySem PySem.Spec PyProof.Rows L2 Sh

def eBs (bs : List Int) : Da := .tuple (bs.map dint)
structure BsOk (bs : List Int) : Prop where
  n1 : 1 ≤ bs.length
  n3 : bs.length ≤ 3
  size : ∀ b ∈ bs, 0 ≤ b ∧ b ≤ 9
structure Sn where
  places : List Str
  sizes : List Int
def Sn.enc (s : Sn) : Da := .tuple [.tuple (s.places.map dstr), .tuple (s.sizes.map dint)]
structure SnOk (h : Hs) (nb : Nat) (s : Sn) : Prop where
  pn : s.places.length = nb
  pl : ∀ p ∈ s.places, p ∈ h.names
  sn : s.sizes.length = h.rooms.length
  sz : ∀ (i : Nat) (x c : Int), s.sizes[i]? = some x → h.caps[i]? = some c → 0 ≤ x ∧ x ≤ c
@[simp] theorem ix_s0 (s : Sn) : opIx [s.enc, .int 0] = some (.fz (.tuple (s.places.map dstr))) := rfl
@[simp] theorem ix_s1 (s : Sn) : opIx [s.enc, .int 1] = some (.fz (.tuple (s.sizes.map dint))) := rfl
theorem wf_small {i : Int} {l : Nat} (h1 : -1000 ≤ i) (h2 : i ≤ 1000) : Wf l (.int i) = true := by
  simp only [Wf, decide_eq_true_eq]
  have : i.natAbs ≤ 1000 := by omega
  exact Nat.le_trans this (Nat.le_trans (by decide) (Nat.le_add_right _ _))
theorem bs_ok {bs : List Int} (k : BsOk bs) : areBearers (eBs bs) = true ∧ Wf 100 (eBs bs) = true := by
  constructor
  · unfold eBs areBearers
    simp only [Bool.and_eq_true, decide_eq_true_eq, List.length_map, List.all_eq_true]
    refine ⟨⟨by have := k.n1; omega, by have := k.n3; omega⟩, fun x hx => ?_⟩
    obtain ⟨b, hb, rfl⟩ := List.mem_map.mp hx
    obtain ⟨h1, h2⟩ := k.size b hb
    simp [isFrom, dint, h1, h2]
  · unfold eBs
    simp only [Wf, Bool.and_eq_true, decide_eq_true_eq, List.length_map, WfAll_iff]
    refine ⟨by have := k.n3; omega, fun x hx => ?_⟩
    obtain ⟨b, hb, rfl⟩ := List.mem_map.mp hx
    obtain ⟨h1, h2⟩ := k.size b hb
    exact wf_small (by omega) (by omega)
theorem caps_get {h : Hs} {i : Nat} {r : Str × Int × Int} (e : h.rooms[i]? = some r) : h.caps[i]? = some r.2.1 := by
  unfold Hs.caps
  rw [List.getElem?_map, e]
  rfl
theorem sn_places {h : Hs} {nb : Nat} {s : Sn} (k : SnOk h nb s) : arePlaces h.names nb (.tuple (s.places.map dstr)) = true := by
  unfold arePlaces
  simp only [Bool.and_eq_true, decide_eq_true_eq, List.length_map, List.all_eq_true]
  refine ⟨by rw [k.pn], fun x hx => ?_⟩
  obtain ⟨p, hp, rfl⟩ := List.mem_map.mp hx
  simp [dstr, k.pl p hp]
theorem zipD_all {xs ys : List Da} {p : Da → Bool} (h : ∀ (i : Nat) (x y : Da), xs[i]? = some x → ys[i]? = some y → p (.tuple [x, y]) = true) : (zipD xs ys).all p = true := by
  rw [List.all_eq_true]
  intro d hd
  obtain ⟨i, hi⟩ := List.getElem?_of_mem hd
  obtain ⟨x, y, h1, h2, rfl⟩ := zipD_get hi
  exact h i x y h1 h2
theorem sn_standing {h : Hs} {nb : Nat} {s : Sn} (k : SnOk h nb s) : isStanding h nb s.enc = true := by
  unfold Sn.enc isStanding
  simp only [Bool.and_eq_true, decide_eq_true_eq, List.length_map]
  refine ⟨sn_places k, by rw [k.sn], zipD_all fun i x y h1 h2 => ?_⟩
  rw [List.getElem?_map] at h1 h2
  cases e1 : s.sizes[i]? with
  | none => rw [e1] at h1; cases h1
  | some a =>
    cases e2 : h.rooms[i]? with
    | none => rw [e2] at h2; cases h2
    | some r =>
      rw [e1] at h1
      rw [e2] at h2
      cases h1
      cases h2
      obtain ⟨g1, g2⟩ := k.sz i a _ e1 (caps_get e2)
      simp [szOk, eRoom, dint, isFrom, g1, g2]
theorem sn_size {h : Hs} (kh : HsOk h) {nb : Nat} {s : Sn} (k : SnOk h nb s) {x : Int} (hx : x ∈ s.sizes) : 0 ≤ x ∧ x ≤ 9 := by
  obtain ⟨i, hi⟩ := List.getElem?_of_mem hx
  have hl : i < h.rooms.length := by
    rw [← k.sn]
    exact (List.getElem?_eq_some_iff.mp hi).1
  have e := List.getElem?_eq_getElem hl
  obtain ⟨g1, g2⟩ := k.sz i x _ hi (caps_get e)
  have := kh.room _ (List.getElem_mem hl)
  omega
theorem sn_wf {h : Hs} (kh : HsOk h) {nb : Nat} (hn : nb ≤ 3) {s : Sn} (k : SnOk h nb s) : Wf 100 s.enc = true := by
  unfold Sn.enc
  simp only [Wf, WfAll, Bool.and_eq_true, decide_eq_true_eq, List.length_map, WfAll_iff]
  refine ⟨by simp, ⟨by have := k.pn; omega, fun x hx => ?_⟩, ⟨by have := k.sn; have := kh.n5; omega, fun x hx => ?_⟩, trivial⟩
  · obtain ⟨p, hp, rfl⟩ := List.mem_map.mp hx
    have := kh.nlen (k.pl p hp)
    simp only [dstr, Wf, decide_eq_true_eq]
    omega
  · obtain ⟨p, hp, rfl⟩ := List.mem_map.mp hx
    have := sn_size kh k hp
    exact wf_small (by omega) (by omega)
section
variable {h : Hs} {bs : List Int}
theorem e_need_house (kh : HsOk h) : f_need_house [h.enc] = .ok (.fz .none) := by
  unfold f_need_house m_need_house
  rw [fnP_eq]
  have := e_is_house h.enc (by decide) (wf_enc kh)
  rw [isHouse_enc kh] at this
  simp [this]
theorem e_need_bearers (kh : HsOk h) (kb : BsOk bs) : f_need_bearers [h.enc, eBs bs] = .ok (.fz .none) := by
  unfold f_need_bearers m_need_bearers
  rw [fnP_eq]
  have h1 := e_need_house kh
  have h2 := e_are_bearers (eBs bs) (by decide) (bs_ok kb).2
  rw [(bs_ok kb).1] at h2
  simp [h1, h2]
theorem e_need_stand (kh : HsOk h) (kb : BsOk bs) {s : Sn} (ks : SnOk h bs.length s) : f_need_stand [h.enc, eBs bs, s.enc] = .ok (.fz .none) := by
  unfold f_need_stand m_need_stand
  rw [fnP_eq]
  have h1 := e_need_bearers kh kb
  have h2 := e_is_standing kh (bs.map dint) s.enc (by decide) (sn_wf kh kb.n3 ks)
  rw [List.length_map, sn_standing ks] at h2
  have h2' : f_is_standing [h.enc, eBs bs, s.enc] = .ok (.fz (.bool true)) := h2
  simp [h1, h2']
theorem e_need_places (kh : HsOk h) (kb : BsOk bs) {ps : List Str} (hn : ps.length = bs.length) (hp : ∀ p ∈ ps, p ∈ h.names) : f_need_places [h.enc, eBs bs, .tuple (ps.map dstr)] = .ok (.fz .none) := by
  unfold f_need_places m_need_places
  rw [fnP_eq]
  have h1 := e_need_bearers kh kb
  have hw : Wf 100 (.tuple (ps.map dstr)) = true := by
    simp only [Wf, Bool.and_eq_true, decide_eq_true_eq, List.length_map, WfAll_iff]
    refine ⟨by have := kb.n3; omega, fun x hx => ?_⟩
    obtain ⟨p, hpp, rfl⟩ := List.mem_map.mp hx
    have := kh.nlen (hp p hpp)
    simp only [dstr, Wf, decide_eq_true_eq]
    omega
  have h2 := e_are_places kh (bs.map dint) (.tuple (ps.map dstr)) (by decide) hw
  have h3 : arePlaces h.names (bs.map dint).length (.tuple (ps.map dstr)) = true := by
    unfold arePlaces
    simp only [Bool.and_eq_true, decide_eq_true_eq, List.length_map, List.all_eq_true]
    refine ⟨by rw [hn], fun x hx => ?_⟩
    obtain ⟨p, hpp, rfl⟩ := List.mem_map.mp hx
    simp [dstr, hp p hpp]
  rw [h3] at h2
  have h2' : f_are_places [h.enc, eBs bs, .tuple (ps.map dstr)] = .ok (.fz (.bool true)) := h2
  simp [h1, h2']
theorem e_is_stand (kh : HsOk h) (kb : BsOk bs) (d : Da) {l : Nat} (hl : l ≤ 100000) (hd : Wf l d = true) : f_is_stand [h.enc, eBs bs, d] = .ok (.fz (.bool (isStanding h bs.length d))) := by
  unfold f_is_stand m_is_stand
  rw [fnP_eq]
  have h1 := e_need_bearers kh kb
  have h2 := e_is_standing kh (bs.map dint) d hl hd
  rw [List.length_map] at h2
  have h2' : f_is_standing [h.enc, eBs bs, d] = .ok (.fz (.bool (isStanding h bs.length d))) := h2
  simp [h1, h2']
theorem e_full_stand (kh : HsOk h) (kb : BsOk bs) {ps : List Str} (hn : ps.length = bs.length) (hp : ∀ p ∈ ps, p ∈ h.names) : f_full_stand [h.enc, eBs bs, .tuple (ps.map dstr)] = .ok (.fz (.tuple [.tuple (ps.map dstr), .tuple (h.caps.map dint)])) := by
  unfold f_full_stand m_full_stand
  rw [fnP_eq]
  have h1 := e_need_places kh kb hn hp
  have h2 := e_caps_of kh
  simp [h1, h2]
end
end Mi
set_option Elab.async false
set_option linter.all false
set_option maxRecDepth 100000
set_option autoImplicit false
/-! draws -/
namespace Mi
open PySem PySem.Spec PyProof.Rows L2 Sh

structure DkIs (n : Nat) (a b t : Int) : Prop where
  b0 : 0 ≤ b
  b1 : b < 2147483579
  t0 : 0 ≤ t
  t1 : t ≤ n
def DkOk (n : Nat) (dk : List Da) : Prop := ∃ a b t : Int, dk = [.int a, .int b, .int t] ∧ DkIs n a b t
theorem DkOk.mono {n m : Nat} {dk : List Da} (h : DkOk n dk) (k : n ≤ m) : DkOk m dk := by
  obtain ⟨a, b, t, e, q⟩ := h
  exact ⟨a, b, t, e, q.b0, q.b1, q.t0, by have := q.t1; omega⟩
/-- a draw: at most c picks -/
def Dr (g : List Da → List Da → Rs (Sl × List Da)) (args : List Da) (c : Nat) (P : Sl → Prop) : Prop :=
  ∀ n dk, n + c ≤ 100000000 → DkOk n dk → ∃ s dk', g dk args = .ok (s, dk') ∧ P s ∧ DkOk (n + c) dk'
theorem e_deck (cell turn : Int) (n : Nat) (h0 : 0 ≤ turn) (h1 : turn ≤ n) : ∃ dk, f_law_deck [.int cell, .int turn] = .ok (.ow (.list dk)) ∧ DkOk n dk := by
  unfold f_law_deck m_law_deck
  have hp : opPow [.int 10, .int 18] = some (.fz (.int 1000000000000000000)) := rfl
  have hm : opMod [.int cell, .int 2147483579] = some (.fz (.int (cell % 2147483579))) := rfl
  have b0 : 0 ≤ cell % 2147483579 := Int.emod_nonneg _ (by decide)
  have b1 : cell % 2147483579 < 2147483579 := Int.emod_lt_of_pos _ (by decide)
  by_cases h : (1000000000000000000 : Int) ≤ cell
  · refine ⟨[.int (cell - 1000000000000000000), .int (cell % 2147483579), .int turn], ?_, _, _, _, rfl, b0, b1, h0, h1⟩
    rw [fnP_eq]
    simp [hp, hm, h]
  · refine ⟨[.int 0, .int (cell % 2147483579), .int turn], ?_, _, _, _, rfl, b0, b1, h0, h1⟩
    rw [fnP_eq]
    simp [hp, hm, h]
theorem ixN3 (x y z : Da) : ixN [x, y, z].length 0 = some 0 ∧ ixN [x, y, z].length 2 = some 2 := ⟨rfl, rfl⟩
theorem e_pick (size : Int) (h0 : 0 < size) (h1 : size < 1073741824) : Dr f_law_pick [.int size] 1 fun s => ∃ v : Int, s = .fz (.int v) ∧ 0 ≤ v ∧ v < size := by
  intro n dk hn hd
  obtain ⟨a, b, t, rfl, q⟩ := hd
  have q0 := q.b0
  have q1 := q.b1
  have q2 := q.t0
  have q3 := q.t1
  unfold f_law_pick m_law_pick
  by_cases h : (1 : Int) < a
  · have hm : opMod [.int a, .int size] = some (.fz (.int (a % size))) := by simp [opMod, h0]
    have hf : opFdiv [.int a, .int size] = some (.fz (.int (a / size))) := by simp [opFdiv, h0, h1]
    refine ⟨.fz (.int (a % size)), [.int (a / size), .int b, .int t], ?_, ⟨_, rfl, Int.emod_nonneg _ (by omega), Int.emod_lt_of_pos _ h0⟩, _, _, _, rfl, q0, q1, q2, by omega⟩
    rw [fnD_eq]
    simp [h, hm, hf, ixN]
  · have hmul : opMul [.int 15485867, .int (t + 1)] = some (.fz (.int (15485867 * (t + 1)))) := by
      rw [opMul, if_pos ⟨by decide, by omega⟩]
    have hpow : opPow [.int (b + 15485867 * (t + 1)), .int 5] = some (.fz (.int ((b + 15485867 * (t + 1)) ^ 5))) := by
      rw [opPow, if_pos ⟨by decide, by decide, by omega⟩]
      rfl
    have hm1 : ∀ x : Int, opMod [.int x, .int 2147483647] = some (.fz (.int (x % 2147483647))) := fun x => rfl
    have hm2 : ∀ x : Int, opMod [.int x, .int 2147483629] = some (.fz (.int (x % 2147483629))) := fun x => rfl
    have hf : ∀ x : Int, opFdiv [.int x, .int 32] = some (.fz (.int (x / 32))) := fun x => rfl
    have hmul2 : opMul [.int 7919, .int (t + 1)] = some (.fz (.int (7919 * (t + 1)))) := by
      rw [opMul, if_pos ⟨by decide, by omega⟩]
    have hz : ∀ y : Int, 0 ≤ y → y < 2147483647 → opPow [.int (y + 7919 * (t + 1)), .int 3] = some (.fz (.int ((y + 7919 * (t + 1)) ^ 3))) := fun y hy hy2 => by
      rw [opPow, if_pos ⟨by decide, by decide, by omega⟩]
      rfl
    have hm3 : ∀ x : Int, opMod [.int x, .int size] = some (.fz (.int (x % size))) := fun x => by simp [opMod, h0]
    generalize hy : (b + 15485867 * (t + 1)) ^ 5 % 2147483647 = y
    have y0 : 0 ≤ y := by rw [← hy]; exact Int.emod_nonneg _ (by decide)
    have y1 : y < 2147483647 := by rw [← hy]; exact Int.emod_lt_of_pos _ (by decide)
    have hz' := hz y y0 y1
    refine ⟨.fz (.int ((y + 7919 * (t + 1)) ^ 3 % 2147483629 / 32 % size)), [.int a, .int b, .int (t + 1)], ?_, ⟨_, rfl, Int.emod_nonneg _ (by omega), Int.emod_lt_of_pos _ h0⟩, _, _, _, rfl, q0, q1, by omega, by omega⟩
    rw [fnD_eq]
    simp [h, hmul, hpow, hm1, hm2, hf, hmul2, hz', hm3, ixN, hy]
theorem e_one (xs : List Da) (d : Da) (hd : d = .list xs ∨ d = .tuple xs) (h0 : xs ≠ []) (h1 : xs.length < 1000000) : Dr f_law_one [d] 1 fun s => ∃ x ∈ xs, s = .fz x := by
  intro n dk hn hk
  have hpos : 0 < xs.length := List.length_pos_iff.mpr h0
  obtain ⟨s, dk', e, ⟨v, rfl, v0, v1⟩, k⟩ := e_pick (xs.length : Int) (by omega) (by omega) n dk hn hk
  obtain ⟨j, rfl⟩ := Int.eq_ofNat_of_zero_le v0
  have hj : j < xs.length := by omega
  refine ⟨.fz xs[j], dk', ?_, ⟨_, List.getElem_mem hj, rfl⟩, k⟩
  unfold f_law_one m_law_one
  rw [fnD_eq]
  have hix : atI xs (j : Int) = some xs[j] := by rw [Sh.atI_nat, List.getElem?_eq_getElem hj]
  rcases hd with rfl | rfl <;> simp [e, hix]
end Mi
set_option Elab.async false
set_option linter.all false
set_option maxRecDepth 100000
set_option autoImplicit false
/-! sorts, sameness -/
namespace Mi
open PySem PySem.Spec PyProof.Rows L2 Sh

def kindN : Da → Int
  | .bool _ => 1
  | .int _ => 2
  | .str _ => 3
  | .list _ => 4
  | .tuple _ => 5
  | _ => 6
@[simp] theorem e_sort (d : Da) : f_law_sort [d] = .ok (.fz (.int (kindN d))) := by
  unfold f_law_sort m_law_sort
  rw [fnP_eq]
  cases d <;> simp [kindN, PyData.isBool, PyData.isInt, PyData.isStr, PyData.isList, PyData.isTuple]
def isWhole : Da → Bool
  | .int _ => true
  | _ => false
@[simp] theorem e_whole (d : Da) : f_law_whole [d] = .ok (.fz (.bool (isWhole d))) := by
  unfold f_law_whole m_law_whole
  rw [fnP_eq]
  cases d <;> simp [isWhole, PyData.isBool, PyData.isInt]
@[simp] theorem e_law_in (d : Da) (lo hi : Int) : f_law_in [d, .int lo, .int hi] = .ok (.fz (.bool (isFrom d lo hi))) := by
  unfold f_law_in m_law_in
  rw [fnP_eq]
  cases d <;> simp [isWhole, isFrom]
  rename_i i
  by_cases h1 : lo ≤ i <;> by_cases h2 : i ≤ hi <;> simp [h1, h2]
mutual
theorem eqv_refl : ∀ {d : Da}, d.plain = true → PyData.eqv d d = true
  | .none, _ => rfl
  | .bool b, _ => by simp [PyData.eqv]
  | .int i, _ => by simp [PyData.eqv]
  | .str z, _ => by simp [PyData.eqv]
  | .list xs, h => by
    rw [PyData.plain] at h
    rw [PyData.eqv]
    exact eqvAll_refl h
  | .tuple xs, h => by
    rw [PyData.plain] at h
    rw [PyData.eqv]
    exact eqvAll_refl h
  | .dict _, h => by simp [PyData.plain] at h
theorem eqvAll_refl : ∀ {xs : List Da}, PyData.plainAll xs = true → PyData.eqvAll xs xs = true
  | [], _ => rfl
  | x :: xs, h => by
    rw [PyData.plainAll, Bool.and_eq_true] at h
    rw [PyData.eqvAll, eqv_refl h.1, eqvAll_refl h.2]
    rfl
end
theorem op_eq_refl {d : Da} (hp : d.plain = true) (hd : d.depth ≤ 60) : opEq [d, d] = some (.fz (.bool true)) := by
  have : okc d d = true := by
    unfold okc
    rw [hp]
    simp
    omega
  rw [opEq, if_pos this, eqv_refl hp]
@[simp] theorem op_eq_bb (a b : Bool) : opEq [.bool a, .bool b] = some (.fz (.bool (a == b))) := rfl
@[simp] theorem op_eq_nil (a : List Da) (h : PyData.plainAll a = true) : opEq [.list a, .list []] = some (.fz (.bool a.isEmpty)) := by
  have : okc (.list a) (.list []) = true := by
    unfold okc
    simp [PyData.plain, h, PyData.plainAll, PyData.depth, PyData.depthAll]
  rw [opEq, if_pos this]
  simp [PyData.eqv, eqv_nil]
theorem same_bool (n : Nat) (a b : Bool) : r_law_same (n + 1) [.bool a, .bool b] = .ok (.fz (.bool (a == b))) := by
  rw [r_law_same, fnP_eq]
  unfold mb_law_same
  simp [kindN]
theorem same_none (n : Nat) : r_law_same (n + 1) [.none, .none] = .ok (.fz (.bool true)) := by
  rw [r_law_same, fnP_eq]
  unfold mb_law_same
  have : opEq [.none, .none] = some (.fz (.bool true)) := rfl
  simp [kindN, this]
theorem same_refl {l : Nat} (hl : l ≤ 100000) : ∀ (n : Nat) (d : Da), Wf l d = true → d.depth ≤ n → d.depth ≤ 60 → r_law_same (n + 1) [d, d] = .ok (.fz (.bool true)) := by
  intro n
  induction n with
  | zero =>
    intro d hw hd _
    rw [r_law_same, fnP_eq]
    unfold mb_law_same
    have ho := op_eq_refl (Wf.plain hw) (by omega)
    cases d with
    | list xs => simp [PyData.depth] at hd
    | tuple xs => simp [PyData.depth] at hd
    | dict _ => simp [Wf] at hw
    | _ => simp [kindN, ho]
  | succ n ih =>
    intro d hw hd h60
    rw [r_law_same, fnP_eq]
    unfold mb_law_same
    have ho := op_eq_refl (Wf.plain hw) h60
    have seq : ∀ (xs : List Da) (D : Da), (D = .list xs ∨ D = .tuple xs) → Wf l D = true → D.depth ≤ n + 1 → D.depth ≤ 60 →
        mLc ⟨[.sl 0], itEnum⟩ (.tp [.nm 2, .nm 3]) (mNot (mTE (mCall (r_law_same (n + 1)) [.sl 3, .ex (mPure opIx [.sl 1, .sl 2])]))) (mVar 2) [2, 3] [.fz D, .fz D, .no, .no] = .ok (.ow (.list []), [.fz D, .fz D, .no, .no]) := fun xs D hD hwD hdD h60D => by
      have facts : xs.length ≤ l ∧ (∀ x ∈ xs, Wf l x = true) ∧ ∀ x ∈ xs, x.depth ≤ n ∧ x.depth ≤ 60 := by
        rcases hD with rfl | rfl
        · have := Wf.lst hwD
          rw [PyData.depth] at hdD h60D
          exact ⟨this.1, this.2, fun x hx => ⟨(depthAll_le.mp (by omega)) x hx, (depthAll_le.mp (show PyData.depthAll xs ≤ 60 by omega)) x hx⟩⟩
        · have := Wf.tup hwD
          rw [PyData.depth] at hdD h60D
          exact ⟨this.1, this.2, fun x hx => ⟨(depthAll_le.mp (by omega)) x hx, (depthAll_le.mp (show PyData.depthAll xs ≤ 60 by omega)) x hx⟩⟩
      obtain ⟨f1, f2, f3⟩ := facts
      have it : itEnum [D] = some (enumD 0 xs) := by rcases hD with rfl | rfl <;> rfl
      have := Sh.lc_filter (it := ⟨[.sl 0], itEnum⟩) (t := .tp [.nm 2, .nm 3]) (tt := mNot (mTE (mCall (r_law_same (n + 1)) [.sl 3, .ex (mPure opIx [.sl 1, .sl 2])]))) (elt := mVar 2) (vs := [2, 3]) (en := [.fz D, .fz D, .no, .no]) (os := [.at 0]) (ds := [D]) (items := enumD 0 xs) (fun _ => false) id (by simp) (by simp) it (by simp) (by simp) (by simp) (by simp) (by rw [enumD_len]; omega) fun d hd => by
        obtain ⟨i, hi⟩ := List.getElem?_of_mem hd
        obtain ⟨x, hx, rfl⟩ := enumD_get hi
        have hm := List.mem_of_getElem? hx
        have hs := ih x (f2 x hm) (f3 x hm).1 (f3 x hm).2
        have hix : opIx [D, .int ((0 + i : Nat) : Int)] = some (.fz x) := by
          rcases hD with rfl | rfl <;> simp [Sh.atI_nat, hx]
        refine ⟨[.fz D, .fz D, .fz (.int ((0 + i : Nat) : Int)), .fz x], [.fz D, .fz D, .fz (.int ((0 + i : Nat) : Int)), .fz x], by simp, ?_, fun z => (Bool.noConfusion z), fun _ => by simp⟩
        simp only [Nat.zero_add] at hix
        simp [hix, hs]
      have ef : (enumD 0 xs).filter (fun _ => false) = [] := List.filter_eq_nil_iff.mpr (fun _ _ => by simp)
      rw [ef] at this
      simpa using this
    have e00 : opEq [.list [], .list []] = some (.fz (.bool true)) := rfl
    cases d with
    | list xs =>
      have hq := seq xs (.list xs) (.inl rfl) hw hd h60
      simp [kindN, hq, e00]
    | tuple xs =>
      have hq := seq xs (.tuple xs) (.inr rfl) hw hd h60
      simp [kindN, hq, e00]
    | dict _ => simp [Wf] at hw
    | _ => simp [kindN, ho]
end Mi
set_option Elab.async false
set_option linter.all false
set_option maxRecDepth 100000
set_option autoImplicit false
/-! bearers, places, stands drawn -/
namespace Mi
open PySem PySem.Spec PyProof.Rows L2 Sh

inductive Al2 {α β : Type} (R : α → β → Prop) : List α → List β → Prop
  | nil : Al2 R [] []
  | cons {a : α} {b : β} {as : List α} {bs : List β} : R a b → Al2 R as bs → Al2 R (a :: as) (b :: bs)
theorem Al2.len {α β : Type} {R : α → β → Prop} {as : List α} {bs : List β} (h : Al2 R as bs) : as.length = bs.length := by
  induction h with
  | nil => rfl
  | cons _ _ ih => simp [ih]
theorem Al2.get {α β : Type} {R : α → β → Prop} : ∀ {as : List α} {bs : List β} {i : Nat} {a : α} {b : β}, Al2 R as bs → as[i]? = some a → bs[i]? = some b → R a b
  | _, _, _, _, _, .nil, h, _ => by simp at h
  | _, _, 0, _, _, .cons r _, h1, h2 => by simp at h1 h2; subst h1; subst h2; exact r
  | _, _, i + 1, _, _, .cons _ t, h1, h2 => t.get (i := i) (by simpa using h1) (by simpa using h2)
/-- the results are of a kind -/
theorem Al2.ofs {α β γ : Type} {R : α → β → Prop} {f : γ → β} {P : α → γ → Prop} (k : ∀ a b, R a b → ∃ c, b = f c ∧ P a c) : ∀ {as : List α} {bs : List β}, Al2 R as bs → ∃ cs, bs = cs.map f ∧ Al2 P as cs
  | _, _, .nil => ⟨[], rfl, .nil⟩
  | _, _, .cons r t => by
    obtain ⟨c, rfl, h⟩ := k _ _ r
    obtain ⟨cs, rfl, h2⟩ := Al2.ofs k t
    exact ⟨c :: cs, rfl, .cons h h2⟩
theorem Al2.right {α β : Type} {R : α → β → Prop} : ∀ {as : List α} {bs : List β}, Al2 R as bs → ∀ b ∈ bs, ∃ a ∈ as, R a b
  | _, _, .nil, b, h => by simp at h
  | _, _, .cons r t, b, h => by
    rcases List.mem_cons.mp h with e | h
    · subst e; exact ⟨_, by simp, r⟩
    · obtain ⟨a, h1, h2⟩ := t.right b h
      exact ⟨a, by simp [h1], h2⟩
/-- a comprehension that draws in each turn -/
theorem lcL_dk {os : List Op} {ds : List Da} {t : Tg} {elt : ME} {vs : List Nat} {rest : En} (c : Nat) (Q : Da → Da → Prop) (hres : ∀ dk, resAll (.ow (.list dk) :: rest) os = some ds) :
    ∀ (items acc : List Da), acc.length + items.length ≤ 1000000 → (∀ d ∈ items, ∀ n dk, n + c ≤ 100000000 → DkOk n dk → ∃ e1 s e3 y dk', asg t d (.ow (.list dk) :: rest) = some e1 ∧ elt e1 = .ok (s, e3) ∧ s.dat = some y ∧ Q d y ∧ wipeE e3 vs = .ow (.list dk') :: rest ∧ DkOk (n + c) dk') →
    ∀ n dk, n + c * items.length ≤ 100000000 → DkOk n dk → ∃ ys dk', lcL os ds t mYes elt vs items acc (.ow (.list dk) :: rest) = .ok (acc ++ ys, .ow (.list dk') :: rest) ∧ Al2 Q items ys ∧ DkOk (n + c * items.length) dk'
  | [], acc, _, _, n, dk, _, hk => ⟨[], dk, by rw [lcL, if_pos (hres dk)]; simp, .nil, by simpa using hk⟩
  | d :: r, acc, hl, step, n, dk, hn, hk => by
    have hl' : acc.length + (r.length + 1) ≤ 1000000 := hl
    have hn' : n + c * (r.length + 1) ≤ 100000000 := hn
    rw [Nat.mul_add, Nat.mul_one] at hn'
    obtain ⟨e1, s, e3, y, dk', h1, h2, h3, h4, h5, h6⟩ := step d (by simp) n dk (by omega) hk
    obtain ⟨ys, dk2, k1, k2, k3⟩ := lcL_dk (t := t) (elt := elt) (vs := vs) c Q hres r (acc ++ [y]) (by simp; omega) (fun d hd => step d (by simp [hd])) (n + c) dk' (by omega) h6
    refine ⟨y :: ys, dk2, ?_, .cons h4 k2, k3.mono (by simp [Nat.mul_add]; omega)⟩
    rw [lcL, if_pos (hres dk)]
    simp only [h1, ev_yes, ev_nx, ev_bok, if_true, h2, h3, h5]
    rw [if_pos (by omega), k1]
    simp
theorem itRng_nat (k : Nat) (h : k < 1000) : itRng [.int (k : Int)] = some ((List.range k).map fun k : Nat => .int (k : Int)) := by
  have h1 : (k : Int) < 1000 ∧ -1000 < (k : Int) := ⟨by omega, by omega⟩
  simp only [itRng, h1, and_self, if_true, Int.toNat_natCast]
def Pb (y : Da) : Prop := ∃ b : Int, y = dint b ∧ 0 ≤ b ∧ b ≤ 3
theorem five_in {x : Da} (hx : x ∈ ([.int 1, .int 1, .int 2, .int 0, .int 3] : List Da)) : Pb x := by
  simp only [List.mem_cons, List.not_mem_nil, or_false] at hx
  rcases hx with rfl | rfl | rfl | rfl | rfl
  · exact ⟨1, rfl, by omega, by omega⟩
  · exact ⟨1, rfl, by omega, by omega⟩
  · exact ⟨2, rfl, by omega, by omega⟩
  · exact ⟨0, rfl, by omega, by omega⟩
  · exact ⟨3, rfl, by omega, by omega⟩
theorem bearers_turn (most : Int) (d : Da) (n : Nat) (dk : List Da) (hn : n + 1 ≤ 100000000) (hk : DkOk n dk) : ∃ e1 s e3 y dk', asg (.nm 2) d (.ow (.list dk) :: [.fz (.int most), .no]) = some e1 ∧ (mCallD (f_law_one) 0 [.ex (mPure opLst (exs [mK (.int 1), mK (.int 1), mK (.int 2), mK (.int 0), mK (.int 3)]))]) e1 = .ok (s, e3) ∧ s.dat = some y ∧ Pb y ∧ wipeE e3 [2] = .ow (.list dk') :: [.fz (.int most), .no] ∧ DkOk (n + 1) dk' := by
  obtain ⟨s, dk', e, ⟨x, hx, rfl⟩, k⟩ := e_one [.int 1, .int 1, .int 2, .int 0, .int 3] (.list [.int 1, .int 1, .int 2, .int 0, .int 3]) (.inl rfl) (by simp) (by simp) n dk hn hk
  exact ⟨[.ow (.list dk), .fz (.int most), .fz d], .fz x, [.ow (.list dk'), .fz (.int most), .fz d], x, dk', rfl, by simp [e], rfl, five_in hx, by simp, k⟩
theorem e_bearers (most : Int) (h1 : 1 ≤ most) (h3 : most ≤ 3) : Dr f_law_bearers [.int most] 4 fun s => ∃ bs, s = .fz (eBs bs) ∧ BsOk bs ∧ (bs.length : Int) ≤ most ∧ ∀ b ∈ bs, b ≤ 3 := by
  intro n dk hn hk
  obtain ⟨s, dk1, e, ⟨v, rfl, v0, v1⟩, k1⟩ := e_pick most (by omega) (by omega) n dk (by omega) hk
  obtain ⟨j, rfl⟩ := Int.eq_ofNat_of_zero_le v0
  have hj : j ≤ 2 := by omega
  generalize hit' : ((List.range (1 + j)).map fun k : Nat => (PyData.int (k : Int) : Da)) = items
  have hil : items.length = 1 + j := by rw [← hit']; simp
  obtain ⟨ys, dk2, e2, al, k2⟩ := lcL_dk (os := [.va (.int (1 + (j : Int)))]) (ds := [.int (1 + (j : Int))]) (t := .nm 2) (elt := mCallD (f_law_one) 0 [.ex (mPure opLst (exs [mK (.int 1), mK (.int 1), mK (.int 2), mK (.int 0), mK (.int 3)]))]) (vs := [2]) (rest := [.fz (.int most), .no]) 1 (fun _ y => Pb y) (fun dk => rfl)
    items [] (by rw [hil, List.length_nil]; omega) (fun d hd n dk hn hk => bearers_turn most d n dk hn hk) (n + 1) dk1 (by rw [hil]; omega) k1
  obtain ⟨bs, rfl, al2⟩ := al.ofs (f := dint) (P := fun _ b => 0 ≤ b ∧ b ≤ 3) fun a b ⟨c, e, h⟩ => ⟨c, e, h⟩
  have hlen := al2.len
  rw [hil] at hlen k2
  refine ⟨.fz (eBs bs), dk2, ?_, ⟨bs, rfl, ⟨by omega, by omega, fun b hb => ?_⟩, by omega, fun b hb => ?_⟩, k2.mono (by omega)⟩
  · unfold f_law_bearers m_law_bearers
    rw [fnD_eq]
    have hit : itRng [.int (1 + (j : Int))] = some items := by
      rw [← hit', show (1 + (j : Int)) = ((1 + j : Nat) : Int) by omega]
      exact itRng_nat _ (by omega)
    simp at e2
    simp [e, ev_lc, hit, e2, opTuple, eBs]
  · obtain ⟨_, _, h⟩ := al2.right b hb
    omega
  · obtain ⟨_, _, h⟩ := al2.right b hb
    exact h.2
theorem e_places {h : Hs} (kh : HsOk h) (bs : List Da) (hb : bs.length ≤ 1000) : Dr f_law_places [h.enc, .tuple bs] bs.length fun s => ∃ ps : List Str, s = .fz (.tuple (ps.map dstr)) ∧ ps.length = bs.length ∧ ∀ p ∈ ps, p ∈ h.names := by
  intro n dk hn hk
  have hlc := lcL_dk (os := [.at 2]) (ds := [.tuple bs]) (t := .nm 3) (elt := mPure opIx [.ex (mCallD (f_law_one) 0 [.ex (mPure opIx [.sl 1, .ex (mK (.int 0))])]), .ex (mK (.int 0))]) (vs := [3]) (rest := [.fz h.enc, .fz (.tuple bs), .no]) 1 (fun _ y => ∃ z : Str, y = dstr z ∧ z ∈ h.names) (fun dk => rfl)
    bs [] (by simp; omega) (fun d hd n dk hn hk => by
      obtain ⟨s, dk', e, ⟨x, hx, rfl⟩, k⟩ := e_one (h.rooms.map eRoom) (.tuple (h.rooms.map eRoom)) (.inr rfl) (by simpa using kh.n1) (by have := kh.n5; simp; omega) n dk hn hk
      obtain ⟨r, hr, rfl⟩ := List.mem_map.mp hx
      refine ⟨_, .fz (.str r.1), [.ow (.list dk'), .fz h.enc, .fz (.tuple bs), .fz d], .str r.1, dk', rfl, by simp [e, eRoom], rfl, ⟨r.1, rfl, List.mem_map.mpr ⟨r, hr, rfl⟩⟩, by simp, k⟩) n dk
  obtain ⟨ys, dk2, e2, al, k2⟩ := hlc (by omega) hk
  obtain ⟨ps, rfl, al2⟩ := al.ofs (f := dstr) (P := fun _ b => b ∈ h.names) fun a b ⟨c, e, h⟩ => ⟨c, e, h⟩
  have hlen := al2.len
  refine ⟨.fz (.tuple (ps.map dstr)), dk2, ?_, ⟨ps, rfl, hlen.symm, fun b hb => ?_⟩, k2.mono (by simp)⟩
  · unfold f_law_places m_law_places
    rw [fnD_eq]
    simp at e2
    simp [ev_lc, itSeq, e2, opTuple]
  · obtain ⟨_, _, h⟩ := al2.right b hb
    exact h
end Mi
set_option Elab.async false
set_option linter.all false
set_option maxRecDepth 100000
set_option autoImplicit false
/-! stands drawn; odd and spoilt things -/
namespace Mi
open PySem PySem.Spec PyProof.Rows L2 Sh

def Qs (d y : Da) : Prop := ∃ (r : Str × Int × Int) (x : Int), d = eRoom r ∧ y = dint x ∧ 0 ≤ x ∧ x ≤ r.2.1
theorem stand_turn {h : Hs} (kh : HsOk h) (B : Da) (r : Str × Int × Int) (hr : r ∈ h.rooms) (n : Nat) (dk : List Da) (hn : n + 2 ≤ 100000000) (hk : DkOk n dk) :
    ∃ e1 s e3 y dk', asg (.nm 4) (eRoom r) (.ow (.list dk) :: [.fz h.enc, .fz B, .no, .no]) = some e1 ∧ (mCallD (f_law_one) 0 [.ex (mPure opLst (exs [mPure opIx [.sl 4, .ex (mK (.int 1))], mPure opIx [.sl 4, .ex (mK (.int 1))], mCallD (f_law_pick) 0 [.ex (mPure opAdd [.ex (mPure opIx [.sl 4, .ex (mK (.int 1))]), .ex (mK (.int 1))])]]))]) e1 = .ok (s, e3) ∧ s.dat = some y ∧ Qs (eRoom r) y ∧ wipeE e3 [4] = .ow (.list dk') :: [.fz h.enc, .fz B, .no, .no] ∧ DkOk (n + 2) dk' := by
  obtain ⟨_, c0, c1, _, _⟩ := kh.room r hr
  obtain ⟨s, dk1, e, ⟨v, rfl, v0, v1⟩, k1⟩ := e_pick (r.2.1 + 1) (by omega) (by omega) n dk (by omega) hk
  obtain ⟨s, dk2, e2, ⟨x, hx, rfl⟩, k2⟩ := e_one [.int r.2.1, .int r.2.1, .int v] (.list [.int r.2.1, .int r.2.1, .int v]) (.inl rfl) (by simp) (by simp) (n + 1) dk1 (by omega) k1
  refine ⟨[.ow (.list dk), .fz h.enc, .fz B, .no, .fz (eRoom r)], .fz x, [.ow (.list dk2), .fz h.enc, .fz B, .no, .fz (eRoom r)], x, dk2, rfl, ?_, rfl, ?_, by simp, k2⟩
  · have hix : opIx [eRoom r, .int 1] = some (.fz (.int r.2.1)) := rfl
    simp [hix, e, e2]
  · simp only [List.mem_cons, List.not_mem_nil, or_false] at hx
    rcases hx with rfl | rfl | rfl
    · exact ⟨r, r.2.1, rfl, rfl, by omega, by omega⟩
    · exact ⟨r, r.2.1, rfl, rfl, by omega, by omega⟩
    · exact ⟨r, v, rfl, rfl, by omega, by omega⟩
theorem e_stand {h : Hs} (kh : HsOk h) (bs : List Int) (hb : bs.length ≤ 3) : Dr f_law_stand [h.enc, eBs bs] 13 fun s => ∃ t : Sn, s = .fz t.enc ∧ SnOk h bs.length t := by
  intro n dk hn hk
  have h5 := kh.n5
  obtain ⟨ys, dk1, e1, al, k1⟩ := lcL_dk (os := [.va (.tuple (h.rooms.map eRoom))]) (ds := [.tuple (h.rooms.map eRoom)]) (t := .nm 4) (elt := mCallD (f_law_one) 0 [.ex (mPure opLst (exs [mPure opIx [.sl 4, .ex (mK (.int 1))], mPure opIx [.sl 4, .ex (mK (.int 1))], mCallD (f_law_pick) 0 [.ex (mPure opAdd [.ex (mPure opIx [.sl 4, .ex (mK (.int 1))]), .ex (mK (.int 1))])]]))]) (vs := [4]) (rest := [.fz h.enc, .fz (eBs bs), .no, .no]) 2 Qs (fun dk => rfl)
    (h.rooms.map eRoom) [] (by simp; omega) (fun d hd n dk hn hk => by
      obtain ⟨r, hr, rfl⟩ := List.mem_map.mp hd
      exact stand_turn kh (eBs bs) r hr n dk hn hk) n dk (by simp; omega) hk
  obtain ⟨xs, rfl, al2⟩ := al.ofs (f := dint) (P := fun d x => ∃ r : Str × Int × Int, d = eRoom r ∧ 0 ≤ x ∧ x ≤ r.2.1) fun a b ⟨r, x, e, e', h⟩ => ⟨x, e', r, e, h⟩
  obtain ⟨s, dk2, e2, ⟨ps, rfl, pn, pl⟩, k2⟩ := e_places kh (bs.map dint) (by simp; omega) (n + 2 * (h.rooms.map eRoom).length) dk1 (by simp; omega) k1
  have hlen := al2.len
  simp at hlen pn k2
  refine ⟨.fz (Sn.enc ⟨ps, xs⟩), dk2, ?_, ⟨⟨ps, xs⟩, rfl, pn, pl, hlen.symm, fun i x c e1 e2 => ?_⟩, k2.mono (by omega)⟩
  · unfold f_law_stand m_law_stand
    rw [fnD_eq]
    have e2' : f_law_places dk1 [h.enc, eBs bs] = .ok (.fz (.tuple (ps.map dstr)), dk2) := e2
    simp at e1
    simp [ev_lc, itSeq, e1, e2', opTuple, Sn.enc]
  · unfold Hs.caps at e2
    rw [List.getElem?_map] at e2
    cases er : h.rooms[i]? with
    | none => rw [er] at e2; cases e2
    | some r =>
      rw [er] at e2
      cases e2
      have ed : (h.rooms.map eRoom)[i]? = some (eRoom r) := by rw [List.getElem?_map, er]; rfl
      obtain ⟨r', e3, h1, h2⟩ := al2.get ed e1
      unfold eRoom at e3
      injection e3 with e3
      injection e3 with _ e3
      injection e3 with e3 _
      injection e3 with e3
      exact ⟨h1, by show x ≤ r.2.1; rw [e3]; exact h2⟩
/-! ### odd things -/
def oddL : List Da := [.none, .bool true, .str "", .str "a", .tuple [], .list [], .tuple [.tuple []], .int 7, .int (-1), .int 1000000000000000000000000000000, .tuple [.int 1, .int 2], .str "A", .tuple [.int 0, .str "a"], .list [.tuple [.int 0, .str "a"]], .tuple [.str "a"], .tuple [.bool true, .str "a"]]
theorem odd_wf : ∀ d ∈ oddL, Wf 100 d = true ∧ d.depth ≤ 2 := by
  intro d hd
  have h : oddL.all (fun d => Wf 100 d && decide (d.depth ≤ 2)) = true := by decide +kernel
  have := List.all_eq_true.mp h d hd
  simpa using this
theorem e_odd : Dr f_law_odd [] 1 fun s => ∃ d, s = .fz d ∧ d ∈ oddL := by
  intro n dk hn hk
  obtain ⟨s, dk', e, ⟨x, hx, rfl⟩, k⟩ := e_one oddL (.list oddL) (.inl rfl) (by simp [oddL]) (by simp [oddL]) n dk hn hk
  refine ⟨.fz x, dk', ?_, ⟨x, rfl, hx⟩, k⟩
  unfold f_law_odd m_law_odd
  rw [fnD_eq]
  have hp : opPow [.int 10, .int 30] = some (.fz (.int 1000000000000000000000000000000)) := rfl
  have hng : opNeg [.int 1] = some (.fz (.int (-1))) := rfl
  unfold oddL at e
  simp [hp, hng, e]
/-! ### spoilt things -/
mutual
theorem Wf.mono {l m : Nat} (h : l ≤ m) : ∀ {d : Da}, Wf l d = true → Wf m d = true
  | .none, _ => rfl
  | .bool _, _ => rfl
  | .int i, q => by simp only [Wf, decide_eq_true_eq] at q ⊢; omega
  | .str z, q => by simp only [Wf, decide_eq_true_eq] at q ⊢; omega
  | .list xs, q => by
    rw [Wf, Bool.and_eq_true, decide_eq_true_eq] at q ⊢
    exact ⟨by omega, WfAll.mono h q.2⟩
  | .tuple xs, q => by
    rw [Wf, Bool.and_eq_true, decide_eq_true_eq] at q ⊢
    exact ⟨by omega, WfAll.mono h q.2⟩
  | .dict _, q => by simp [Wf] at q
theorem WfAll.mono {l m : Nat} (h : l ≤ m) : ∀ {xs : List Da}, WfAll l xs = true → WfAll m xs = true
  | [], _ => rfl
  | x :: xs, q => by
    rw [WfAll, Bool.and_eq_true] at q ⊢
    exact ⟨Wf.mono h q.1, WfAll.mono h q.2⟩
end
theorem wf_lst {l : Nat} {xs : List Da} (h1 : xs.length ≤ l) (h2 : ∀ x ∈ xs, Wf l x = true) : Wf l (.list xs) = true ∧ Wf l (.tuple xs) = true := by
  simp only [Wf, Bool.and_eq_true, decide_eq_true_eq, WfAll_iff]
  exact ⟨⟨h1, h2⟩, ⟨h1, h2⟩⟩
theorem depth_lst {n : Nat} {xs : List Da} (h : ∀ x ∈ xs, x.depth ≤ n) : (PyData.list xs).depth ≤ n + 1 ∧ (PyData.tuple xs).depth ≤ n + 1 := by
  have := depthAll_le.mpr h
  simp only [PyData.depth]
  omega
end Mi
set_option Elab.async false
set_option linter.all false
set_option maxRecDepth 100000
set_option autoImplicit false
/-! spoilt things -/
namespace Mi
open PySem PySem.Spec PyProof.Rows L2 Sh

theorem text_wf {l : Nat} (h : 100 ≤ l) (hl : l ≤ 100000) {i : Int} (hi : i.natAbs ≤ 2 ^ 200 + l) : Wf l (.str (toString i)) = true := by
  have h1 : i.natAbs < 10 ^ 70 := Nat.lt_of_le_of_lt hi (Nat.lt_of_le_of_lt (Nat.add_le_add_left hl _) (by decide))
  have h2 := int_text_length_le10 (k := 70) (by decide) h1
  simp only [Wf, decide_eq_true_eq]
  have h3 : (Str.ofString (toString i)).length ≤ 71 := by rw [PySem.ofString_length]; exact h2
  exact Nat.le_trans h3 (by omega)
def Sp (l : Nat) (d d' : Da) : Prop := Wf (l + 1) d' = true ∧ d'.depth ≤ d.depth
theorem mem_take1 {xs : List Da} {x : Da} (h : x ∈ xs.take 1) : x ∈ xs := List.mem_of_mem_take h
/-- the five ways of a row -/
def five (D other : Da) (xs : List Da) (mk : List Da → Da) : List Da := [other, mk (xs ++ xs.take 1), mk xs.tail, mk xs.reverse, .none]
theorem five_ok {l : Nat} {D other : Da} {xs : List Da} {mk : List Da → Da} (h : (D = .list xs ∧ other = .tuple xs ∧ mk = .list) ∨ (D = .tuple xs ∧ other = .list xs ∧ mk = .tuple)) (hw : Wf l D = true) : ∀ d' ∈ five D other xs mk, Sp l D d' := by
  have facts : xs.length ≤ l ∧ (∀ x ∈ xs, Wf l x = true) ∧ D.depth = PyData.depthAll xs + 1 ∧ (∀ ys, Wf (l + 1) (mk ys) = true ↔ ys.length ≤ l + 1 ∧ ∀ y ∈ ys, Wf (l + 1) y = true) ∧ (∀ ys, (mk ys).depth = PyData.depthAll ys + 1) ∧ other.depth = PyData.depthAll xs + 1 ∧ Wf (l + 1) other = true := by
    rcases h with ⟨rfl, rfl, rfl⟩ | ⟨rfl, rfl, rfl⟩
    · obtain ⟨h1, h2⟩ := Wf.lst hw
      refine ⟨h1, h2, by rw [PyData.depth], fun ys => by simp only [Wf, Bool.and_eq_true, decide_eq_true_eq, WfAll_iff], fun ys => by rw [PyData.depth], by rw [PyData.depth], (wf_lst (by omega) fun x hx => Wf.mono (by omega) (h2 x hx)).2⟩
    · obtain ⟨h1, h2⟩ := Wf.tup hw
      refine ⟨h1, h2, by rw [PyData.depth], fun ys => by simp only [Wf, Bool.and_eq_true, decide_eq_true_eq, WfAll_iff], fun ys => by rw [PyData.depth], by rw [PyData.depth], (wf_lst (by omega) fun x hx => Wf.mono (by omega) (h2 x hx)).1⟩
  obtain ⟨h1, h2, h3, h4, h5, h6, h7⟩ := facts
  have hd : ∀ ys : List Da, (∀ y ∈ ys, y ∈ xs) → PyData.depthAll ys ≤ PyData.depthAll xs := fun ys hy => depthAll_le.mpr fun y hm => depthAll_le.mp (Nat.le_refl _) y (hy y hm)
  have hs : ∀ ys : List Da, (∀ y ∈ ys, y ∈ xs) → ys.length ≤ l + 1 → Sp l D (mk ys) := fun ys hy hl => ⟨(h4 ys).mpr ⟨hl, fun y hm => Wf.mono (by omega) (h2 y (hy y hm))⟩, by rw [h5, h3]; have := hd ys hy; omega⟩
  intro d' hd'
  simp only [five, List.mem_cons, List.not_mem_nil, or_false] at hd'
  rcases hd' with rfl | rfl | rfl | rfl | rfl
  · exact ⟨h7, by omega⟩
  · refine hs _ (fun y hy => ?_) (by simp; omega)
    rcases List.mem_append.mp hy with q | q
    · exact q
    · exact mem_take1 q
  · exact hs _ (fun y hy => List.mem_of_mem_tail hy) (by simp; omega)
  · exact hs _ (fun y hy => List.mem_reverse.mp hy) (by simp; omega)
  · exact ⟨rfl, by rw [PyData.depth]; omega⟩
theorem pick_of {L : List Da} {v : Int} (h0 : 0 ≤ v) (h1 : v < L.length) : ∃ d ∈ L, opIx [.list L, .int v] = some (.fz d) := by
  obtain ⟨j, rfl⟩ := Int.eq_ofNat_of_zero_le h0
  have hj : j < L.length := by omega
  exact ⟨L[j], List.getElem_mem hj, by simp [Sh.atI_nat, hj]⟩
@[simp] theorem sl_hi1L (xs : List Da) : opSlHi [.list xs, .int 1] = some (.ow (.list (xs.take 1))) := by
  show some (Sl.ow (.list (cutD xs none (some ((1 : Nat) : Int))))) = _
  rw [Sh.cutD_hi]
@[simp] theorem sl_hi1T (xs : List Da) : opSlHi [.tuple xs, .int 1] = some (.fz (.tuple (xs.take 1))) := by
  show some (Sl.fz (.tuple (cutD xs none (some ((1 : Nat) : Int))))) = _
  rw [Sh.cutD_hi]
@[simp] theorem sl_lo1L (xs : List Da) : opSlLo [.list xs, .int 1] = some (.ow (.list xs.tail)) := by
  show some (Sl.ow (.list (cutD xs (some ((1 : Nat) : Int)) none))) = _
  rw [Sh.cutD_lo, List.drop_one]
@[simp] theorem sl_lo1T (xs : List Da) : opSlLo [.tuple xs, .int 1] = some (.fz (.tuple xs.tail)) := by
  show some (Sl.fz (.tuple (cutD xs (some ((1 : Nat) : Int)) none))) = _
  rw [Sh.cutD_lo, List.drop_one]
theorem add_LL {a b : List Da} (h : a.length + b.length ≤ 1000000) : opAdd [.list a, .list b] = some (.ow (.list (a ++ b))) := by rw [opAdd, if_pos h]
theorem add_TT {a b : List Da} (h : a.length + b.length ≤ 1000000) : opAdd [.tuple a, .tuple b] = some (.fz (.tuple (a ++ b))) := by rw [opAdd, if_pos h]
noncomputable def mS2 : MS := mSeq (mSet 4 (mIf (mTE (mPure (opIsi "tuple") [.sl 1])) (mPure opList [.sl 1]) (mPure opTuple [.sl 1])))
    (mRet (mPure opIx [.ex (mPure opLst (exs [mVar 4, mPure opAdd [.sl 1, .ex (mPure opSlHi [.sl 1, .ex (mK (.int 1))])], mPure opSlLo [.sl 1, .ex (mK (.int 1))], mPure revd [.sl 1], mK (.none)])), .ex (mCallD (f_law_pick) 0 [.ex (mK (.int 5))])]))
theorem spoilt_row {l : Nat} (hl : l ≤ 100000) {D other : Da} {xs : List Da} {mk : List Da → Da} (h : (D = .list xs ∧ other = .tuple xs ∧ mk = .list) ∨ (D = .tuple xs ∧ other = .list xs ∧ mk = .tuple)) (hw : Wf l D = true) (n : Nat) (dk : List Da) (hn : n + 1 ≤ 100000000) (hk : DkOk n dk) :
    ∃ d' dk' en', mS2 [.ow (.list dk), .fz D, .no, .no, .no] = .ok (.rt (.fz d'), .ow (.list dk') :: en') ∧ Sp l D d' ∧ DkOk (n + 1) dk' := by
  obtain ⟨s, dk1, e, ⟨v, rfl, v0, v1⟩, k1⟩ := e_pick 5 (by decide) (by decide) n dk hn hk
  obtain ⟨d', hd', hix⟩ := pick_of (L := five D other xs mk) v0 (by simp [five]; omega)
  have hlen : xs.length ≤ l := by
    rcases h with ⟨rfl, _⟩ | ⟨rfl, _⟩
    · exact (Wf.lst hw).1
    · exact (Wf.tup hw).1
  refine ⟨d', dk1, [.fz D, .no, .no, .fz other], ?_, five_ok h hw d' hd', k1⟩
  rcases h with ⟨rfl, rfl, rfl⟩ | ⟨rfl, rfl, rfl⟩
  · unfold five at hix
    have ha : opAdd [.list xs, .list (xs.take 1)] = some (.ow (.list (xs ++ xs.take 1))) := add_LL (by simp; omega)
    unfold mS2
    simp [PyData.isTuple, opList, opTuple, revd, ha, e, -op_ixL, hix]
  · unfold five at hix
    have ha : opAdd [.tuple xs, .tuple (xs.take 1)] = some (.fz (.tuple (xs ++ xs.take 1))) := add_TT (by simp; omega)
    unfold mS2
    simp [PyData.isTuple, opList, opTuple, revd, ha, e, -op_ixL, hix]
/-! ### numbers, the rest -/
def seven (d : Da) : List Da := match d with
  | .int i => [.int (i + 1), .int (i - 1), .bool true, .none, .int 9, .int 10, .str (toString i)]
  | .bool b => [.int ((if b = true then 1 else 0) + 1), .int ((if b = true then 1 else 0) - 1), .bool true, .none, .int 9, .int 10, .str (if b then "True" else "False")]
  | _ => []
theorem seven_ok {l : Nat} (h1 : 100 ≤ l) (hl : l ≤ 50000) {d : Da} (hw : Wf l d = true) : ∀ d' ∈ seven d, Sp l d d' := by
  intro d' hd'
  have hdp : ∀ x : Da, x.depth = 0 → x.depth ≤ d.depth := fun x h => by omega
  cases d with
  | int i =>
    simp only [Wf, decide_eq_true_eq] at hw
    simp only [seven, List.mem_cons, List.not_mem_nil, or_false] at hd'
    rcases hd' with rfl | rfl | rfl | rfl | rfl | rfl | rfl
    · exact ⟨by simp only [Wf, decide_eq_true_eq]; omega, hdp _ rfl⟩
    · exact ⟨by simp only [Wf, decide_eq_true_eq]; omega, hdp _ rfl⟩
    · exact ⟨rfl, hdp _ rfl⟩
    · exact ⟨rfl, hdp _ rfl⟩
    · exact ⟨wf_small (by omega) (by omega), hdp _ rfl⟩
    · exact ⟨wf_small (by omega) (by omega), hdp _ rfl⟩
    · exact ⟨text_wf (by omega) (by omega) (by omega), hdp _ rfl⟩
  | bool b =>
    simp only [seven, List.mem_cons, List.not_mem_nil, or_false] at hd'
    have hb : ∀ k : Int, -1000 ≤ k → k ≤ 1000 → Sp l (.bool b) (.int k) := fun k h1 h2 => ⟨wf_small h1 h2, hdp _ rfl⟩
    rcases hd' with rfl | rfl | rfl | rfl | rfl | rfl | rfl
    · cases b <;> exact hb _ (by decide) (by decide)
    · cases b <;> exact hb _ (by decide) (by decide)
    · exact ⟨rfl, hdp _ rfl⟩
    · exact ⟨rfl, hdp _ rfl⟩
    · exact hb _ (by decide) (by decide)
    · exact hb _ (by decide) (by decide)
    · refine ⟨?_, hdp _ rfl⟩
      have e : ∀ z : Str, z.length ≤ 100 → Wf (l + 1) (.str z) = true := fun z hz => by simp only [Wf, decide_eq_true_eq]; omega
      cases b <;> exact e _ (by decide)
  | _ => simp [seven] at hd'
def eight : List Da := [.none, .int 7, .str "n", .str "", .str "A", .str "abcdefghi", .str "a", .str "row"]
theorem eight_ok {l : Nat} (h1 : 100 ≤ l) (d : Da) : ∀ d' ∈ eight, Sp l d d' := by
  have h : eight.all (fun d => Wf 100 d && decide (d.depth = 0)) = true := by decide +kernel
  intro d' hd'
  have := List.all_eq_true.mp h d' hd'
  simp only [Bool.and_eq_true, decide_eq_true_eq] at this
  exact ⟨Wf.mono (by omega) this.1, by omega⟩
/-- what isn't a row -/
theorem spoilt_leaf {l : Nat} (h1 : 100 ≤ l) (hl : l ≤ 50000) (f : List Da → List Da → Rs (Sl × List Da)) {d : Da} (hw : Wf l d = true) (hd : d.depth = 0) (n : Nat) (dk : List Da) (hn : n + 1 ≤ 100000000) (hk : DkOk n dk) :
    ∃ d' dk', fnD 3 (mb_law_spoilt f) dk [d] = .ok (.fz d', dk') ∧ Sp l d d' ∧ DkOk (n + 1) dk' := by
  have num : (∃ i, d = .int i) ∨ (∃ b, d = .bool b) → ∃ d' dk', fnD 3 (mb_law_spoilt f) dk [d] = .ok (.fz d', dk') ∧ Sp l d d' ∧ DkOk (n + 1) dk' := fun hcase => by
    obtain ⟨s, dk1, e, ⟨v, rfl, v0, v1⟩, k1⟩ := e_pick 7 (by decide) (by decide) n dk hn hk
    have h7 : (seven d).length = 7 := by rcases hcase with ⟨i, rfl⟩ | ⟨b, rfl⟩ <;> rfl
    obtain ⟨d', hd', hix⟩ := pick_of (L := seven d) v0 (by omega)
    refine ⟨d', dk1, ?_, seven_ok h1 hl hw d' hd', k1⟩
    rw [fnD_eq]
    unfold mb_law_spoilt
    rcases hcase with ⟨i, rfl⟩ | ⟨b, rfl⟩
    · have hs : opStr [.int i] = some (.fz (.str (toString i))) := by
        simp only [Wf, decide_eq_true_eq] at hw
        have : i.natAbs < 2 ^ 1000 := Nat.lt_of_le_of_lt hw (Nat.lt_of_le_of_lt (Nat.add_le_add_left hl _) (by decide))
        rw [opStr, if_pos this]
      simp only [seven] at hix
      generalize (Str.ofString (toString i)) = z at hs hix
      simp [PyData.isTuple, PyData.isList, PyData.isInt, hs, e, -op_ixL, hix]
    · have ha : opAdd [.bool b, .int 1] = some (.fz (.int ((if b = true then 1 else 0) + 1))) := rfl
      have hb : opSub [.bool b, .int 1] = some (.fz (.int ((if b = true then 1 else 0) - 1))) := rfl
      have hs : opStr [.bool b] = some (.fz (.str (if b then "True" else "False"))) := rfl
      simp only [seven] at hix
      generalize (Str.ofString (if b = true then "True" else "False")) = z at hs hix
      generalize ((if b = true then 1 else 0) + 1 : Int) = z1 at ha hix
      generalize ((if b = true then 1 else 0) - 1 : Int) = z2 at hb hix
      simp [PyData.isTuple, PyData.isList, PyData.isInt, ha, hb, hs, e, -op_ixL, hix]
  cases d with
  | int i => exact num (.inl ⟨i, rfl⟩)
  | bool b => exact num (.inr ⟨b, rfl⟩)
  | list xs => simp [PyData.depth] at hd
  | tuple xs => simp [PyData.depth] at hd
  | dict _ => simp [Wf] at hw
  | none =>
    obtain ⟨s, dk1, e, ⟨v, rfl, v0, v1⟩, k1⟩ := e_pick 8 (by decide) (by decide) n dk hn hk
    obtain ⟨d', hd', hix⟩ := pick_of (L := eight) v0 (by simp [eight]; omega)
    refine ⟨d', dk1, ?_, eight_ok h1 _ d' hd', k1⟩
    rw [fnD_eq]
    unfold mb_law_spoilt
    unfold eight at hix
    simp [PyData.isTuple, PyData.isList, PyData.isInt, e, -op_ixL, hix]
  | str z =>
    obtain ⟨s, dk1, e, ⟨v, rfl, v0, v1⟩, k1⟩ := e_pick 8 (by decide) (by decide) n dk hn hk
    obtain ⟨d', hd', hix⟩ := pick_of (L := eight) v0 (by simp [eight]; omega)
    refine ⟨d', dk1, ?_, eight_ok h1 _ d' hd', k1⟩
    rw [fnD_eq]
    unfold mb_law_spoilt
    unfold eight at hix
    simp [PyData.isTuple, PyData.isList, PyData.isInt, e, -op_ixL, hix]
end Mi
set_option Elab.async false
set_option linter.all false
set_option maxRecDepth 100000
set_option autoImplicit false
/-! spoilt things, the whole -/
namespace Mi
open PySem PySem.Spec PyProof.Rows L2 Sh

theorem spoilt_tail {l : Nat} (hl : l ≤ 100000) {D other : Da} {xs : List Da} {mk : List Da → Da} (h : (D = .list xs ∧ other = .tuple xs ∧ mk = .list) ∨ (D = .tuple xs ∧ other = .list xs ∧ mk = .tuple)) (hw : Wf l D = true) (n : Nat) (dk : List Da) (hn : n + 1 ≤ 100000000) (hk : DkOk n dk) (R : MS) :
    ∃ d' dk' en', mSeq (mCond (mTE (mPure (opIsi2 "tuple" "list") [.sl 1])) mS2 mSkip) R [.ow (.list dk), .fz D, .no, .no, .no] = .ok (.rt (.fz d'), .ow (.list dk') :: en') ∧ Sp l D d' ∧ DkOk (n + 1) dk' := by
  obtain ⟨d', dk', en', e, s, k⟩ := spoilt_row hl h hw n dk hn hk
  refine ⟨d', dk', en', ?_, s, k⟩
  rcases h with ⟨rfl, rfl, rfl⟩ | ⟨rfl, rfl, rfl⟩ <;> simp [PyData.isTuple, PyData.isList, e]
theorem depth_set {xs : List Da} {j : Nat} {y : Da} (hj : j < xs.length) (h : y.depth ≤ xs[j].depth) : PyData.depthAll (xs.set j y) ≤ PyData.depthAll xs := by
  refine depthAll_le.mpr fun z hz => ?_
  rcases List.mem_or_eq_of_mem_set hz with h1 | rfl
  · exact depthAll_le.mp (Nat.le_refl _) z h1
  · exact Nat.le_trans h (depthAll_le.mp (Nat.le_refl _) _ (List.getElem_mem hj))
theorem sp_set {l : Nat} {D : Da} {xs : List Da} {mk : List Da → Da} (h : (D = .list xs ∧ mk = .list) ∨ (D = .tuple xs ∧ mk = .tuple)) (hw : Wf l D = true) {j : Nat} {y : Da} (hj : j < xs.length) (hs : Sp l xs[j] y) : Sp l D (mk (xs.set j y)) := by
  have hd := depth_set hj hs.2
  have hwf : ∀ (hx : ∀ x ∈ xs, Wf l x = true), ∀ z ∈ xs.set j y, Wf (l + 1) z = true := fun hx z hz => by
    rcases List.mem_or_eq_of_mem_set hz with h1 | rfl
    · exact Wf.mono (by omega) (hx z h1)
    · exact hs.1
  rcases h with ⟨rfl, rfl⟩ | ⟨rfl, rfl⟩
  · obtain ⟨h1, h2⟩ := Wf.lst hw
    exact ⟨(wf_lst (by simp; omega) (hwf h2)).2, by rw [PyData.depth, PyData.depth]; omega⟩
  · obtain ⟨h1, h2⟩ := Wf.tup hw
    exact ⟨(wf_lst (by simp; omega) (hwf h2)).1, by rw [PyData.depth, PyData.depth]; omega⟩
theorem ixN_nat {n j : Nat} (h : j < n) : ixN n (j : Int) = some j := by
  unfold ixN
  rw [if_pos (by omega), if_pos (by omega)]
  simp
theorem spoilt_rows {l m : Nat} (h1 : 100 ≤ l) (hl : l ≤ 50000) (g : List Da → List Da → Rs (Sl × List Da)) {D other : Da} {xs : List Da} {mk : List Da → Da} (h : (D = .list xs ∧ other = .tuple xs ∧ mk = .list) ∨ (D = .tuple xs ∧ other = .list xs ∧ mk = .tuple)) (hw : Wf l D = true)
    (hg : ∀ x ∈ xs, Dr g [x] m fun s => ∃ d', s = .fz d' ∧ Sp l x d') : Dr (fnD 3 (mb_law_spoilt g)) [D] (m + 2) fun s => ∃ d', s = .fz d' ∧ Sp l D d' := by
  intro n dk hn hk
  have hlen : xs.length ≤ l := by
    rcases h with ⟨rfl, _⟩ | ⟨rfl, _⟩
    · exact (Wf.lst hw).1
    · exact (Wf.tup hw).1
  by_cases hx : xs = []
  · obtain ⟨d', dk', en', e, s, k⟩ := spoilt_tail (l := l) (by omega) h hw n dk (by omega) hk (mSeq (mCond (mTE (mPure (opIsi "int") [.sl 1])) (mRet (mPure opIx [.ex (mPure opLst (exs [mPure opAdd [.sl 1, .ex (mK (.int 1))], mPure opSub [.sl 1, .ex (mK (.int 1))], mK (.bool true), mK (.none), mK (.int 9), mK (.int 10), mPure opStr [.sl 1]])), .ex (mCallD (f_law_pick) 0 [.ex (mK (.int 7))])])) (mSkip))
    (mRet (mPure opIx [.ex (mPure opLst (exs [mK (.none), mK (.int 7), mK (.str "n"), mK (.str ""), mK (.str "A"), mK (.str "abcdefghi"), mK (.str "a"), mK (.str "row")])), .ex (mCallD (f_law_pick) 0 [.ex (mK (.int 8))])])))
    refine ⟨.fz d', dk', ?_, ⟨d', rfl, s⟩, k.mono (by omega)⟩
    subst hx
    rw [fnD_eq]
    unfold mb_law_spoilt
    rw [ev_seq]
    unfold mS2 at e
    rcases h with ⟨rfl, rfl, rfl⟩ | ⟨rfl, rfl, rfl⟩ <;> simp [PyData.isTuple, PyData.isList, -ev_seq, -ev_exsS, -ev_exs0, e]
  · have hpos : 0 < xs.length := List.length_pos_iff.mpr hx
    obtain ⟨s, dk1, e1, ⟨v, rfl, v0, v1⟩, k1⟩ := e_pick 5 (by decide) (by decide) n dk (by omega) hk
    by_cases hv : 0 < v
    · obtain ⟨s, dk2, e2, ⟨w, rfl, w0, w1⟩, k2⟩ := e_pick (xs.length : Int) (by omega) (by omega) (n + 1) dk1 (by omega) k1
      obtain ⟨j, rfl⟩ := Int.eq_ofNat_of_zero_le w0
      have hj : j < xs.length := by omega
      obtain ⟨s, dk3, e3, ⟨y, rfl, sy⟩, k3⟩ := hg xs[j] (List.getElem_mem hj) (n + 2) dk2 (by omega) k2
      have hix : opIx [.list xs, .int (j : Int)] = some (.fz xs[j]) := by simp [Sh.atI_nat, hj]
      refine ⟨.fz (mk (xs.set j y)), dk3, ?_, ⟨_, rfl, sp_set (by rcases h with ⟨a, _, c⟩ | ⟨a, _, c⟩; exact .inl ⟨a, c⟩; exact .inr ⟨a, c⟩) hw hj sy⟩, k3.mono (by omega)⟩
      rw [fnD_eq]
      unfold mb_law_spoilt
      rcases h with ⟨rfl, rfl, rfl⟩ | ⟨rfl, rfl, rfl⟩ <;> simp [PyData.isTuple, PyData.isList, hpos, e1, hv, opList, opTuple, e2, -op_ixL, hix, e3, ixN_nat hj]
    · obtain ⟨d', dk', en', e, s, k⟩ := spoilt_tail (l := l) (by omega) h hw (n + 1) dk1 (by omega) k1 (mSeq (mCond (mTE (mPure (opIsi "int") [.sl 1])) (mRet (mPure opIx [.ex (mPure opLst (exs [mPure opAdd [.sl 1, .ex (mK (.int 1))], mPure opSub [.sl 1, .ex (mK (.int 1))], mK (.bool true), mK (.none), mK (.int 9), mK (.int 10), mPure opStr [.sl 1]])), .ex (mCallD (f_law_pick) 0 [.ex (mK (.int 7))])])) (mSkip))
        (mRet (mPure opIx [.ex (mPure opLst (exs [mK (.none), mK (.int 7), mK (.str "n"), mK (.str ""), mK (.str "A"), mK (.str "abcdefghi"), mK (.str "a"), mK (.str "row")])), .ex (mCallD (f_law_pick) 0 [.ex (mK (.int 8))])])))
      refine ⟨.fz d', dk', ?_, ⟨d', rfl, s⟩, k.mono (by omega)⟩
      rw [fnD_eq]
      unfold mb_law_spoilt
      rw [ev_seq]
      unfold mS2 at e
      rcases h with ⟨rfl, rfl, rfl⟩ | ⟨rfl, rfl, rfl⟩ <;> simp [PyData.isTuple, PyData.isList, hpos, e1, hv, -ev_seq, -ev_exsS, -ev_exs0, e]
theorem e_spoilt {l : Nat} (h1 : 100 ≤ l) (hl : l ≤ 50000) : ∀ (m : Nat) (d : Da), d.depth ≤ m → Wf l d = true → Dr (r_law_spoilt (m + 1)) [d] (2 * m + 1) fun s => ∃ d', s = .fz d' ∧ Sp l d d'
  | m, d, hd, hw => by
    by_cases h0 : d.depth = 0
    · intro n dk hn hk
      obtain ⟨d', dk', e, s, k⟩ := spoilt_leaf h1 hl (r_law_spoilt m) hw h0 n dk (by omega) hk
      exact ⟨.fz d', dk', e, ⟨d', rfl, s⟩, k.mono (by omega)⟩
    · obtain ⟨m, rfl⟩ : ∃ k, m = k + 1 := ⟨m - 1, by omega⟩
      have row : ∀ {xs : List Da} {other : Da} {mk : List Da → Da}, ((d = .list xs ∧ other = .tuple xs ∧ mk = PyData.list) ∨ (d = .tuple xs ∧ other = .list xs ∧ mk = PyData.tuple)) → (∀ x ∈ xs, x.depth ≤ m ∧ Wf l x = true) → Dr (r_law_spoilt (m + 1 + 1)) [d] (2 * (m + 1) + 1) fun s => ∃ d', s = .fz d' ∧ Sp l d d' := fun {xs other mk} h hx => spoilt_rows h1 hl _ h hw fun x hm => e_spoilt h1 hl m x (hx x hm).1 (hx x hm).2
      cases d with
      | list xs =>
        rw [PyData.depth] at hd
        exact row (.inl ⟨rfl, rfl, rfl⟩) fun x hx => ⟨Nat.le_trans (depthAll_le.mp (Nat.le_refl _) x hx) (by omega), (Wf.lst hw).2 x hx⟩
      | tuple xs =>
        rw [PyData.depth] at hd
        exact row (.inr ⟨rfl, rfl, rfl⟩) fun x hx => ⟨Nat.le_trans (depthAll_le.mp (Nat.le_refl _) x hx) (by omega), (Wf.tup hw).2 x hx⟩
      | dict _ => simp [Wf] at hw
      | _ => simp [PyData.depth] at h0
end Mi
set_option Elab.async false
set_option linter.all false
set_option maxRecDepth 100000
set_option autoImplicit false
/-! gains, sorted -/
namespace Mi
open PySem PySem.Spec PyProof.Rows L2 Sh

theorem str_tri {x y : Str} (h : x ≠ y) (k : PySem.W.dataLt (.str y) (.str x) = false) : PySem.W.dataLt (.str x) (.str y) = true := by
  rw [PySem.W.dataLt_str, decide_eq_false_iff_not] at k
  rw [PySem.W.dataLt_str, decide_eq_true_eq]
  apply Classical.byContradiction
  intro h2
  apply h
  have h3 : x.cps.toList = y.cps.toList := List.le_antisymm (List.not_lt.mp k) (List.not_lt.mp h2)
  cases x; cases y
  congr 1
  exact Array.toList_inj.mp h3
theorem eqv_ss (x y : Str) : PyData.eqv (.str x) (.str y) = decide (x = y) := by
  rw [PyData.eqv]
  by_cases h : x = y <;> simp [h]
theorem alike_ss (x y : Str) : PySem.W.alike (.str x) (.str y) = true := by simp [PySem.W.alike]
theorem alike_ii (x y : Int) : PySem.W.alike (.int x) (.int y) = true := by simp [PySem.W.alike]
theorem lt_door (p q : Str × Str) : PySem.W.dataLt (eDoor p) (eDoor q) = if p.1 = q.1 then (if p.2 = q.2 then false else PySem.W.dataLt (.str p.2) (.str q.2)) else PySem.W.dataLt (.str p.1) (.str q.1) := by
  unfold eDoor
  rw [PySem.W.dataLt_pair (alike_ss _ _) (alike_ss _ _), eqv_ss, eqv_ss]
  simp only [decide_eq_true_eq]
theorem lt_gain {a b : Str × Str × Int} (h : PySem.W.dataLt (eGain b) (eGain a) = false) (hk : (a.1, a.2.1) ≠ (b.1, b.2.1)) : PySem.W.dataLt (eDoor (a.1, a.2.1)) (eDoor (b.1, b.2.1)) = true := by
  unfold eGain at h
  rw [PySem.W.dataLt_tuple, PySem.W.dataLt_cons (alike_ss _ _), PySem.W.dataLt_cons (alike_ss _ _), eqv_ss, eqv_ss] at h
  rw [lt_door]
  simp only [decide_eq_true_eq] at h
  by_cases h1 : a.1 = b.1
  · by_cases h2 : a.2.1 = b.2.1
    · exact absurd (by rw [h1, h2]) hk
    · rw [if_pos h1.symm, if_neg (fun z => h2 z.symm)] at h
      simp only [h1, h2, if_true, if_false]
      exact str_tri h2 h
  · rw [if_neg (fun z => h1 z.symm)] at h
    simp only [h1, if_false]
    exact str_tri h1 h
theorem rising_of : ∀ {ds : List Da}, ds.Pairwise (fun a b => PySem.W.dataLt a b = true) → rising ds = true
  | [], _ => rfl
  | [_], _ => rfl
  | a :: b :: r, h => by
    rw [rising, Bool.and_eq_true]
    exact ⟨(List.pairwise_cons.mp h).1 b (by simp), rising_of (List.pairwise_cons.mp h).2⟩
def dGain : Da → Str × Str × Int
  | .tuple [.str a, .str b, .int i] => (a, b, i)
  | _ => ("", "", 0)
theorem sort_gains {gs : List (Str × Str × Int)} (hn : (gs.map fun g => (g.1, g.2.1)).Nodup) : ∃ gs' : List (Str × Str × Int), sortD (gs.map eGain) = gs'.map eGain ∧ gs'.Perm gs ∧ rising (gs'.map fun g => eDoor (g.1, g.2.1)) = true := by
  have hp : (sortD (gs.map eGain)).Perm (gs.map eGain) := List.mergeSort_perm _ _
  have hs : (sortD (gs.map eGain)).Pairwise (fun a b => PySem.W.dataLe false id a b = true) :=
    PySem.W.sort_pairwise (PySem.W.sortLe_total _ _ _) _
  generalize sortD (gs.map eGain) = P at hp hs
  have he : ∀ x ∈ P, eGain (dGain x) = x := fun x hx => by
    obtain ⟨g, _, rfl⟩ := List.mem_map.mp (hp.mem_iff.mp hx)
    rfl
  have hperm : (P.map dGain).Perm gs := by
    have := hp.map dGain
    rw [List.map_map] at this
    have e : gs.map (dGain ∘ eGain) = gs := by
      have : (dGain ∘ eGain) = id := by funext g; rfl
      rw [this, List.map_id]
    rwa [e] at this
  have hP : P = (P.map dGain).map eGain := by
    rw [List.map_map]
    have : P.map (eGain ∘ dGain) = P.map id := List.map_congr_left fun x hx => he x hx
    rw [this, List.map_id]
  refine ⟨P.map dGain, hP, hperm, rising_of ?_⟩
  rw [List.pairwise_map]
  have hn' : ((P.map dGain).map fun g => (g.1, g.2.1)).Nodup := (hperm.map _).nodup_iff.mpr hn
  rw [hP, List.pairwise_map] at hs
  have hn2 := List.pairwise_map.mp hn'
  refine (hs.and hn2).imp fun {a b} h => ?_
  refine lt_gain ?_ h.2
  have := h.1
  rw [PySem.W.dataLe_eq] at this
  simpa using this
end Mi
set_option Elab.async false
set_option linter.all false
set_option maxRecDepth 100000
set_option autoImplicit false
/-! houses drawn: rooms, doors -/
namespace Mi
open PySem PySem.Spec PyProof.Rows L2 Sh

theorem res_va (en : En) (D : Da) : resAll en [.va D] = some [D] := rfl
noncomputable def hB1 : MS := mAppend 3 (mPure opTup (exs [mVar 4, mCallD (f_law_pick) 0 [.ex (mPure opAdd [.sl 2, .ex (mK (.int 1))])], mCallD (f_law_one) 0 [.ex (mPure opLst (exs [mK (.int 1), mK (.int 1), mK (.int 2), mK (.int 0), mCallD (f_law_pick) 0 [.ex (mK (.int 10))]]))]]))
noncomputable def hT3 : MT := mTE (mPure opGt [.ex (mCallD (f_law_pick) 0 [.ex (mK (.int 4))]), .ex (mK (.int 0))])
noncomputable def hL3 : ME := mLc ⟨[.ex (mPure opSlLo [.sl 6, .ex (mPure opAdd [.sl 9, .ex (mK (.int 1))])])], itSeq⟩ (.nm 13) hT3 (mPure opTup (exs [mVar 10, mVar 13])) [13]
noncomputable def hB3 : MS := mSet 7 (mPure opAdd [.sl 7, .ex hL3])
noncomputable def hL4 : ME := mLc ⟨[.sl 8], itSeq⟩ (.nm 10) (mYes) (mPure opSlHi [.sl 10, .ex (mK (.int 2))]) [10]
noncomputable def hA4 : MS := mAppend 8 (mPure opAdd [.sl 11, .ex (mPure opTup (exs [mCallD (f_law_one) 0 [.ex (mPure opLst (exs [mK (.int 1), mK (.int 1), mK (.int 2), mPure opAdd [.ex (mK (.int 1)), .ex (mCallD (f_law_pick) 0 [.ex (mK (.int 9))])]]))]]))])
noncomputable def hB4 : MS := mSeq (mSet 11 (mPure opTup (exs [mCallD (f_law_one) 0 [.sl 6], mCallD (f_law_one) 0 [.sl 6]]))) (mCond (mTE (mPure opNotIn [.sl 11, .ex hL4])) hA4 mSkip)
noncomputable def hRest : MS := mSeq (mPar [6, 7, 8] [mLc ⟨[.sl 3], itSeq⟩ (.nm 12) (mYes) (mPure opIx [.sl 12, .ex (mK (.int 0))]) [12], mPure opLst (exs []), mPure opLst (exs [])])
    (mSeq (mFor ⟨[.ex (mVar 6)], itEnum⟩ (.tp [.nm 9, .nm 10]) hB3)
    (mSeq (mFor ⟨[.ex (mCallD (f_law_pick) 0 [.ex (mK (.int 4))])], itRng⟩ (.nm 5) hB4)
    (mRet (mPure opTup (exs [mPure opTuple [.sl 3], mPure opTuple [.sl 7], mPure opTuple [.ex (mPure opSorted [.sl 8])]])))))
def hNames : List Da := [.str "bay", .str "den", .str "hut", .str "loft", .str "nook"]
theorem house_split : m_law_house = mSeq (mSet 3 (mPure opLst (exs []))) (mSeq (mFor ⟨[.ex (mPure opSlHi [.ex (mPure opLst (exs [mK (.str "bay"), mK (.str "den"), mK (.str "hut"), mK (.str "loft"), mK (.str "nook")])), .ex (mPure opAdd [.ex (mK (.int 2)), .ex (mCallD (f_law_pick) 0 [.ex (mPure opSub [.sl 1, .ex (mK (.int 1))])])])])], itSeq⟩ (.nm 4) hB1) hRest) := rfl
section
variable (most cap : Int)
def hE1 (dk rs : List Da) (s4 : Sl) : En := [.ow (.list dk), .fz (.int most), .fz (.int cap), .ow (.list rs), s4, .no, .no, .no, .no, .no, .no, .no, .no, .no]
def hE3 (dk rs : List Da) (s4 s5 : Sl) (N D G : List Da) (s9 s10 s11 : Sl) : En := [.ow (.list dk), .fz (.int most), .fz (.int cap), .ow (.list rs), s4, s5, .fz (.list N), .ow (.list D), .ow (.list G), s9, s10, s11, .no, .no]
def roomIn (r : Str × Int × Int) : Prop := 0 ≤ r.2.1 ∧ r.2.1 ≤ cap ∧ 0 ≤ r.2.2 ∧ r.2.2 ≤ 9
theorem hB1_ok (c0 : 0 ≤ cap) (c9 : cap ≤ 9) (z : Str) (rs : List Da) (hl : rs.length < 1000) (n : Nat) (dk : List Da) (hn : n + 3 ≤ 100000000) (hk : DkOk n dk) : ∃ c l dk', hB1 (hE1 most cap dk rs (.fz (.str z))) = .ok (.nx, hE1 most cap dk' (rs ++ [eRoom (z, c, l)]) (.fz (.str z))) ∧ roomIn cap (z, c, l) ∧ DkOk (n + 3) dk' := by
  obtain ⟨s, dk1, e1, ⟨v, rfl, v0, v1⟩, k1⟩ := e_pick (cap + 1) (by omega) (by omega) n dk (by omega) hk
  obtain ⟨s, dk2, e2, ⟨u, rfl, u0, u1⟩, k2⟩ := e_pick 10 (by omega) (by omega) (n + 1) dk1 (by omega) k1
  obtain ⟨s, dk3, e3, ⟨x, hx, rfl⟩, k3⟩ := e_one [.int 1, .int 1, .int 2, .int 0, .int u] (.list [.int 1, .int 1, .int 2, .int 0, .int u]) (.inl rfl) (by simp) (by simp) (n + 2) dk2 (by omega) k2
  obtain ⟨l, rfl, l0, l9⟩ : ∃ l : Int, x = .int l ∧ 0 ≤ l ∧ l ≤ 9 := by
    simp only [List.mem_cons, List.not_mem_nil, or_false] at hx
    rcases hx with rfl | rfl | rfl | rfl | rfl <;> exact ⟨_, rfl, by omega, by omega⟩
  refine ⟨v, l, dk3, ?_, ⟨v0, by show v ≤ cap; omega, l0, l9⟩, k3⟩
  unfold hB1 hE1
  have hl' : rs.length < 1000000 := by omega
  simp [e1, e2, e3, eRoom, hl']
theorem hP1 (c0 : 0 ≤ cap) (c9 : cap ≤ 9) (D : Da) : ∀ (todo : List Str) (rooms : List (Str × Int × Int)) (n : Nat) (dk : List Da) (s4 : Sl), n + 3 * todo.length ≤ 100000000 → DkOk n dk → (∀ r ∈ rooms, roomIn cap r) → rooms.length + todo.length ≤ 100 →
    ∃ (rooms' : List (Str × Int × Int)) (dk' : List Da) (s4' : Sl), forL [.va D] [D] (.nm 4) hB1 (todo.map dstr) (hE1 most cap dk (rooms.map eRoom) s4) = .ok (.nx, hE1 most cap dk' (rooms'.map eRoom) s4') ∧ rooms'.map (·.1) = rooms.map (·.1) ++ todo ∧ (∀ r ∈ rooms', roomIn cap r) ∧ DkOk (n + 3 * todo.length) dk'
  | [], rooms, n, dk, s4, hn, hk, hr, hl => ⟨rooms, dk, s4, by rw [List.map_nil, forL, if_pos (res_va _ _)], by simp, hr, hk⟩
  | z :: todo, rooms, n, dk, s4, hn, hk, hr, hl => by
    have hl' : rooms.length + (todo.length + 1) ≤ 100 := hl
    have hn' : n + 3 * (todo.length + 1) ≤ 100000000 := hn
    obtain ⟨c, l, dk1, e, hc, k1⟩ := hB1_ok most cap c0 c9 z (rooms.map eRoom) (by rw [List.length_map]; omega) n dk (by omega) hk
    obtain ⟨rooms', dk', s4', e2, h2, h3, k2⟩ := hP1 c0 c9 D todo (rooms ++ [(z, c, l)]) (n + 3) dk1 (.fz (.str z)) (by omega) k1 (fun r h => by
      rcases List.mem_append.mp h with h | h
      · exact hr r h
      · rw [List.mem_singleton.mp h]; exact hc) (by simp; omega)
    refine ⟨rooms', dk', s4', ?_, by simpa using h2, h3, k2.mono (by simp; omega)⟩
    rw [List.map_cons, forL, if_pos (res_va _ _)]
    have ha : asg (.nm 4) (dstr z) (hE1 most cap dk (rooms.map eRoom) s4) = some (hE1 most cap dk (rooms.map eRoom) (.fz (.str z))) := by simp [hE1, dstr]
    rw [ha]
    simp only [e, ev_bok]
    rw [List.map_append] at e2
    exact e2
/-- doors from one room -/
theorem hP3i (a : Str) {os : List Op} {ds : List Da} {rest : En} (hres : ∀ dk, resAll (.ow (.list dk) :: rest) os = some ds) (h10 : sget rest 9 = .fz (.str a)) (h13 : rest.length = 13) (h12 : sget rest 12 = .no) : ∀ (r : List Str) (acc : List Da) (n : Nat) (dk : List Da), acc.length + r.length ≤ 1000 → n + r.length ≤ 100000000 → DkOk n dk →
    ∃ (sub : List Str) (dk' : List Da), lcL os ds (.nm 13) hT3 (mPure opTup (exs [mVar 10, mVar 13])) [13] (r.map dstr) acc (.ow (.list dk) :: rest) = .ok (acc ++ sub.map fun o => eDoor (a, o), .ow (.list dk') :: rest) ∧ sub.Sublist r ∧ DkOk (n + r.length) dk'
  | [], acc, n, dk, hl, hn, hk => ⟨[], dk, by rw [List.map_nil, lcL, if_pos (hres dk)]; simp, by simp, hk⟩
  | z :: r, acc, n, dk, hl, hn, hk => by
    have hl' : acc.length + (r.length + 1) ≤ 1000 := hl
    have hn' : n + (r.length + 1) ≤ 100000000 := hn
    obtain ⟨s, dk1, e1, ⟨v, rfl, v0, v1⟩, k1⟩ := e_pick 4 (by omega) (by omega) n dk (by omega) hk
    have hset : ∀ dk : List Da, wipeE (.ow (.list dk) :: rest.set 12 (.fz (.str z))) [13] = .ow (.list dk) :: rest := fun dk => by
      simp only [wipeE, List.foldr_cons, List.foldr_nil, List.set_cons_succ, List.set_set]
      congr 1
      apply List.ext_getElem?
      intro i
      by_cases hi : i = 12
      · subst hi
        rw [List.getElem?_set_self (by omega)]
        unfold sget at h12
        rw [List.getD_eq_getElem?_getD, List.getElem?_eq_getElem (by omega)] at h12
        rw [List.getElem?_eq_getElem (by omega)]
        exact congrArg some h12.symm
      · rw [List.getElem?_set_ne (by omega)]
    have g10 : ∀ x : Sl, sget (rest.set 12 x) 9 = .fz (.str a) := fun x => by
      unfold sget at h10 ⊢
      rw [List.getD_eq_getElem?_getD] at h10 ⊢
      rw [List.getElem?_set_ne (by omega)]
      exact h10
    have g13 : ∀ x : Sl, sget (rest.set 12 x) 12 = x := fun x => by
      unfold sget
      rw [List.getD_eq_getElem?_getD, List.getElem?_set_self (by omega)]
      rfl
    have ht : hT3 (.ow (.list dk) :: rest.set 12 (.fz (.str z))) = .ok (decide (0 < v), .ow (.list dk1) :: rest.set 12 (.fz (.str z))) := by
      unfold hT3
      simp [e1]
    by_cases hv : 0 < v
    · obtain ⟨sub, dk', e2, h2, k2⟩ := hP3i a hres h10 h13 h12 r (acc ++ [eDoor (a, z)]) (n + 1) dk1 (by simp; omega) (by omega) k1
      refine ⟨z :: sub, dk', ?_, h2.cons_cons z, k2.mono (by simp; omega)⟩
      rw [List.map_cons, lcL, if_pos (hres dk)]
      simp only [dstr, ev_anm, List.set_cons_succ, ht, ev_nx, ev_bok, decide_eq_true hv, if_true]
      have he : mPure opTup (exs [mVar 10, mVar 13]) (.ow (.list dk1) :: rest.set 12 (.fz (.str z))) = .ok (.fz (eDoor (a, z)), .ow (.list dk1) :: rest.set 12 (.fz (.str z))) := by
        simp [g10, g13, eDoor]
      rw [he]
      simp only [ev_nx, ev_bok, ev_dfz, hset]
      rw [if_pos (by omega)]
      simpa using e2
    · obtain ⟨sub, dk', e2, h2, k2⟩ := hP3i a hres h10 h13 h12 r acc (n + 1) dk1 (by omega) (by omega) k1
      refine ⟨sub, dk', ?_, h2.cons z, k2.mono (by simp; omega)⟩
      rw [List.map_cons, lcL, if_pos (hres dk)]
      simp only [dstr, ev_anm, List.set_cons_succ, ht, ev_nx, ev_bok, decide_eq_false hv, Bool.false_eq_true, if_false, hset]
      exact e2
end
end Mi
set_option Elab.async false
set_option linter.all false
set_option maxRecDepth 100000
set_option autoImplicit false
/-! houses drawn: the whole -/
namespace Mi
open PySem PySem.Spec PyProof.Rows L2 Sh

def fpL : List Str → List (Str × Str)
  | [] => []
  | a :: r => r.map (fun o => (a, o)) ++ fpL r
def nlOk (NL : List Str) : Bool := rising (NL.map dstr) && NL.all (fun z => isName (.str z)) && (fpL NL).all (fun p => NL.contains p.1 && NL.contains p.2 && PySem.W.dataLt (.str p.1) (.str p.2)) && decide ((fpL NL).Pairwise fun p q => PySem.W.dataLt (eDoor p) (eDoor q) = true) && decide ((fpL NL).length ≤ 25)
def nl5 : List Str := ["bay", "den", "hut", "loft", "nook"]
theorem nl_ok : ∀ j : Nat, j ≤ 5 → nlOk (nl5.take j) = true
  | 0, _ => by decide +kernel
  | 1, _ => by decide +kernel
  | 2, _ => by decide +kernel
  | 3, _ => by decide +kernel
  | 4, _ => by decide +kernel
  | 5, _ => by decide +kernel
  | _ + 6, h => by omega
section
variable (most cap : Int)
theorem hL3_ok (a : Str) (pre r : List Str) (rs D : List Da) (s4 s9 : Sl) (n : Nat) (dk : List Da) (hr : r.length ≤ 5) (hn : n + r.length ≤ 100000000) (hk : DkOk n dk) :
    ∃ (sub : List Str) (dk' : List Da), hL3 (hE3 most cap dk rs s4 .no ((pre ++ a :: r).map dstr) D [] (.fz (.int (pre.length : Int))) (.fz (.str a)) .no) = .ok (.ow (.list (sub.map fun o => eDoor (a, o))), hE3 most cap dk' rs s4 .no ((pre ++ a :: r).map dstr) D [] (.fz (.int (pre.length : Int))) (.fz (.str a)) .no) ∧ sub.Sublist r ∧ DkOk (n + r.length) dk' := by
  have hsl : opSlLo [.list ((pre ++ a :: r).map dstr), .int ((pre.length : Int) + 1)] = some (.ow (.list (r.map dstr))) := by
    show some (Sl.ow (.list (cutD _ (some ((pre.length : Int) + 1)) none))) = _
    rw [show ((pre.length : Int) + 1) = ((pre.length + 1 : Nat) : Int) by omega, Sh.cutD_lo, ← List.map_drop, List.drop_append]
    simp
  obtain ⟨sub, dk', e, h, k⟩ := hP3i a (os := [.va (.list (r.map dstr))]) (ds := [.list (r.map dstr)]) (rest := [.fz (.int most), .fz (.int cap), .ow (.list rs), s4, .no, .fz (.list ((pre ++ a :: r).map dstr)), .ow (.list D), .ow (.list []), .fz (.int (pre.length : Int)), .fz (.str a), .no, .no, .no]) (fun dk => rfl) rfl rfl rfl r [] n dk (by simp; omega) hn hk
  refine ⟨sub, dk', ?_, h, k⟩
  unfold hL3 hE3
  rw [ev_lc]
  simp only [ev_oex, ev_pure, ev_osl, ev_sgetS, ev_sget0, ev_dfz, ev_dow, Option.isSome_some, if_true, ev_K, ev_bok, ev_o0, ev_rat, ev_rva, ev_r0, Option.bind_some, op_add_ii, hsl]
  show (lcL [.va (.list (r.map dstr))] [.list (r.map dstr)] (.nm 13) hT3 _ [13] (r.map dstr) [] _).bind _ = _
  simp only [ev_frzS, ev_frz0, ev_wipS, ev_wip0, ev_sgetS, ev_sget0, List.set_cons_succ, ev_set0]
  rw [e]
  simp
theorem hP3 (rs : List Da) (s4 : Sl) (D0 : Da) (NL : List Str) : ∀ (todo pre : List Str) (doors : List (Str × Str)) (n : Nat) (dk : List Da) (s9 s10 : Sl), NL = pre ++ todo → todo.length ≤ 5 → n + 5 * todo.length ≤ 100000000 → doors.length + 5 * todo.length ≤ 100 → DkOk n dk → (∀ d, s10 ≠ .ow d) →
    ∃ (more : List (Str × Str)) (dk' : List Da) (s9' s10' : Sl), forL [.va D0] [D0] (.tp [.nm 9, .nm 10]) hB3 (enumD pre.length (todo.map dstr)) (hE3 most cap dk rs s4 .no (NL.map dstr) (doors.map eDoor) [] s9 s10 .no) = .ok (.nx, hE3 most cap dk' rs s4 .no (NL.map dstr) ((doors ++ more).map eDoor) [] s9' s10' .no) ∧ more.Sublist (fpL todo) ∧ DkOk (n + 5 * todo.length) dk' ∧ (∀ d, s10' ≠ .ow d)
  | [], pre, doors, n, dk, s9, s10, _, _, _, _, hk, h10 => ⟨[], dk, s9, s10, by rw [List.map_nil, enumD, forL, if_pos (res_va _ _)]; simp, by simp [fpL], hk, h10⟩
  | a :: r, pre, doors, n, dk, s9, s10, hN, h5, hn, hd, hk, h10 => by
    have h5' : r.length + 1 ≤ 5 := h5
    have hn' : n + 5 * (r.length + 1) ≤ 100000000 := hn
    have hd' : doors.length + 5 * (r.length + 1) ≤ 100 := hd
    obtain ⟨sub, dk1, e1, hs, k1⟩ := hL3_ok most cap a pre r rs (doors.map eDoor) s4 s9 n dk (by omega) (by omega) hk
    have hsl := hs.length_le
    obtain ⟨more, dk', s9', s10', e2, hm, k2, h10'⟩ := hP3 rs s4 D0 NL r (pre ++ [a]) (doors ++ sub.map fun o => (a, o)) (n + r.length) dk1 (.fz (.int (pre.length : Int))) (.fz (.str a)) (by simpa using hN) (by omega) (by omega) (by simp; omega) k1 (fun d => by simp)
    refine ⟨(sub.map fun o => (a, o)) ++ more, dk', s9', s10', ?_, ?_, k2.mono (by simp; omega), h10'⟩
    · rw [List.map_cons, enumD, forL, if_pos (res_va _ _)]
      have ha : asg (.tp [.nm 9, .nm 10]) (.tuple [.int (pre.length : Int), dstr a]) (hE3 most cap dk rs s4 .no (NL.map dstr) (doors.map eDoor) [] s9 s10 .no) = some (hE3 most cap dk rs s4 .no (NL.map dstr) (doors.map eDoor) [] (.fz (.int (pre.length : Int))) (.fz (.str a)) .no) := by
        simp [hE3, dstr]
      rw [ha]
      have hb : hB3 (hE3 most cap dk rs s4 .no (NL.map dstr) (doors.map eDoor) [] (.fz (.int (pre.length : Int))) (.fz (.str a)) .no) = .ok (.nx, hE3 most cap dk1 rs s4 .no (NL.map dstr) ((doors ++ sub.map fun o => (a, o)).map eDoor) [] (.fz (.int (pre.length : Int))) (.fz (.str a)) .no) := by
        rw [← hN] at e1
        have hadd : opAdd [.list (doors.map eDoor), .list (sub.map fun o => eDoor (a, o))] = some (.ow (.list (doors.map eDoor ++ sub.map fun o => eDoor (a, o)))) := add_LL (by simp; omega)
        unfold hB3
        rw [ev_mset, ev_pure, ev_osl]
        have h7 : sget (hE3 most cap dk rs s4 .no (NL.map dstr) (doors.map eDoor) [] (.fz (.int (pre.length : Int))) (.fz (.str a)) .no) 7 = .ow (.list (doors.map eDoor)) := rfl
        rw [h7, ev_oex, e1]
        simp only [hE3, ev_dow, Option.isSome_some, if_true, ev_bok, ev_o0, ev_rat, ev_rva, ev_r0, Option.bind_some, ev_sgetS, ev_sget0, hadd, List.set_cons_succ, ev_set0, List.map_append, List.map_map]
        rfl
      simp only [hb, ev_bok]
      rw [List.length_append] at e2
      simpa using e2
    · exact (hs.map _).append hm
theorem eqv_door (p q : Str × Str) : PyData.eqv (eDoor p) (eDoor q) = decide (p = q) := by
  obtain ⟨a, b⟩ := p
  obtain ⟨c, d⟩ := q
  simp only [eDoor, PyData.eqv, PyData.eqvAll, Prod.mk.injEq]
  by_cases h1 : a = c <;> by_cases h2 : b = d <;> simp [h1, h2]
def gKey (g : Str × Str × Int) : Str × Str := (g.1, g.2.1)
theorem plain_door (p : Str × Str) : (eDoor p).plain = true := by simp [eDoor, PyData.plain, PyData.plainAll]
theorem notIn_keys (p : Str × Str) (gs : List (Str × Str × Int)) : opNotIn [eDoor p, .list (gs.map fun g => eDoor (gKey g))] = some (.fz (.bool (!decide (p ∈ gs.map gKey)))) := by
  have hin : inOk (eDoor p) (gs.map fun g => eDoor (gKey g)) = true := by
    unfold inOk
    simp only [Bool.and_eq_true, decide_eq_true_eq]
    refine ⟨⟨plain_door p, plainAll_iff.mpr fun d hd => ?_⟩, ?_⟩
    · obtain ⟨g, _, rfl⟩ := List.mem_map.mp hd
      exact plain_door _
    · have : (eDoor p).depth = 1 := rfl
      rw [this]; omega
  show (if inOk _ _ = true then some (Sl.fz (.bool (!List.any _ _))) else none) = _
  rw [if_pos hin]
  congr 4
  rw [List.any_map]
  by_cases h : p ∈ gs.map gKey
  · rw [decide_eq_true h]
    obtain ⟨g, hg, rfl⟩ := List.mem_map.mp h
    exact List.any_eq_true.mpr ⟨g, hg, by simp [eqv_door]⟩
  · rw [decide_eq_false h]
    refine List.any_eq_false.mpr fun g hg => ?_
    simp only [Function.comp_apply, eqv_door, decide_eq_true_eq]
    exact fun e => h (List.mem_map.mpr ⟨g, hg, e⟩)
def gainIn (NL : List Str) (g : Str × Str × Int) : Prop := g.1 ∈ NL ∧ g.2.1 ∈ NL ∧ 1 ≤ g.2.2 ∧ g.2.2 ≤ 9
theorem hL4_ok (rs : List Da) (s4 s5 s9 s10 s11 : Sl) (N D : List Da) (gs : List (Str × Str × Int)) (dk : List Da) (hg : gs.length ≤ 1000) (h10 : ∀ d, s10 ≠ .ow d) : hL4 (hE3 most cap dk rs s4 s5 N D (gs.map eGain) s9 s10 s11) = .ok (.ow (.list (gs.map fun g => eDoor (gKey g))), hE3 most cap dk rs s4 s5 N D (gs.map eGain) s9 s10 s11) := by
  have := Sh.lc_mapS (it := ⟨[.sl 8], itSeq⟩) (t := .nm 10) (elt := mPure opSlHi [.sl 10, .ex (mK (.int 2))]) (vs := [10]) (en := hE3 most cap dk rs s4 s5 N D (gs.map eGain) s9 s10 s11) (os := [.at 8]) (ds := [.list (gs.map eGain)]) (items := gs.map eGain) take2 rfl rfl rfl rfl (by cases s10 with | ow d => exact absurd rfl (h10 d) | _ => rfl) rfl rfl (by simp; omega) fun d hd => by
    obtain ⟨g, _, rfl⟩ := List.mem_map.mp hd
    refine ⟨_, .fz (take2 (eGain g)), rfl, ?_, rfl, rfl⟩
    have hs : opSlHi [eGain g, .int 2] = some (.fz (take2 (eGain g))) := rfl
    simp [hE3, hs]
  rw [List.map_map] at this
  exact this
end
end Mi
set_option Elab.async false
set_option linter.all false
set_option maxRecDepth 100000
set_option autoImplicit false
/-! houses and halls drawn -/
namespace Mi
open PySem PySem.Spec PyProof.Rows L2 Sh

section
variable (most cap : Int)
theorem hA4_ok (rs : List Da) (s4 s5 s9 s10 : Sl) (N D : List Da) (gs : List (Str × Str × Int)) (p : Str × Str) (n : Nat) (dk : List Da) (hg : gs.length ≤ 1000) (hn : n + 2 ≤ 100000000) (hk : DkOk n dk) :
    ∃ (i : Int) (dk' : List Da), hA4 (hE3 most cap dk rs s4 s5 N D (gs.map eGain) s9 s10 (.fz (eDoor p))) = .ok (.nx, hE3 most cap dk' rs s4 s5 N D ((gs ++ [(p.1, p.2, i)]).map eGain) s9 s10 (.fz (eDoor p))) ∧ 1 ≤ i ∧ i ≤ 9 ∧ DkOk (n + 2) dk' := by
  obtain ⟨s, dk1, e1, ⟨u, rfl, u0, u1⟩, k1⟩ := e_pick 9 (by omega) (by omega) n dk (by omega) hk
  obtain ⟨s, dk2, e2, ⟨x, hx, rfl⟩, k2⟩ := e_one [.int 1, .int 1, .int 2, .int (1 + u)] (.list [.int 1, .int 1, .int 2, .int (1 + u)]) (.inl rfl) (by simp) (by simp) (n + 1) dk1 (by omega) k1
  obtain ⟨i, rfl, i1, i9⟩ : ∃ i : Int, x = .int i ∧ 1 ≤ i ∧ i ≤ 9 := by
    simp only [List.mem_cons, List.not_mem_nil, or_false] at hx
    rcases hx with rfl | rfl | rfl | rfl <;> exact ⟨_, rfl, by omega, by omega⟩
  refine ⟨i, dk2, ?_, i1, i9, k2⟩
  have hadd : opAdd [eDoor p, .tuple [.int i]] = some (.fz (eGain (p.1, p.2, i))) := add_TT (a := [.str p.1, .str p.2]) (b := [.int i]) (by simp)
  have hl : gs.length < 1000000 := by omega
  unfold hA4 hE3
  simp [e1, e2, hadd, hl]
theorem hB4_ok (rs : List Da) (s4 s5 s9 s10 s11 : Sl) (NL : List Str) (D : List Da) (gs : List (Str × Str × Int)) (n : Nat) (dk : List Da) (h10 : ∀ d, s10 ≠ .ow d) (hN : NL ≠ []) (hN5 : NL.length ≤ 5) (hg : gs.length ≤ 100) (hn : n + 4 ≤ 100000000) (hk : DkOk n dk) (hnd : (gs.map gKey).Nodup) (hin : ∀ g ∈ gs, gainIn NL g) :
    ∃ (gs' : List (Str × Str × Int)) (dk' : List Da) (s11' : Sl), hB4 (hE3 most cap dk rs s4 s5 (NL.map dstr) D (gs.map eGain) s9 s10 s11) = .ok (.nx, hE3 most cap dk' rs s4 s5 (NL.map dstr) D (gs'.map eGain) s9 s10 s11') ∧ (gs'.map gKey).Nodup ∧ (∀ g ∈ gs', gainIn NL g) ∧ gs'.length ≤ gs.length + 1 ∧ DkOk (n + 4) dk' := by
  obtain ⟨s, dk1, e1, ⟨x, hx, rfl⟩, k1⟩ := e_one (NL.map dstr) (.list (NL.map dstr)) (.inl rfl) (by simpa using hN) (by simp; omega) n dk (by omega) hk
  obtain ⟨s, dk2, e2, ⟨y, hy, rfl⟩, k2⟩ := e_one (NL.map dstr) (.list (NL.map dstr)) (.inl rfl) (by simpa using hN) (by simp; omega) (n + 1) dk1 (by omega) k1
  obtain ⟨a, ha, rfl⟩ := List.mem_map.mp hx
  obtain ⟨b, hb, rfl⟩ := List.mem_map.mp hy
  have hst : mSet 11 (mPure opTup (exs [mCallD (f_law_one) 0 [.sl 6], mCallD (f_law_one) 0 [.sl 6]])) (hE3 most cap dk rs s4 s5 (NL.map dstr) D (gs.map eGain) s9 s10 s11) = .ok (.nx, hE3 most cap dk2 rs s4 s5 (NL.map dstr) D (gs.map eGain) s9 s10 (.fz (eDoor (a, b)))) := by
    unfold hE3
    simp [e1, e2, eDoor, dstr]
  have hl4 := hL4_ok most cap rs s4 s5 s9 s10 (.fz (eDoor (a, b))) (NL.map dstr) D gs dk2 (by omega) h10
  have hni := notIn_keys (a, b) gs
  have hcond : (mTE (mPure opNotIn [.sl 11, .ex hL4])) (hE3 most cap dk2 rs s4 s5 (NL.map dstr) D (gs.map eGain) s9 s10 (.fz (eDoor (a, b)))) = .ok (!decide ((a, b) ∈ gs.map gKey), hE3 most cap dk2 rs s4 s5 (NL.map dstr) D (gs.map eGain) s9 s10 (.fz (eDoor (a, b)))) := by
    rw [ev_te, ev_pure, ev_osl]
    have h11 : ∀ dk : List Da, sget (hE3 most cap dk rs s4 s5 (NL.map dstr) D (gs.map eGain) s9 s10 (.fz (eDoor (a, b)))) 11 = .fz (eDoor (a, b)) := fun _ => rfl
    rw [h11, ev_oex, hl4]
    simp only [ev_dfz, ev_dow, Option.isSome_some, if_true, ev_bok, ev_o0, ev_rat, ev_rva, ev_r0, Option.bind_some, h11, hni]
  by_cases hm : (a, b) ∈ gs.map gKey
  · refine ⟨gs, dk2, .fz (eDoor (a, b)), ?_, hnd, hin, by omega, k2.mono (by omega)⟩
    unfold hB4
    rw [ev_seq, hst, ev_bok]
    simp only [ev_cond, hcond, ev_bok, decide_eq_true hm, Bool.not_true, Bool.false_eq_true, if_false, ev_skip]
  · obtain ⟨i, dk3, e3, i1, i9, k3⟩ := hA4_ok most cap rs s4 s5 s9 s10 (NL.map dstr) D gs (a, b) (n + 2) dk2 (by omega) (by omega) k2
    refine ⟨gs ++ [(a, b, i)], dk3, .fz (eDoor (a, b)), ?_, ?_, ?_, by simp, k3⟩
    · unfold hB4
      rw [ev_seq, hst, ev_bok]
      simp only [ev_cond, hcond, ev_bok, decide_eq_false hm, Bool.not_false, if_true, e3]
    · rw [List.map_append, List.nodup_append]
      refine ⟨hnd, by simp, fun u hu v hv => ?_⟩
      simp only [List.map_cons, List.map_nil, List.mem_singleton, gKey] at hv
      subst hv
      exact fun e => hm (e ▸ hu)
    · intro g hg
      rcases List.mem_append.mp hg with h | h
      · exact hin g h
      · rw [List.mem_singleton.mp h]; exact ⟨ha, hb, i1, i9⟩
theorem hP4 (rs : List Da) (s4 s9 s10 : Sl) (D0 : Da) (NL : List Str) (D : List Da) (h10 : ∀ d, s10 ≠ .ow d) (hN : NL ≠ []) (hN5 : NL.length ≤ 5) : ∀ (items : List Da) (gs : List (Str × Str × Int)) (n : Nat) (dk : List Da) (s5 s11 : Sl), n + 4 * items.length ≤ 100000000 → gs.length + items.length ≤ 100 → DkOk n dk → (gs.map gKey).Nodup → (∀ g ∈ gs, gainIn NL g) →
    ∃ (gs' : List (Str × Str × Int)) (dk' : List Da) (s5' s11' : Sl), forL [.va D0] [D0] (.nm 5) hB4 items (hE3 most cap dk rs s4 s5 (NL.map dstr) D (gs.map eGain) s9 s10 s11) = .ok (.nx, hE3 most cap dk' rs s4 s5' (NL.map dstr) D (gs'.map eGain) s9 s10 s11') ∧ (gs'.map gKey).Nodup ∧ (∀ g ∈ gs', gainIn NL g) ∧ gs'.length ≤ gs.length + items.length ∧ DkOk (n + 4 * items.length) dk'
  | [], gs, n, dk, s5, s11, _, _, hk, h1, h2 => ⟨gs, dk, s5, s11, by rw [forL, if_pos (res_va _ _)], h1, h2, by simp, hk⟩
  | d :: r, gs, n, dk, s5, s11, hn, hl, hk, h1, h2 => by
    have hn' : n + 4 * (r.length + 1) ≤ 100000000 := hn
    have hl' : gs.length + (r.length + 1) ≤ 100 := hl
    obtain ⟨gs1, dk1, s11a, e1, g1, g2, g3, k1⟩ := hB4_ok most cap rs s4 (.fz d) s9 s10 s11 NL D gs n dk h10 hN hN5 (by omega) (by omega) hk h1 h2
    obtain ⟨gs', dk', s5', s11', e2, q1, q2, q3, k2⟩ := hP4 rs s4 s9 s10 D0 NL D h10 hN hN5 r gs1 (n + 4) dk1 (.fz d) s11a (by omega) (by omega) k1 g1 g2
    refine ⟨gs', dk', s5', s11', ?_, q1, q2, by simp; omega, k2.mono (by simp; omega)⟩
    rw [forL, if_pos (res_va _ _)]
    have ha : asg (.nm 5) d (hE3 most cap dk rs s4 s5 (NL.map dstr) D (gs.map eGain) s9 s10 s11) = some (hE3 most cap dk rs s4 (.fz d) (NL.map dstr) D (gs.map eGain) s9 s10 s11) := by simp [hE3]
    rw [ha]
    simp only [e1, ev_bok]
    exact e2
theorem alike_gain (a b : Str × Str × Int) : PySem.W.alike (eGain a) (eGain b) = true := by simp [eGain, PySem.W.alike, PySem.W.alikeAll]
theorem sorted_gains {gs : List (Str × Str × Int)} (hl : gs.length ≤ 1000) : opSorted [.list (gs.map eGain)] = some (.ow (.list (sortD (gs.map eGain)))) := by
  have : sortOk (gs.map eGain) = true := by
    unfold sortOk
    simp only [Bool.and_eq_true, Bool.or_eq_true, List.all_eq_true, decide_eq_true_eq]
    refine ⟨⟨⟨fun d hd e he => ?_, .inl fun d hd => ?_⟩, fun d hd => ?_⟩, by simp; omega⟩
    · obtain ⟨a, _, rfl⟩ := List.mem_map.mp hd
      obtain ⟨b, _, rfl⟩ := List.mem_map.mp he
      exact alike_gain a b
    · obtain ⟨a, _, rfl⟩ := List.mem_map.mp hd
      rfl
    · obtain ⟨a, _, rfl⟩ := List.mem_map.mp hd
      have : (eGain a).depth = 1 := rfl
      omega
  rw [opSorted, if_pos this]
end
theorem hS (most cap : Int) (rooms : List (Str × Int × Int)) (dk : List Da) (s4 : Sl) (hl : rooms.length ≤ 100) : mPar [6, 7, 8] [mLc ⟨[.sl 3], itSeq⟩ (.nm 12) (mYes) (mPure opIx [.sl 12, .ex (mK (.int 0))]) [12], mPure opLst (exs []), mPure opLst (exs [])] (hE1 most cap dk (rooms.map eRoom) s4) = .ok (.nx, [.ow (.list dk), .fz (.int most), .fz (.int cap), .ow (.list (rooms.map eRoom)), s4, .no, .ow (.list ((rooms.map (·.1)).map dstr)), .ow (.list []), .ow (.list []), .no, .no, .no, .no, .no]) := by
  have hlc := Sh.lc_mapS (it := ⟨[.sl 3], itSeq⟩) (t := .nm 12) (elt := mPure opIx [.sl 12, .ex (mK (.int 0))]) (vs := [12]) (en := hE1 most cap dk (rooms.map eRoom) s4) (os := [.at 3]) (ds := [.list (rooms.map eRoom)]) (items := rooms.map eRoom) fstD rfl rfl rfl rfl rfl rfl rfl (by simp; omega) fun d hd => by
    obtain ⟨r, _, rfl⟩ := List.mem_map.mp hd
    refine ⟨_, .fz (fstD (eRoom r)), rfl, ?_, rfl, rfl⟩
    have hs : opIx [eRoom r, .int 0] = some (.fz (fstD (eRoom r))) := rfl
    simp [hE1, hs]
  have he : (rooms.map eRoom).map fstD = (rooms.map (·.1)).map dstr := by
    rw [List.map_map, List.map_map]
    rfl
  rw [he] at hlc
  rw [ev_par]
  simp only [List.length_cons, List.length_nil, if_true, ev_hS, hlc, ev_bok]
  simp [hE1]
theorem e_house (most cap : Int) (m2 : 2 ≤ most) (m5 : most ≤ 5) (c0 : 0 ≤ cap) (c9 : cap ≤ 9) : Dr f_law_house [.int most, .int cap] 54 fun s => ∃ h : Hs, s = .fz h.enc ∧ HsOk h ∧ (h.rooms.length : Int) ≤ most ∧ 2 ≤ h.rooms.length ∧ (∀ r ∈ h.rooms, r.2.1 ≤ cap) ∧ h.gains.length ≤ 3 := by
  intro n dk hn hk
  obtain ⟨s, dk1, e1, ⟨v, rfl, v0, v1⟩, k1⟩ := e_pick (most - 1) (by omega) (by omega) n dk (by omega) hk
  obtain ⟨j, rfl⟩ := Int.eq_ofNat_of_zero_le v0
  have hj : j ≤ 3 := by omega
  have hNl : (nl5.take (2 + j)).length = 2 + j := by
    rw [List.length_take, show nl5.length = 5 from rfl]; omega
  generalize hNL : nl5.take (2 + j) = NL at hNl
  have hok : nlOk NL = true := hNL ▸ nl_ok (2 + j) (by omega)
  obtain ⟨rooms, dk2, s4, e2, hrn, hrin, k2⟩ := hP1 most cap c0 c9 (.list (NL.map dstr)) NL [] (n + 1) dk1 .no (by omega) k1 (by simp) (by simp; omega)
  simp only [List.map_nil, List.nil_append] at hrn e2
  have hrl : rooms.length = 2 + j := by rw [← hNl, ← hrn, List.length_map]
  have hS := hS most cap rooms dk2 s4 (by omega)
  rw [hrn] at hS
  obtain ⟨doors, dk3, s9, s10, e3, hds, k3, h10⟩ := hP3 most cap (rooms.map eRoom) s4 (.list (NL.map dstr)) NL NL [] [] (n + 1 + 3 * NL.length) dk2 .no .no rfl (by omega) (by omega) (by simp; omega) k2 (fun d => by simp)
  obtain ⟨s, dk4, e4, ⟨w, rfl, w0, w1⟩, k4⟩ := e_pick 4 (by omega) (by omega) (n + 1 + 3 * NL.length + 5 * NL.length) dk3 (by omega) k3
  obtain ⟨t, rfl⟩ := Int.eq_ofNat_of_zero_le w0
  have ht : t ≤ 3 := by omega
  generalize hit : ((List.range t).map fun k : Nat => (PyData.int (k : Int) : Da)) = items
  have hil : items.length = t := by rw [← hit]; simp
  have hNne : NL ≠ [] := by intro z; rw [z] at hNl; simp at hNl; omega
  obtain ⟨gs, dk5, s5, s11, e5, g1, g2, g3, k5⟩ := hP4 most cap (rooms.map eRoom) s4 s9 s10 (.int (t : Int)) NL (doors.map eDoor) h10 hNne (by omega) items [] (n + 1 + 3 * NL.length + 5 * NL.length + 1) dk4 .no .no (by omega) (by simp; omega) k4 (by simp) (by simp)
  simp only [List.map_nil, List.nil_append, List.length_nil, Nat.zero_add] at e5 g3 e3
  obtain ⟨gs', hso, hperm, hris⟩ := sort_gains (gs := gs) g1
  have hgl : gs'.length ≤ 3 := by rw [hperm.length_eq]; omega
  simp only [nlOk, Bool.and_eq_true, decide_eq_true_eq, List.all_eq_true] at hok
  obtain ⟨⟨⟨⟨q1, q2⟩, q3⟩, q4⟩, q5⟩ := hok
  refine ⟨.fz (Hs.enc ⟨rooms, doors, gs'⟩), dk5, ?_, ⟨⟨rooms, doors, gs'⟩, rfl, ⟨?_, by show rooms.length ≤ 5; omega, ?_, ?_, ?_, ?_, ?_, ?_, hris, by show gs'.length ≤ 10; omega⟩, by show (rooms.length : Int) ≤ most; omega, by show 2 ≤ rooms.length; omega, fun r hr => (hrin r hr).2.1, hgl⟩, k5.mono (by omega)⟩
  · unfold f_law_house
    rw [house_split, fnD_eq]
    have hset : mSet 3 (mPure opLst (exs [])) (.ow (.list dk) :: ([.int most, .int cap] : List Da).map .fz ++ List.replicate 11 .no) = .ok (.nx, hE1 most cap dk [] .no) := rfl
    have hsl : opSlHi [.list hNames, .int (2 + (j : Int))] = some (.ow (.list (NL.map dstr))) := by
      show some (Sl.ow (.list (cutD hNames none (some (2 + (j : Int)))))) = _
      rw [show (2 + (j : Int)) = ((2 + j : Nat) : Int) by omega, Sh.cutD_hi, ← hNL, List.map_take]
      rfl
    have hf1 : mFor ⟨[.ex (mPure opSlHi [.ex (mPure opLst (exs [mK (.str "bay"), mK (.str "den"), mK (.str "hut"), mK (.str "loft"), mK (.str "nook")])), .ex (mPure opAdd [.ex (mK (.int 2)), .ex (mCallD (f_law_pick) 0 [.ex (mPure opSub [.sl 1, .ex (mK (.int 1))])])])])], itSeq⟩ (.nm 4) hB1 (hE1 most cap dk [] .no) = .ok (.nx, hE1 most cap dk2 (rooms.map eRoom) s4) := by
      rw [ev_for]
      unfold hNames at hsl
      simp only [hE1, ev_oex, ev_pure, ev_exsS, ev_exs0, ev_K, ev_bok, ev_dfz, ev_o0, ev_rva, ev_r0, Option.bind_some, op_lst, List.length_cons, List.length_nil, Nat.reduceAdd, Nat.reduceLeDiff, if_true, ev_dow, ev_callD, ev_sget0, ev_sgetS, ev_osl, Option.isSome_some, ev_rat, op_sub_ii, e1, ev_nx, ev_at0, ev_atV, List.contains_nil, Bool.false_eq_true, if_false, ev_frz0, ev_set0, op_add_ii, hsl]
      exact e2
    have hf3 : mFor ⟨[.ex (mVar 6)], itEnum⟩ (.tp [.nm 9, .nm 10]) hB3 [.ow (.list dk2), .fz (.int most), .fz (.int cap), .ow (.list (rooms.map eRoom)), s4, .no, .ow (.list (NL.map dstr)), .ow (.list []), .ow (.list []), .no, .no, .no, .no, .no] = .ok (.nx, hE3 most cap dk3 (rooms.map eRoom) s4 .no (NL.map dstr) (doors.map eDoor) [] s9 s10 .no) := by
      rw [ev_for]
      simp only [ev_oex, ev_var, ev_sgetS, ev_sget0, ev_bok, ev_dfz, ev_o0, ev_rva, ev_r0, Option.bind_some, List.set_cons_succ, ev_set0]
      exact e3
    have hf4 : mFor ⟨[.ex (mCallD (f_law_pick) 0 [.ex (mK (.int 4))])], itRng⟩ (.nm 5) hB4 (hE3 most cap dk3 (rooms.map eRoom) s4 .no (NL.map dstr) (doors.map eDoor) [] s9 s10 .no) = .ok (.nx, hE3 most cap dk5 (rooms.map eRoom) s4 s5 (NL.map dstr) (doors.map eDoor) (gs.map eGain) s9 s10 s11) := by
      rw [ev_for]
      have hr := itRng_nat t (by omega)
      rw [hit] at hr
      simp only [hE3, ev_oex, ev_K, ev_bok, ev_dfz, ev_o0, ev_rva, ev_r0, Option.bind_some, ev_callD, ev_sget0, ev_sgetS, e4, ev_nx, ev_at0, ev_atV, List.contains_nil, Bool.false_eq_true, if_false, ev_frz0, ev_set0, hr]
      exact e5
    have hso' := sorted_gains (gs := gs) (by omega)
    rw [hso] at hso'
    have hret : mRet (mPure opTup (exs [mPure opTuple [.sl 3], mPure opTuple [.sl 7], mPure opTuple [.ex (mPure opSorted [.sl 8])]])) (hE3 most cap dk5 (rooms.map eRoom) s4 s5 (NL.map dstr) (doors.map eDoor) (gs.map eGain) s9 s10 s11) = .ok (.rt (.fz (Hs.enc ⟨rooms, doors, gs'⟩)), hE3 most cap dk5 (rooms.map eRoom) s4 s5 (NL.map dstr) (doors.map eDoor) (gs.map eGain) s9 s10 s11) := by
      simp [hE3, opTuple, hso', Hs.enc]
    rw [ev_seq, hset, ev_bok]
    simp only [ev_seq, hf1, ev_bok]
    unfold hRest
    simp only [ev_seq, hS, ev_bok, hf3, hf4, hret]
    rfl
  · intro z
    have z' : rooms = [] := z
    rw [z'] at hrl
    simp at hrl
    omega
  · intro r hr
    obtain ⟨a1, a2, a3, a4⟩ := hrin r hr
    refine ⟨q2 r.1 ?_, a1, by omega, a3, a4⟩
    rw [← hrn]
    exact List.mem_map.mpr ⟨r, hr, rfl⟩
  · show rising ((rooms.map (·.1)).map dstr) = true
    rw [hrn]; exact q1
  · intro p hp
    have := q3 p (hds.subset hp)
    show p.1 ∈ rooms.map (·.1) ∧ p.2 ∈ rooms.map (·.1) ∧ _
    rw [hrn]
    exact ⟨List.contains_iff_mem.mp this.1.1, List.contains_iff_mem.mp this.1.2, this.2⟩
  · exact rising_of (List.pairwise_map.mpr (q4.sublist hds))
  · exact Nat.le_trans hds.length_le q5
  · intro g hg
    show g.1 ∈ rooms.map (·.1) ∧ g.2.1 ∈ rooms.map (·.1) ∧ _
    rw [hrn]
    exact g2 g (hperm.mem_iff.mp hg)
end Mi
set_option Elab.async false
set_option linter.all false
set_option maxRecDepth 100000
set_option autoImplicit false
/-! halls drawn, and the law's own readings -/
namespace Mi
open PySem PySem.Spec PyProof.Rows L2 Sh

theorem e_hall (most cap bm : Int) (m2 : 2 ≤ most) (m5 : most ≤ 5) (c0 : 0 ≤ cap) (c9 : cap ≤ 9) (b1 : 1 ≤ bm) (b3 : bm ≤ 3) : Dr f_law_hall [.int most, .int cap, .int bm] 71 fun s => ∃ (h : Hs) (bs : List Int) (t : Sn), s = .fz (.tuple [h.enc, eBs bs, t.enc]) ∧ HsOk h ∧ BsOk bs ∧ SnOk h bs.length t ∧ (h.rooms.length : Int) ≤ most ∧ 2 ≤ h.rooms.length ∧ (∀ r ∈ h.rooms, r.2.1 ≤ cap) ∧ h.gains.length ≤ 3 ∧ (bs.length : Int) ≤ bm ∧ (∀ b ∈ bs, b ≤ 3) := by
  intro n dk hn hk
  obtain ⟨s, dk1, e1, ⟨h, rfl, kh, h1, h2, h3, h4⟩, k1⟩ := e_house most cap m2 m5 c0 c9 n dk (by omega) hk
  obtain ⟨s, dk2, e2, ⟨bs, rfl, kb, g1, g2⟩, k2⟩ := e_bearers bm b1 b3 (n + 54) dk1 (by omega) k1
  obtain ⟨s, dk3, e3, ⟨t, rfl, kt⟩, k3⟩ := e_stand kh bs kb.n3 (n + 58) dk2 (by omega) k2
  refine ⟨_, dk3, ?_, ⟨h, bs, t, rfl, kh, kb, kt, h1, h2, h3, h4, g1, g2⟩, k3⟩
  unfold f_law_hall m_law_hall
  rw [fnD_eq]
  simp [e1, e2, e3]
theorem op_ne_nil (a : List Da) (h : PyData.plainAll a = true) : opNe [.list a, .list []] = some (.fz (.bool (!a.isEmpty))) := by
  have : okc (.list a) (.list []) = true := by
    unfold okc
    simp [PyData.plain, h, PyData.plainAll, PyData.depth, PyData.depthAll]
  rw [opNe, if_pos this]
  simp [PyData.eqv, eqv_nil]
theorem fil_empty {α β : Type} (p : α → Bool) (g : α → β) : ∀ l : List α, ((l.filter p).map g).isEmpty = l.all fun x => !p x
  | [] => rfl
  | x :: l => by
    have := fil_empty p g l
    cases h : p x <;> simp [h] at this ⊢
    exact this
theorem plain_of {l : Nat} {xs : List Da} (h : ∀ x ∈ xs, Wf l x = true) : PyData.plainAll xs = true := plainAll_iff.mpr fun x hx => Wf.plain (h x hx)
theorem plain_fil {xs : List Da} (p : Da → Bool) (h : PyData.plainAll xs = true) : PyData.plainAll ((xs.filter p).map id) = true := plainAll_iff.mpr fun x hx => by
  rw [List.map_id] at hx
  exact plainAll_iff.mp h x (List.mem_filter.mp hx).1
theorem e_law_are_bearers (d : Da) {l : Nat} (hl : l ≤ 100000) (hd : Wf l d = true) : f_law_are_bearers [d] = .ok (.fz (.bool (areBearers d))) := by
  unfold f_law_are_bearers m_law_are_bearers
  rw [fnP_eq]
  cases d with
  | tuple xs =>
    obtain ⟨hx, hw⟩ := Wf.tup hd
    have hlc : mLc ⟨[.sl 0], itSeq⟩ (.nm 1) (mNot (mTE (mCall (f_law_in) [.sl 1, .ex (mK (.int 0)), .ex (mK (.int 9))]))) (mVar 1) [1] [.fz (.tuple xs), .no] = .ok (.ow (.list ((xs.filter fun d => !isFrom d 0 9).map id)), [.fz (.tuple xs), .no]) := by
      refine Sh.lc_filS (fun d => !isFrom d 0 9) id rfl rfl rfl rfl rfl rfl rfl (by omega) fun d hd => ?_
      refine ⟨_, .fz d, rfl, ?_, ?_, rfl, rfl⟩
      · simp
      · simp
    have ho := op_eq_nil _ (plain_fil (fun d => !isFrom d 0 9) (plain_of hw))
    rw [fil_empty] at ho
    simp only [Bool.not_not] at ho
    by_cases h1 : (1 : Int) ≤ xs.length
    · by_cases h2 : (xs.length : Int) ≤ 3
      · simp only [List.map_id] at hlc ho
        simp [areBearers, PyData.isTuple, h1, h2, hlc, ho]
      · simp [areBearers, PyData.isTuple, h1, h2]
    · simp [areBearers, PyData.isTuple, h1]
  | _ => simp [areBearers, PyData.isTuple]
/-! sizes against caps, by number -/
def szBad (rooms : List Da) : Da → Bool
  | .tuple [.int k, x] => match atI rooms k with
    | some (.tuple (_ :: .int c :: _)) => !isFrom x 0 c
    | _ => false
  | _ => false
theorem en_zip : ∀ (xs : List Da) (pre rs : List (Str × Int × Int)), xs.length = rs.length → ((enumD pre.length xs).all fun d => !szBad ((pre ++ rs).map eRoom) d) = (zipD xs (rs.map eRoom)).all szOk
  | [], _, [], _ => rfl
  | [], _, _ :: _, h => by simp at h
  | _ :: _, _, [], h => by simp at h
  | x :: xs, pre, r :: rs, h => by
    have ih := en_zip xs (pre ++ [r]) rs (by simpa using h)
    rw [List.length_append] at ih
    have ha : atI ((pre ++ r :: rs).map eRoom) (pre.length : Int) = some (eRoom r) := by
      rw [Sh.atI_nat]; simp
    rw [enumD, List.map_cons, zipD, List.all_cons, List.all_cons]
    have e1 : (!szBad ((pre ++ r :: rs).map eRoom) (.tuple [.int (pre.length : Int), x])) = szOk (.tuple [x, eRoom r]) := by
      simp only [szBad, ha, eRoom, szOk, Bool.not_not]
    rw [e1]
    congr 1
    simpa using ih
def fil0 (xs : List Da) (rooms : List Da) : List Da := ((enumD 0 xs).filter (szBad rooms)).map fstD
theorem fil0_empty {xs : List Da} {rs : List (Str × Int × Int)} (h : xs.length = rs.length) : (fil0 xs (rs.map eRoom)).isEmpty = (zipD xs (rs.map eRoom)).all szOk := by
  unfold fil0
  rw [fil_empty]
  exact en_zip xs [] rs h
theorem fil0_plain (xs rooms : List Da) : PyData.plainAll (fil0 xs rooms) = true := plainAll_iff.mpr fun x hx => by
  obtain ⟨d, hd, rfl⟩ := List.mem_map.mp hx
  obtain ⟨i, hi⟩ := List.mem_iff_getElem?.mp (List.mem_filter.mp hd).1
  obtain ⟨x, _, rfl⟩ := enumD_get hi
  rfl
end Mi
set_option Elab.async false
set_option linter.all false
set_option maxRecDepth 100000
set_option autoImplicit false
/-! names, dicts by name -/
namespace Mi
open PySem PySem.Spec PyProof.Rows L2 Sh

theorem lt_trans3 {a b c : Da} (h1 : PySem.W.dataLt a b = true) (h2 : PySem.W.dataLt b c = true) : PySem.W.dataLt a c = true := PyProof.Rows.lex_trans _ _ _ h1 h2
theorem rising_pw : ∀ {ds : List Da}, rising ds = true → ds.Pairwise (fun a b => PySem.W.dataLt a b = true)
  | [], _ => .nil
  | [_], _ => by simp
  | a :: b :: r, h => by
    rw [rising, Bool.and_eq_true] at h
    have ih := rising_pw h.2
    refine List.pairwise_cons.mpr ⟨fun c hc => ?_, ih⟩
    rcases List.mem_cons.mp hc with rfl | hc
    · exact h.1
    · exact lt_trans3 h.1 ((List.pairwise_cons.mp ih).1 c hc)
theorem rising_nd {ds : List Da} (h : rising ds = true) : ds.Nodup := (rising_pw h).imp fun {a b} h e => by
  subst e
  have e0 : PySem.W.dataLt a a = false := PyProof.Rows.lex_irrefl _
  rw [e0] at h
  cases h
theorem nd_of_map {α β : Type} (f : α → β) {l : List α} (h : (l.map f).Nodup) : l.Nodup := (List.pairwise_map.mp h).imp fun {a b} h e => h (congrArg f e)
theorem HsOk.nd {h : Hs} (k : HsOk h) : h.names.Nodup := nd_of_map dstr (rising_nd k.ris)
theorem HsOk.gnd {h : Hs} (k : HsOk h) : (h.gains.map gKey).Nodup := by
  have := rising_nd k.gris
  have e : (h.gains.map fun g => eDoor (g.1, g.2.1)) = (h.gains.map gKey).map eDoor := by rw [List.map_map]; rfl
  rw [e] at this
  exact nd_of_map eDoor this
/-! where a name stands -/
def at' (l : List Str) (z : Str) : Nat := l.idxOf z
theorem at_lt {l : List Str} {z : Str} (h : z ∈ l) : at' l z < l.length := List.idxOf_lt_length_of_mem h
theorem at_get {l : List Str} {z : Str} (h : z ∈ l) : l[at' l z]? = some z := by
  rw [List.getElem?_eq_getElem (at_lt h)]
  exact congrArg some (List.getElem_idxOf (at_lt h))
theorem at_cons (y : Str) (l : List Str) (z : Str) : at' (y :: l) z = if y = z then 0 else at' l z + 1 := by
  unfold at'
  rw [List.idxOf_cons]
  by_cases h : y = z
  · simp [h]
  · rw [beq_eq_false_iff_ne.mpr h, if_neg h]
    rfl
theorem strs_all : ∀ l : List Str, (l.map dstr).all PyData.isStr = true
  | [] => rfl
  | z :: l => by rw [List.map_cons, List.all_cons, strs_all l]; rfl
theorem ixS_map : ∀ {l : List Str} {z : Str}, z ∈ l → ixS (l.map dstr) z = some (at' l z)
  | [], _, h => by simp at h
  | y :: l, z, h => by
    rw [List.map_cons, at_cons]
    show (if y = z then (if (l.map dstr).all PyData.isStr = true then some 0 else none) else (ixS (l.map dstr) z).map (· + 1)) = _
    by_cases e : y = z
    · rw [if_pos e, if_pos (strs_all l), if_pos e]
    · rw [if_neg e, if_neg e, ixS_map (List.mem_of_ne_of_mem (Ne.symm e) h)]
      rfl
theorem strsOf_map : ∀ l : List Str, strsOf (l.map dstr) = some l
  | [] => rfl
  | z :: l => by
    show (strsOf (l.map dstr)).map (z :: ·) = _
    rw [strsOf_map l]
    rfl
theorem look_zip : ∀ {l : List Str} {ds : List Da} {z : Str}, z ∈ l → l.length = ds.length → lookD (zipKD l ds) z = ds[at' l z]?
  | [], _, _, h, _ => by simp at h
  | y :: l, [], _, _, e => by simp at e
  | y :: l, d :: ds, z, h, e => by
    rw [zipKD, at_cons]
    show (if y = z then some d else lookD (zipKD l ds) z) = _
    by_cases hy : y = z
    · rw [if_pos hy, if_pos hy]; rfl
    · rw [if_neg hy, if_neg hy, look_zip (List.mem_of_ne_of_mem (Ne.symm hy) h) (by simpa using e)]
      rfl
theorem look_none : ∀ {l : List Str} {ds : List Da} {z : Str}, z ∉ l → lookD (zipKD l ds) z = none
  | [], _, _, _ => rfl
  | _ :: _, [], _, _ => rfl
  | y :: l, d :: ds, z, h => by
    rw [zipKD]
    show (if y = z then some d else lookD (zipKD l ds) z) = _
    simp only [List.mem_cons, not_or] at h
    rw [if_neg (fun e => h.1 e.symm), look_none h.2]
theorem repl_none : ∀ {l : List Str} {ds : List Da} {z : Str} (v : Da), z ∉ l → replD z v (zipKD l ds) = zipKD l ds
  | [], _, _, _, _ => rfl
  | _ :: _, [], _, _, _ => rfl
  | y :: l, d :: ds, z, v, h => by
    rw [zipKD]
    show (if y = z then (PyData.str y, v) else (PyData.str y, d)) :: replD z v (zipKD l ds) = _
    simp only [List.mem_cons, not_or] at h
    rw [if_neg (fun e => h.1 e.symm), repl_none v h.2]
theorem repl_zip : ∀ {l : List Str} {ds : List Da} {z : Str} (v : Da), l.Nodup → z ∈ l → replD z v (zipKD l ds) = zipKD l (ds.set (at' l z) v)
  | [], _, _, _, _, h => by simp at h
  | _ :: _, [], _, _, _, _ => rfl
  | y :: l, d :: ds, z, v, nd, h => by
    obtain ⟨h1, h2⟩ := List.nodup_cons.mp nd
    rw [zipKD, at_cons]
    show (if y = z then (PyData.str y, v) else (PyData.str y, d)) :: replD z v (zipKD l ds) = _
    by_cases e : y = z
    · subst e
      rw [if_pos rfl, if_pos rfl, repl_none v h1]
      rfl
    · rw [if_neg e, if_neg e, repl_zip v h2 (List.mem_of_ne_of_mem (Ne.symm e) h)]
      rfl
theorem put_zip {l : List Str} {ds : List Da} {z : Str} (v : Da) (nd : l.Nodup) (h : z ∈ l) (e : l.length = ds.length) : putD (zipKD l ds) z v = zipKD l (ds.set (at' l z) v) := by
  unfold putD hasD
  rw [look_zip h e, List.getElem?_eq_getElem (by rw [← e]; exact at_lt h)]
  simp only [Option.isSome_some, if_true]
  exact repl_zip v nd h
theorem zip_snoc : ∀ (l : List Str) (ds : List Da) (z : Str) (v : Da), l.length = ds.length → zipKD (l ++ [z]) (ds ++ [v]) = zipKD l ds ++ [(.str z, v)]
  | [], [], _, _, _ => rfl
  | [], _ :: _, _, _, h => by simp at h
  | _ :: _, [], _, _, h => by simp at h
  | y :: l, d :: ds, z, v, h => by
    show (PyData.str y, d) :: zipKD (l ++ [z]) (ds ++ [v]) = _
    rw [zip_snoc l ds z v (by simpa using h)]
    rfl
theorem put_new {l : List Str} {ds : List Da} {z : Str} (v : Da) (h : z ∉ l) (e : l.length = ds.length) : putD (zipKD l ds) z v = zipKD (l ++ [z]) (ds ++ [v]) := by
  unfold putD hasD
  rw [look_none h, zip_snoc l ds z v e]
  rfl
theorem zipKD_len : ∀ (l : List Str) (ds : List Da), l.length = ds.length → (zipKD l ds).length = l.length
  | [], [], _ => rfl
  | [], _ :: _, h => by simp at h
  | _ :: _, [], h => by simp at h
  | y :: l, d :: ds, h => by
    show (zipKD l ds).length + 1 = _
    rw [zipKD_len l ds (by simpa using h)]
    rfl
end Mi
set_option Elab.async false
set_option linter.all false
set_option maxRecDepth 100000
set_option autoImplicit false
/-! gained -/
namespace Mi
open PySem PySem.Spec PyProof.Rows L2 Sh

def mn (c s : Int) : Int := if s < c then s else c
def capAt (h : Hs) (z : Str) : Int := (h.caps[at' h.names z]?).getD 0
def szAt (h : Hs) (sz : List Int) (z : Str) : Int := (sz[at' h.names z]?).getD 0
def gStep (h : Hs) (x : Str) (sz : List Int) (g : Str × Str × Int) : List Int := if g.1 = x then sz.set (at' h.names g.2.1) (mn (capAt h g.2.1) (szAt h sz g.2.1 + g.2.2)) else sz
def gainedL (h : Hs) (x : Str) (gs : List (Str × Str × Int)) (sz : List Int) : List Int := gs.foldl (gStep h x) sz
theorem gStep_len (h : Hs) (x : Str) (sz : List Int) (g : Str × Str × Int) : (gStep h x sz g).length = sz.length := by
  unfold gStep
  split
  · rw [List.length_set]
  · rfl
theorem gainedL_len (h : Hs) (x : Str) : ∀ (gs : List (Str × Str × Int)) (sz : List Int), (gainedL h x gs sz).length = sz.length
  | [], _ => rfl
  | g :: gs, sz => by
    show (gainedL h x gs (gStep h x sz g)).length = _
    rw [gainedL_len h x gs, gStep_len]
theorem names_len (h : Hs) : h.names.length = h.rooms.length := by simp [Hs.names]
theorem caps_len' (h : Hs) : h.caps.length = h.rooms.length := by simp [Hs.caps]
section
variable {h : Hs} (kh : HsOk h)
include kh
theorem dc_caps (D : Da) (s0 s1 s2 s3 : Sl) : ∀ (rs : List (Str × Int × Int)) (l : List Str) (cs : List Da), l.length = cs.length → l.length + rs.length ≤ 100 → (l ++ rs.map (·.1)).Nodup →
    dcL [.va D] [D] (.nm 8) mYes (mPure opIx [.sl 8, .ex (mK (.int 0))]) (mPure opIx [.sl 8, .ex (mK (.int 1))]) [8] (rs.map eRoom) (zipKD l cs) [s0, s1, s2, s3, .no, .no, .no, .no, .no] = .ok (zipKD (l ++ rs.map (·.1)) (cs ++ rs.map fun r => dint r.2.1), [s0, s1, s2, s3, .no, .no, .no, .no, .no])
  | [], l, cs, _, _, _ => by rw [List.map_nil, dcL, if_pos (res_va _ _)]; simp
  | r :: rs, l, cs, hl, hb, nd => by
    have hb' : l.length + (rs.length + 1) ≤ 100 := hb
    have hr : r.1 ∉ l := fun hm => by
      rw [List.nodup_append] at nd
      exact nd.2.2 _ hm _ (by simp) rfl
    have ih := dc_caps D s0 s1 s2 s3 rs (l ++ [r.1]) (cs ++ [dint r.2.1]) (by simp [hl]) (by simp; omega) (by simpa using nd)
    rw [List.map_cons, dcL, if_pos (res_va _ _)]
    have e0 : opIx [eRoom r, .int 0] = some (.fz (.str r.1)) := rfl
    have e1 : opIx [eRoom r, .int 1] = some (.fz (.int r.2.1)) := rfl
    have hz : (zipKD l cs).length < 1000000 := by rw [zipKD_len l cs hl]; omega
    have hp : putD (zipKD l cs) r.1 (.int r.2.1) = zipKD (l ++ [r.1]) (cs ++ [dint r.2.1]) := put_new _ hr hl
    simp [e0, e1, hz, hp]
    simpa using ih
def gE (h : Hs) (S X : Da) (sz : List Int) (s5 s6 s7 : Sl) : En := [.fz h.enc, .fz S, .fz X, .ow (.dict (zipKD h.names (sz.map dint))), .ow (.dict (zipKD h.names (h.caps.map dint))), s5, s6, s7, .no]
noncomputable def gB : MS := mCond (mTE (mPure opEq [.sl 5, .sl 2])) (mPutD 3 (mVar 6) (mPure opMin2 [.ex (mPure opIxD [.sl 4, .sl 6]), .ex (mPure opAdd [.ex (mPure opIxD [.sl 3, .sl 6]), .sl 7])])) (mSkip)
theorem op_eq_ss (x y : Str) : opEq [.str x, .str y] = some (.fz (.bool (decide (x = y)))) := by
  have : okc (.str x) (.str y) = true := by simp [okc, PyData.plain, PyData.depth]
  rw [opEq, if_pos this, eqv_ss]
theorem gB_ok (S : Da) (x : Str) (sz : List Int) (hl : sz.length = h.rooms.length) (g : Str × Str × Int) (hg : g.2.1 ∈ h.names) : gB (gE h S (.str x) sz (.fz (.str g.1)) (.fz (.str g.2.1)) (.fz (.int g.2.2))) = .ok (.nx, gE h S (.str x) (gStep h x sz g) (.fz (.str g.1)) (.fz (.str g.2.1)) (.fz (.int g.2.2))) := by
  have h5 := kh.n5
  have hlt : at' h.names g.2.1 < h.rooms.length := by have := at_lt hg; rw [names_len] at this; exact this
  have e1 : lookD (zipKD h.names (sz.map dint)) g.2.1 = some (.int (szAt h sz g.2.1)) := by
    rw [look_zip hg (by rw [List.length_map, names_len, hl]), List.getElem?_map]
    unfold szAt
    rw [List.getElem?_eq_getElem (by rw [hl]; exact hlt)]
    rfl
  have e2 : lookD (zipKD h.names (h.caps.map dint)) g.2.1 = some (.int (capAt h g.2.1)) := by
    rw [look_zip hg (by rw [List.length_map, names_len, caps_len']), List.getElem?_map]
    unfold capAt
    rw [List.getElem?_eq_getElem (by rw [caps_len']; exact hlt)]
    rfl
  have e3 : ∀ v : Int, putD (zipKD h.names (sz.map dint)) g.2.1 (.int v) = zipKD h.names ((sz.set (at' h.names g.2.1) v).map dint) := fun v => by
    rw [put_zip _ kh.nd hg (by rw [List.length_map, names_len, hl]), List.map_set]
    rfl
  have hz : (zipKD h.names (sz.map dint)).length < 1000000 := by rw [zipKD_len _ _ (by rw [List.length_map, names_len, hl]), names_len]; omega
  unfold gB gE gStep
  by_cases hx : g.1 = x
  · simp [op_eq_ss kh, hx, e1, e2, e3, hz, mn]
  · simp [op_eq_ss kh, hx]
theorem g_loop (D S : Da) (x : Str) : ∀ (gs : List (Str × Str × Int)) (sz : List Int) (s5 s6 s7 : Sl), sz.length = h.rooms.length → (∀ g ∈ gs, g.2.1 ∈ h.names) → ∃ s5' s6' s7', forL [.va D] [D] (.tp [.nm 5, .nm 6, .nm 7]) gB (gs.map eGain) (gE h S (.str x) sz s5 s6 s7) = .ok (.nx, gE h S (.str x) (gainedL h x gs sz) s5' s6' s7')
  | [], sz, s5, s6, s7, _, _ => ⟨s5, s6, s7, by rw [List.map_nil, forL, if_pos (res_va _ _)]; rfl⟩
  | g :: gs, sz, s5, s6, s7, hl, hg => by
    obtain ⟨a, b, c, e⟩ := g_loop D S x gs (gStep h x sz g) (.fz (.str g.1)) (.fz (.str g.2.1)) (.fz (.int g.2.2)) (by rw [gStep_len, hl]) (fun q hq => hg q (by simp [hq]))
    refine ⟨a, b, c, ?_⟩
    rw [List.map_cons, forL, if_pos (res_va _ _)]
    have ha : asg (.tp [.nm 5, .nm 6, .nm 7]) (eGain g) (gE h S (.str x) sz s5 s6 s7) = some (gE h S (.str x) sz (.fz (.str g.1)) (.fz (.str g.2.1)) (.fz (.int g.2.2))) := by simp [gE, eGain]
    rw [ha]
    simp only [gB_ok kh S x sz hl g (hg g (by simp)), ev_bok]
    exact e
theorem e_gained (x : Str) (sz : List Int) (hl : sz.length = h.rooms.length) : f_gained [h.enc, .tuple (sz.map dint), .str x] = .ok (.ow (.dict (zipKD h.names ((gainedL h x h.gains sz).map dint)))) := by
  have h5 := kh.n5
  unfold f_gained m_gained
  rw [fnP_eq]
  have e0 := e_names_of kh
  have ez : opDictZip [.list (h.names.map dstr), .tuple (sz.map dint)] = some (.ow (.dict (zipKD h.names (sz.map dint)))) := by
    show (strsOf (h.names.map dstr)).bind _ = _
    rw [strsOf_map]
    have : (decide h.names.Nodup && decide (h.names.length = (sz.map dint).length) && decide (h.names.length ≤ 1000)) = true := by
      simp only [Bool.and_eq_true, decide_eq_true_eq]
      exact ⟨⟨kh.nd, by rw [List.length_map, names_len, hl]⟩, by rw [names_len]; omega⟩
    simp only [Option.bind_some, this, if_true]
  have hdc : ∀ s3 : Sl, mDc ⟨[.ex (mPure opIx [.sl 0, .ex (mK (.int 0))])], itSeq⟩ (.nm 8) (mYes) (mPure opIx [.sl 8, .ex (mK (.int 0))]) (mPure opIx [.sl 8, .ex (mK (.int 1))]) [8] [.fz h.enc, .fz (.tuple (sz.map dint)), .fz (.str x), s3, .no, .no, .no, .no, .no] = .ok (.ow (.dict (zipKD h.names (h.caps.map dint))), [.fz h.enc, .fz (.tuple (sz.map dint)), .fz (.str x), s3, .no, .no, .no, .no, .no]) := fun s3 => by
    have hd := dc_caps kh (.tuple (h.rooms.map eRoom)) (.fz h.enc) (.fz (.tuple (sz.map dint))) (.fz (.str x)) s3 h.rooms [] [] rfl (by simp; omega) (by rw [List.nil_append]; exact kh.nd)
    have hc : h.caps.map dint = h.rooms.map fun r => dint r.2.1 := by unfold Hs.caps; rw [List.map_map]; rfl
    rw [hc]
    simp only [List.nil_append] at hd
    show ((evalOps _ _).bind _) = _
    have hit : itSeq [.tuple (h.rooms.map eRoom)] = some (h.rooms.map eRoom) := rfl
    have hz0 : zipKD ([] : List Str) [] = [] := rfl
    rw [hz0] at hd
    simp [hit, hd]
    rfl
  obtain ⟨a, b, c, hf⟩ := g_loop kh (.tuple (h.gains.map eGain)) (.tuple (sz.map dint)) x h.gains sz .no .no .no hl (fun g hg => (kh.gain g hg).2.1)
  have hfor : mFor ⟨[.ex (mPure opIx [.sl 0, .ex (mK (.int 2))])], itSeq⟩ (.tp [.nm 5, .nm 6, .nm 7]) gB (gE h (.tuple (sz.map dint)) (.str x) sz .no .no .no) = .ok (.nx, gE h (.tuple (sz.map dint)) (.str x) (gainedL h x h.gains sz) a b c) := by
    rw [ev_for]
    have hit : itSeq [.tuple (h.gains.map eGain)] = some (h.gains.map eGain) := rfl
    have hi2 : opIx [h.enc, .int 2] = some (.fz (.tuple (h.gains.map eGain))) := rfl
    simp only [gE, ev_oex, ev_pure, ev_osl, ev_sget0, ev_dfz, Option.isSome_some, if_true, ev_K, ev_bok, ev_o0, ev_rat, ev_rva, ev_r0, Option.bind_some, hi2, hit]
    exact hf
  have hs3 : mSet 3 (mPure opDictZip [.ex (mCall (f_names_of) [.sl 0]), .sl 1]) (([h.enc, .tuple (sz.map dint), .str x] : List Da).map .fz ++ List.replicate 6 .no) = .ok (.nx, [.fz h.enc, .fz (.tuple (sz.map dint)), .fz (.str x), .ow (.dict (zipKD h.names (sz.map dint))), .no, .no, .no, .no, .no]) := by
    simp [e0, ez, List.replicate]
  rw [ev_seq, hs3]
  simp only [ev_bok, ev_seq, ev_mset, hdc, List.set_cons_succ, ev_set0]
  have hfor' := hfor
  unfold gE gB at hfor'
  rw [hfor']
  simp
end
end Mi
set_option Elab.async false
set_option linter.all false
set_option maxRecDepth 100000
set_option autoImplicit false
/-! near, come -/
namespace Mi
open PySem PySem.Spec PyProof.Rows L2 Sh

def loS (x z : Str) : Str := if ltSS z x = true then z else x
def hiS (x z : Str) : Str := if ltSS x z = true then z else x
def nearB (h : Hs) (x z : Str) : Bool := decide ((loS x z, hiS x z) ∈ h.doors)
theorem in_doors (p : Str × Str) (ds : List (Str × Str)) : opIn [eDoor p, .tuple (ds.map eDoor)] = some (.fz (.bool (decide (p ∈ ds)))) ∧ opNotIn [eDoor p, .tuple (ds.map eDoor)] = some (.fz (.bool (!decide (p ∈ ds)))) := by
  have hin : inOk (eDoor p) (ds.map eDoor) = true := by
    unfold inOk
    simp only [Bool.and_eq_true, decide_eq_true_eq]
    refine ⟨⟨plain_door p, plainAll_iff.mpr fun d hd => ?_⟩, ?_⟩
    · obtain ⟨g, _, rfl⟩ := List.mem_map.mp hd
      exact plain_door _
    · have : (eDoor p).depth = 1 := rfl
      rw [this]; omega
  have hany : ((ds.map eDoor).any fun y => PyData.eqv y (eDoor p)) = decide (p ∈ ds) := by
    rw [List.any_map]
    by_cases h : p ∈ ds
    · rw [decide_eq_true h]
      exact List.any_eq_true.mpr ⟨p, h, by simp [eqv_door]⟩
    · rw [decide_eq_false h]
      refine List.any_eq_false.mpr fun g hg => ?_
      simp only [Function.comp_apply, eqv_door, decide_eq_true_eq]
      exact fun e => h (e ▸ hg)
  constructor
  · show (if inOk (eDoor p) (ds.map eDoor) = true then some (Sl.fz (.bool ((ds.map eDoor).any fun y => PyData.eqv y (eDoor p)))) else none) = _
    rw [if_pos hin, hany]
  · show (if inOk (eDoor p) (ds.map eDoor) = true then some (Sl.fz (.bool (!(ds.map eDoor).any fun y => PyData.eqv y (eDoor p)))) else none) = _
    rw [if_pos hin, hany]
theorem e_near (h : Hs) (x z : Str) : f_are_near [h.enc, .str x, .str z] = .ok (.fz (.bool (nearB h x z))) := by
  unfold f_are_near m_are_near
  rw [fnP_eq]
  have e1 : opIx [h.enc, .int 1] = some (.fz (.tuple (h.doors.map eDoor))) := rfl
  have e2 : opIn [.tuple [.str (loS x z), .str (hiS x z)], .tuple (h.doors.map eDoor)] = some (.fz (.bool (nearB h x z))) := (in_doors (loS x z, hiS x z) h.doors).1
  unfold loS hiS at e2
  simp [e1, e2]
theorem lt_ss (x z : Str) : PySem.W.dataLt (.str x) (.str z) = ltSS x z := PySem.W.dataLt_str x z
theorem lt_asym {x z : Str} (h : ltSS x z = true) : ltSS z x = false := by
  cases e : ltSS z x with
  | false => rfl
  | true =>
    rw [← lt_ss] at h e
    have := lt_trans3 h e
    have e0 : PySem.W.dataLt (.str x) (.str x) = false := PyProof.Rows.lex_irrefl _
    rw [e0] at this
    cases this
theorem near_either {h : Hs} (kh : HsOk h) (x z : Str) : nearB h x z = (decide ((x, z) ∈ h.doors) || decide ((z, x) ∈ h.doors)) := by
  have no : ∀ p : Str × Str, ltSS p.1 p.2 = false → decide (p ∈ h.doors) = false := fun p hp => decide_eq_false fun hm => by
    have := (kh.door p hm).2.2
    rw [lt_ss, hp] at this
    cases this
  unfold nearB loS hiS
  cases e1 : ltSS x z with
  | true =>
    have e2 := lt_asym e1
    rw [e2]
    simp only [Bool.false_eq_true, if_false, if_true]
    rw [no (z, x) e2, Bool.or_false]
  | false =>
    rw [no (x, z) e1, Bool.false_or]
    cases e2 : ltSS z x with
    | true => simp
    | false =>
      simp only [Bool.false_eq_true, if_false]
      have hxz : x = z := by
        apply Classical.byContradiction
        intro hne
        have := str_tri hne (by rw [lt_ss, e2])
        rw [lt_ss, e1] at this
        cases this
      rw [hxz]
def mx0 (v : Int) : Int := if 0 < v then v else 0
def lossAt (h : Hs) (z : Str) : Int := (h.rooms[at' h.names z]?.map (·.2.2)).getD 0
def cSz (h : Hs) (x z : Str) (sz : List Int) : List Int := (gainedL h x h.gains sz).set (at' h.names z) (mx0 (szAt h (gainedL h x h.gains sz) z - lossAt h z))
def plAt (t : Sn) (b : Nat) : Str := (t.places[b]?).getD ""
def comeP (h : Hs) (bs : List Int) (t : Sn) (b : Nat) (z : Str) : Option Sn :=
  if !nearB h (plAt t b) z || decide (szAt h t.sizes z < (bs[b]?).getD 0) then none else some ⟨t.places.set b z, cSz h (plAt t b) z t.sizes⟩
def encO : Option Sn → Da
  | none => .none
  | some t => t.enc
theorem at_nodup {l : List Str} (nd : l.Nodup) {k : Nat} (hk : k < l.length) : at' l l[k] = k := by
  unfold at'
  exact nd.idxOf_getElem k hk
theorem vals_back {h : Hs} (kh : HsOk h) {sz : List Int} (hl : sz.length = h.rooms.length) : (h.names.map dstr).map (fun d => match d with | .str z => dint (szAt h sz z) | d => d) = sz.map dint := by
  apply List.ext_getElem?
  intro k
  rw [List.map_map, List.getElem?_map, List.getElem?_map]
  by_cases hk : k < h.rooms.length
  · have hk' : k < h.names.length := by rw [names_len]; exact hk
    rw [List.getElem?_eq_getElem hk', List.getElem?_eq_getElem (by rw [hl]; exact hk)]
    show some (dint (szAt h sz h.names[k])) = _
    unfold szAt
    rw [at_nodup kh.nd, List.getElem?_eq_getElem (by rw [hl]; exact hk)]
    rfl
  · rw [List.getElem?_eq_none (by rw [names_len]; omega), List.getElem?_eq_none (by rw [hl]; omega)]
    rfl
theorem e_come {h : Hs} (kh : HsOk h) {bs : List Int} (hb3 : bs.length ≤ 3) {t : Sn} (kt : SnOk h bs.length t) {b : Nat} (hb : b < bs.length) {z : Str} (hz : z ∈ h.names) : f_come [h.enc, eBs bs, t.enc, .int (b : Int), .str z] = .ok (.fz (encO (comeP h bs t b z))) := by
  have h5 := kh.n5
  have hlt : at' h.names z < h.rooms.length := by have := at_lt hz; rw [names_len] at this; exact this
  have hpl : b < t.places.length := by rw [kt.pn]; exact hb
  have x1 : opIx [.tuple (t.places.map dstr), .int (b : Int)] = some (.fz (.str (plAt t b))) := by
    rw [op_ixT, Sh.atI_nat, List.getElem?_map]
    unfold plAt
    rw [List.getElem?_eq_getElem hpl]
    rfl
  have x2 : opIx [.tuple (t.sizes.map dint), .int (at' h.names z : Int)] = some (.fz (.int (szAt h t.sizes z))) := by
    rw [op_ixT, Sh.atI_nat, List.getElem?_map]
    unfold szAt
    rw [List.getElem?_eq_getElem (by rw [kt.sn]; exact hlt)]
    rfl
  have x3 : opIx [eBs bs, .int (b : Int)] = some (.fz (.int ((bs[b]?).getD 0))) := by
    show (atI (bs.map dint) (b : Int)).map Sl.fz = _
    rw [Sh.atI_nat, List.getElem?_map, List.getElem?_eq_getElem hb]
    rfl
  have x4 : opIx [.tuple (h.rooms.map eRoom), .int (at' h.names z : Int)] = some (.fz (eRoom h.rooms[at' h.names z])) := by
    rw [op_ixT, Sh.atI_nat, List.getElem?_map, List.getElem?_eq_getElem hlt]
    rfl
  have x5 : opIx [eRoom h.rooms[at' h.names z], .int 2] = some (.fz (.int (lossAt h z))) := by
    unfold lossAt
    rw [List.getElem?_eq_getElem hlt]
    rfl
  have xi := ixS_map hz
  have en := e_names_of kh
  have er := e_near h (plAt t b) z
  have asg1 : ∀ e : En, asg (.tp [.nm 8, .nm 9]) t.enc e = some ((e.set 8 (.fz (.tuple (t.places.map dstr)))).set 9 (.fz (.tuple (t.sizes.map dint)))) := fun e => by
    unfold Sn.enc
    simp
  unfold f_come m_come
  rw [fnP_eq]
  cases hn : nearB h (plAt t b) z with
  | false =>
    rw [hn] at er
    have hc : comeP h bs t b z = none := by simp [comeP, hn]
    rw [hc]
    simp [asg1, en, x1, er, encO, -op_ixT]
  | true =>
    rw [hn] at er
    by_cases hs : szAt h t.sizes z < (bs[b]?).getD 0
    · have hc : comeP h bs t b z = none := by simp [comeP, hn, hs]
      rw [hc]
      generalize (bs[b]?).getD 0 = bb at x3 hs
      simp [asg1, en, x1, er, xi, x2, x3, hs, encO, -op_ixT]
    · have hc : comeP h bs t b z = some ⟨t.places.set b z, cSz h (plAt t b) z t.sizes⟩ := by simp [comeP, hn, hs]
      rw [hc]
      have eg := e_gained kh (plAt t b) t.sizes kt.sn
      generalize hG : gainedL h (plAt t b) h.gains t.sizes = G at eg
      have hGl : G.length = h.rooms.length := by rw [← hG, gainedL_len, kt.sn]
      have l1 : lookD (zipKD h.names (G.map dint)) z = some (.int (szAt h G z)) := by
        rw [look_zip hz (by rw [List.length_map, names_len, hGl]), List.getElem?_map]
        unfold szAt
        rw [List.getElem?_eq_getElem (by rw [hGl]; exact hlt)]
        rfl
      have l2 : ∀ v : Int, putD (zipKD h.names (G.map dint)) z (.int v) = zipKD h.names ((G.set (at' h.names z) v).map dint) := fun v => by
        rw [put_zip _ kh.nd hz (by rw [List.length_map, names_len, hGl]), List.map_set]
        rfl
      have l3 : (zipKD h.names (G.map dint)).length < 1000000 := by rw [zipKD_len _ _ (by rw [List.length_map, names_len, hGl]), names_len]; omega
      have s1 : opSlHi [.tuple (t.places.map dstr), .int (b : Int)] = some (.fz (.tuple ((t.places.map dstr).take b))) := by
        show some (Sl.fz (.tuple (cutD _ none (some (b : Int))))) = _
        rw [Sh.cutD_hi]
      have s2 : opSlLo [.tuple (t.places.map dstr), .int ((b : Int) + 1)] = some (.fz (.tuple ((t.places.map dstr).drop (b + 1)))) := by
        show some (Sl.fz (.tuple (cutD _ (some ((b : Int) + 1)) none))) = _
        rw [show ((b : Int) + 1) = ((b + 1 : Nat) : Int) by omega, Sh.cutD_lo]
      have s3 : opAdd [.tuple ((t.places.map dstr).take b), .tuple [.str z]] = some (.fz (.tuple ((t.places.map dstr).take b ++ [.str z]))) := add_TT (by have := kt.pn; simp; omega)
      have s4 : opAdd [.tuple ((t.places.map dstr).take b ++ [.str z]), .tuple ((t.places.map dstr).drop (b + 1))] = some (.fz (.tuple ((t.places.set b z).map dstr))) := by
        rw [add_TT (by have := kt.pn; simp; omega), List.map_set]
        rw [List.set_eq_take_append_cons_drop, if_pos (by simpa using hpl), List.append_assoc]
        rfl
      generalize hC : cSz h (plAt t b) z t.sizes = C
      have hC' : C = G.set (at' h.names z) (mx0 (szAt h G z - lossAt h z)) := by rw [← hC, cSz, hG]
      have hCl : C.length = h.rooms.length := by rw [hC', List.length_set, hGl]
      have l4 : putD (zipKD h.names (G.map dint)) z (.int (if lossAt h z < szAt h G z then szAt h G z - lossAt h z else 0)) = zipKD h.names (C.map dint) := by
        rw [l2, hC']
        simp only [mx0, Int.sub_pos]
      have hlc : ∀ s7 : Sl, mLc ⟨[.sl 5], itSeq⟩ (.nm 10) (mYes) (mPure opIxD [.sl 6, .sl 10]) [10] [.fz h.enc, .fz (eBs bs), .fz t.enc, .fz (.int (b : Int)), .fz (.str z), .fz (.list (h.names.map dstr)), .ow (.dict (zipKD h.names (C.map dint))), s7, .fz (.tuple (t.places.map dstr)), .fz (.tuple (t.sizes.map dint)), .no] = .ok (.ow (.list (C.map dint)), [.fz h.enc, .fz (eBs bs), .fz t.enc, .fz (.int (b : Int)), .fz (.str z), .fz (.list (h.names.map dstr)), .ow (.dict (zipKD h.names (C.map dint))), s7, .fz (.tuple (t.places.map dstr)), .fz (.tuple (t.sizes.map dint)), .no]) := fun s7 => by
        rw [← vals_back kh hCl]
        refine Sh.lc_mapS (os := [.at 5]) (ds := [.list (h.names.map dstr)]) _ rfl rfl rfl rfl rfl rfl rfl (by rw [List.length_map, names_len]; omega) fun d hd => ?_
        obtain ⟨y, hy, rfl⟩ := List.mem_map.mp hd
        have hly : lookD (zipKD h.names (C.map dint)) y = some (dint (szAt h C y)) := by
          rw [look_zip hy (by rw [List.length_map, names_len, hCl]), List.getElem?_map]
          unfold szAt
          have := at_lt hy
          rw [List.getElem?_eq_getElem (by rw [hCl, ← names_len]; exact this)]
          rfl
        refine ⟨_, .fz (dint (szAt h C y)), rfl, ?_, rfl, rfl⟩
        rw [vals_back kh hCl]
        simp [dstr, hly]
      generalize (h.names.map dstr) = N at en xi hlc
      generalize (bs[b]?).getD 0 = bb at x3 hs
      simp [asg1, en, x1, er, xi, x2, x3, hs, eg, x4, x5, l1, l3, l4, s1, s2, s3, s4, hlc, opTuple, encO, -op_ixT]
      simp [Sn.enc]
end Mi
set_option Elab.async false
set_option linter.all false
set_option maxRecDepth 100000
set_option autoImplicit false
/-! the law's own coming: plain -/
namespace Mi
open PySem PySem.Spec PyProof.Rows L2 Sh

def moreL (gs : List (Str × Str × Int)) (x y : Str) : Int := ((gs.filter fun g => decide (gKey g = (x, y))).map (·.2.2)).sum
theorem more_cons (g : Str × Str × Int) (gs : List (Str × Str × Int)) (x y : Str) : moreL (g :: gs) x y = (if gKey g = (x, y) then g.2.2 else 0) + moreL gs x y := by
  unfold moreL
  by_cases h : gKey g = (x, y)
  · rw [List.filter_cons_of_pos (by simpa using h), if_pos h]; simp
  · rw [List.filter_cons_of_neg (by simpa using h), if_neg h]; simp
theorem more_zero : ∀ {gs : List (Str × Str × Int)} {x y : Str}, (x, y) ∉ gs.map gKey → moreL gs x y = 0
  | [], _, _, _ => rfl
  | g :: gs, x, y, h => by
    simp only [List.map_cons, List.mem_cons, not_or] at h
    rw [more_cons, if_neg (fun e => h.1 e.symm), more_zero h.2]
    rfl
theorem mn_le (c s : Int) : mn c s ≤ c := by unfold mn; split <;> omega
theorem mn_id {c s : Int} (h : s ≤ c) : mn c s = s := by unfold mn; split <;> omega
theorem at_inj {l : List Str} {y z : Str} (hy : y ∈ l) (hz : z ∈ l) (e : at' l y = at' l z) : y = z := by
  have h1 := at_get hy
  have h2 := at_get hz
  rw [e, h2] at h1
  exact (Option.some.inj h1).symm
/-- what is gained at a name -/
theorem gained_at {h : Hs} (kh : HsOk h) (x y : Str) (hy : y ∈ h.names) : ∀ (gs : List (Str × Str × Int)) (sz : List Int), (gs.map gKey).Nodup → (∀ g ∈ gs, g.2.1 ∈ h.names) → sz.length = h.rooms.length → szAt h sz y ≤ capAt h y → szAt h (gainedL h x gs sz) y = mn (capAt h y) (szAt h sz y + moreL gs x y)
  | [], sz, _, _, _, hc => by
    show szAt h sz y = mn (capAt h y) (szAt h sz y + 0)
    rw [Int.add_zero, mn_id hc]
  | g :: gs, sz, nd, hg, hl, hc => by
    obtain ⟨nd1, nd2⟩ := List.nodup_cons.mp nd
    have hg0 := hg g (by simp)
    have hlt : at' h.names y < sz.length := by rw [hl, ← names_len]; exact at_lt hy
    show szAt h (gainedL h x gs (gStep h x sz g)) y = _
    have hl' : (gStep h x sz g).length = h.rooms.length := by rw [gStep_len, hl]
    by_cases hk : gKey g = (x, y)
    · have e1 : g.1 = x := congrArg Prod.fst hk
      have e2 : g.2.1 = y := congrArg Prod.snd hk
      have hs : szAt h (gStep h x sz g) y = mn (capAt h y) (szAt h sz y + g.2.2) := by
        unfold gStep
        rw [if_pos e1, e2]
        unfold szAt
        rw [List.getElem?_set_self hlt]
        rfl
      have hz : moreL gs x y = 0 := more_zero (by rw [← hk]; exact nd1)
      rw [gained_at kh x y hy gs _ nd2 (fun q hq => hg q (by simp [hq])) hl' (by rw [hs]; exact mn_le _ _), hs, hz, Int.add_zero, mn_id (mn_le _ _), more_cons, if_pos hk, hz, Int.add_zero]
    · have hs : szAt h (gStep h x sz g) y = szAt h sz y := by
        unfold gStep
        split
        · rename_i e1
          have hne : g.2.1 ≠ y := fun e2 => hk (by unfold gKey; rw [e1, e2])
          unfold szAt
          rw [List.getElem?_set_ne (fun e => hne (at_inj hg0 hy e))]
        · rfl
      rw [gained_at kh x y hy gs _ nd2 (fun q hq => hg q (by simp [hq])) hl' (by rw [hs]; exact hc), hs, more_cons, if_neg hk, Int.zero_add]
/-- the law's sizes -/
def lOne (h : Hs) (x : Str) (zi k : Nat) (r : Str × Int × Int) (s : Int) : Int := if k = zi then mx0 (mn r.2.1 (s + moreL h.gains x r.1) - r.2.2) else mn r.2.1 (s + moreL h.gains x r.1)
def lGo (h : Hs) (x : Str) (zi : Nat) : Nat → List (Str × Int × Int) → List Int → List Int
  | k, r :: rs, s :: ss => lOne h x zi k r s :: lGo h x zi (k + 1) rs ss
  | _, _, _ => []
theorem lGo_get (h : Hs) (x : Str) (zi : Nat) : ∀ (k : Nat) (rs : List (Str × Int × Int)) (ss : List Int) (j : Nat) (r : Str × Int × Int) (s : Int), rs[j]? = some r → ss[j]? = some s → (lGo h x zi k rs ss)[j]? = some (lOne h x zi (k + j) r s)
  | _, [], _, _, _, _, h1, _ => by simp at h1
  | _, _ :: _, [], _, _, _, _, h2 => by simp at h2
  | k, r' :: rs, s' :: ss, 0, r, s, h1, h2 => by simp at h1 h2; subst h1 h2; rfl
  | k, r' :: rs, s' :: ss, j + 1, r, s, h1, h2 => by
    have := lGo_get h x zi (k + 1) rs ss j r s (by simpa using h1) (by simpa using h2)
    rw [show k + 1 + j = k + (j + 1) by omega] at this
    simpa [lGo] using this
theorem lGo_len (h : Hs) (x : Str) (zi : Nat) : ∀ (k : Nat) (rs : List (Str × Int × Int)) (ss : List Int), rs.length = ss.length → (lGo h x zi k rs ss).length = rs.length
  | _, [], [], _ => rfl
  | _, [], _ :: _, e => by simp at e
  | _, _ :: _, [], e => by simp at e
  | k, r :: rs, s :: ss, e => by
    show (lGo h x zi (k + 1) rs ss).length + 1 = _
    rw [lGo_len h x zi (k + 1) rs ss (by simpa using e)]
    rfl
theorem cSz_eq {h : Hs} (kh : HsOk h) {nb : Nat} {t : Sn} (kt : SnOk h nb t) (x z : Str) (hz : z ∈ h.names) : cSz h x z t.sizes = lGo h x (at' h.names z) 0 h.rooms t.sizes := by
  apply List.ext_getElem?
  intro j
  have hGl : (gainedL h x h.gains t.sizes).length = h.rooms.length := by rw [gainedL_len, kt.sn]
  by_cases hj : j < h.rooms.length
  · have hjn : j < h.names.length := by rw [names_len]; exact hj
    have hjs : j < t.sizes.length := by rw [kt.sn]; exact hj
    have hjc : j < h.caps.length := by rw [caps_len']; exact hj
    rw [lGo_get h x _ 0 h.rooms t.sizes j h.rooms[j] t.sizes[j] (List.getElem?_eq_getElem hj) (List.getElem?_eq_getElem hjs), Nat.zero_add]
    have hy : h.names[j] ∈ h.names := List.getElem_mem hjn
    have hat : at' h.names h.names[j] = j := at_nodup kh.nd hjn
    have hn : h.names[j] = h.rooms[j].1 := by simp [Hs.names]
    have hcap : capAt h h.names[j] = h.rooms[j].2.1 := by
      unfold capAt
      rw [hat, List.getElem?_eq_getElem hjc]
      simp [Hs.caps]
    have hsz : szAt h t.sizes h.names[j] = t.sizes[j] := by
      unfold szAt
      rw [hat, List.getElem?_eq_getElem hjs]
      rfl
    have hle : szAt h t.sizes h.names[j] ≤ capAt h h.names[j] := by
      rw [hsz, hcap]
      have hc : h.caps[j]? = some h.rooms[j].2.1 := by rw [List.getElem?_eq_getElem hjc]; simp [Hs.caps]
      exact (kt.sz j _ _ (List.getElem?_eq_getElem hjs) hc).2
    have hga := gained_at kh x h.names[j] hy h.gains t.sizes kh.gnd (fun g hg => (kh.gain g hg).2.1) kt.sn hle
    rw [hcap, hsz, hn] at hga
    have hgj : (gainedL h x h.gains t.sizes)[j]? = some (mn h.rooms[j].2.1 (t.sizes[j] + moreL h.gains x h.rooms[j].1)) := by
      rw [← hga]
      unfold szAt
      rw [← hn, hat, List.getElem?_eq_getElem (by rw [hGl]; exact hj)]
      rfl
    unfold cSz lOne
    by_cases e : j = at' h.names z
    · subst e
      rw [List.getElem?_set_self (by rw [hGl]; exact hj), if_pos rfl]
      congr 2
      unfold szAt lossAt
      rw [hgj, List.getElem?_eq_getElem hj]
      rfl
    · rw [List.getElem?_set_ne (fun q => e q.symm), hgj, if_neg e]
  · rw [List.getElem?_eq_none (by unfold cSz; rw [List.length_set, hGl]; omega), List.getElem?_eq_none (by rw [lGo_len _ _ _ _ _ _ (by rw [kt.sn])]; omega)]
end Mi
set_option Elab.async false
set_option linter.all false
set_option maxRecDepth 100000
set_option autoImplicit false
/-! the law's own coming -/
namespace Mi
open PySem PySem.Spec PyProof.Rows L2 Sh

theorem op_eq_door (p q : Str × Str) : opEq [eDoor p, eDoor q] = some (.fz (.bool (decide (p = q)))) := by
  have : okc (eDoor p) (eDoor q) = true := by
    have h1 : (eDoor p).depth = 1 := rfl
    unfold okc
    simp [plain_door, h1]
    omega
  rw [opEq, if_pos this, eqv_door]
theorem intsOf_map : ∀ l : List Int, intsOf (l.map dint) = some l
  | [] => rfl
  | z :: l => by
    show (intsOf (l.map dint)).map (z :: ·) = _
    rw [intsOf_map l]
    rfl
def gHit (x y : Str) (d : Da) : Bool := decide (gKey (dGain d) = (x, y))
def gVal (d : Da) : Da := dint (dGain d).2.2
theorem gains_hit (gs : List (Str × Str × Int)) (x y : Str) : ((gs.map eGain).filter (gHit x y)).map gVal = ((gs.filter fun g => decide (gKey g = (x, y))).map (·.2.2)).map dint := by
  rw [List.filter_map, List.map_map, List.map_map]
  rfl
section
variable {h : Hs} (kh : HsOk h)
include kh
def lE (h : Hs) (B T : Da) (b : Int) (z : Str) (zi : Nat) (acc : List Int) (x : Str) (s7 s10 s11 s12 s13 : Sl) : En := [.fz h.enc, .fz B, .fz T, .fz (.int b), .fz (.str z), .fz (.int (zi : Int)), .ow (.list (acc.map dint)), s7, .fz (.tuple (h.rooms.map eRoom)), .fz (.str x), s10, s11, s12, s13, .no, .no]
noncomputable def lB : MS := mSeq (mSet 12 (mPure opSum [.ex (mLc ⟨[.ex (mPure opIx [.sl 0, .ex (mK (.int 2))])], itSeq⟩ (.nm 14) (mTE (mPure opEq [.ex (mPure opSlHi [.sl 14, .ex (mK (.int 2))]), .ex (mPure opTup (exs [mVar 9, mPure opIx [.sl 11, .ex (mK (.int 0))]]))])) (mPure opIx [.sl 14, .ex (mK (.int 2))]) [14])]))
    (mSeq (mSet 13 (mPure opMin2 [.ex (mPure opIx [.sl 11, .ex (mK (.int 1))]), .ex (mPure opAdd [.ex (mPure opIx [.ex (mPure opIx [.sl 2, .ex (mK (.int 1))]), .sl 10]), .sl 12])]))
    (mAppend 6 (mIf (mTE (mPure opEq [.sl 10, .sl 5])) (mPure opMax2 [.ex (mK (.int 0)), .ex (mPure opSub [.sl 13, .ex (mPure opIx [.sl 11, .ex (mK (.int 2))])])]) (mVar 13))))
theorem lB_ok (B : Da) (t : Sn) (b : Int) (z : Str) (zi : Nat) (acc : List Int) (x : Str) (s7 s12 s13 : Sl) (k : Nat) (r : Str × Int × Int) (s : Int) (hs : t.sizes[k]? = some s) (ha : acc.length < 1000) :
    ∃ s12' s13', lB (lE h B t.enc b z zi acc x s7 (.fz (.int (k : Int))) (.fz (eRoom r)) s12 s13) = .ok (.nx, lE h B t.enc b z zi (acc ++ [lOne h x zi k r s]) x s7 (.fz (.int (k : Int))) (.fz (eRoom r)) s12' s13') := by
  have g10 := kh.g10
  have r0 : opIx [eRoom r, .int 0] = some (.fz (.str r.1)) := rfl
  have r1 : opIx [eRoom r, .int 1] = some (.fz (.int r.2.1)) := rfl
  have r2 : opIx [eRoom r, .int 2] = some (.fz (.int r.2.2)) := rfl
  have t1 : opIx [t.enc, .int 1] = some (.fz (.tuple (t.sizes.map dint))) := rfl
  have t2 : opIx [.tuple (t.sizes.map dint), .int (k : Int)] = some (.fz (.int s)) := by
    rw [op_ixT, Sh.atI_nat, List.getElem?_map, hs]
    rfl
  have hlc : mLc ⟨[.ex (mPure opIx [.sl 0, .ex (mK (.int 2))])], itSeq⟩ (.nm 14) (mTE (mPure opEq [.ex (mPure opSlHi [.sl 14, .ex (mK (.int 2))]), .ex (mPure opTup (exs [mVar 9, mPure opIx [.sl 11, .ex (mK (.int 0))]]))])) (mPure opIx [.sl 14, .ex (mK (.int 2))]) [14] (lE h B t.enc b z zi acc x s7 (.fz (.int (k : Int))) (.fz (eRoom r)) s12 s13) = .ok (.ow (.list (((h.gains.filter fun g => decide (gKey g = (x, r.1))).map (·.2.2)).map dint)), lE h B t.enc b z zi acc x s7 (.fz (.int (k : Int))) (.fz (eRoom r)) s12 s13) := by
    rw [← gains_hit]
    refine Sh.lc_filS (os := [.va (.tuple (h.gains.map eGain))]) (ds := [.tuple (h.gains.map eGain)]) (gHit x r.1) gVal ?_ rfl rfl rfl rfl rfl rfl (by rw [List.length_map]; omega) fun d hd => ?_
    · simp [lE]
    · obtain ⟨g, _, rfl⟩ := List.mem_map.mp hd
      have q1 : opSlHi [eGain g, .int 2] = some (.fz (eDoor (gKey g))) := rfl
      have q2 : opIx [eGain g, .int 2] = some (.fz (gVal (eGain g))) := rfl
      have q3 : opEq [eDoor (gKey g), .tuple [.str x, .str r.1]] = some (.fz (.bool (gHit x r.1 (eGain g)))) := op_eq_door (gKey g) (x, r.1)
      refine ⟨_, .fz (gVal (eGain g)), rfl, ?_, ?_, rfl, rfl⟩
      · simp [lE, q1, r0, q3]
      · simp [lE, q2]
  have hsum : opSum [.list (((h.gains.filter fun g => decide (gKey g = (x, r.1))).map (·.2.2)).map dint)] = some (.fz (.int (moreL h.gains x r.1))) := by
    show (intsOf _).map _ = _
    rw [intsOf_map]
    rfl
  refine ⟨.fz (.int (moreL h.gains x r.1)), .fz (.int (mn r.2.1 (s + moreL h.gains x r.1))), ?_⟩
  have s1 : mSet 12 (mPure opSum [.ex (mLc ⟨[.ex (mPure opIx [.sl 0, .ex (mK (.int 2))])], itSeq⟩ (.nm 14) (mTE (mPure opEq [.ex (mPure opSlHi [.sl 14, .ex (mK (.int 2))]), .ex (mPure opTup (exs [mVar 9, mPure opIx [.sl 11, .ex (mK (.int 0))]]))])) (mPure opIx [.sl 14, .ex (mK (.int 2))]) [14])]) (lE h B t.enc b z zi acc x s7 (.fz (.int (k : Int))) (.fz (eRoom r)) s12 s13) = .ok (.nx, lE h B t.enc b z zi acc x s7 (.fz (.int (k : Int))) (.fz (eRoom r)) (.fz (.int (moreL h.gains x r.1))) s13) := by
    rw [ev_mset, ev_pure, ev_oex, hlc]
    simp only [ev_bok, ev_dow, ev_o0, ev_rva, ev_r0, Option.bind_some, hsum]
    rfl
  have hone : lOne h x zi k r s = if k = zi then mx0 (mn r.2.1 (s + moreL h.gains x r.1) - r.2.2) else mn r.2.1 (s + moreL h.gains x r.1) := rfl
  have hm : ∀ v : Int, (acc ++ [v]).map dint = acc.map dint ++ [.int v] := fun v => by rw [List.map_append]; rfl
  have hl : (acc.map dint).length < 1000000 := by rw [List.length_map]; omega
  unfold lB
  rw [ev_seq, s1, ev_bok, hone]
  generalize moreL h.gains x r.1 = M
  have m1 : opMin2 [.int r.2.1, .int (s + M)] = some (.fz (.int (mn r.2.1 (s + M)))) := rfl
  generalize mn r.2.1 (s + M) = W at m1
  have m2 : opMax2 [.int 0, .int (W - r.2.2)] = some (.fz (.int (mx0 (W - r.2.2)))) := rfl
  generalize mx0 (W - r.2.2) = W2 at m2
  unfold lE
  rw [hm]
  generalize acc.map dint = A at hl
  by_cases hk : k = zi
  · subst hk
    simp [r1, t1, t2, r2, hl, m1, m2, -op_ixT, -op_min_ii, -op_max_ii]
  · have hk' : ¬ ((k : Int) = (zi : Int)) := by omega
    simp [r1, t1, t2, r2, hl, m1, m2, hk, hk', -op_ixT, -op_min_ii, -op_max_ii]
end
end Mi
set_option Elab.async false
set_option linter.all false
set_option maxRecDepth 100000
set_option autoImplicit false
/-! the law's own coming, whole -/
namespace Mi
open PySem PySem.Spec PyProof.Rows L2 Sh

def notOw (s : Sl) : Prop := ∀ d, s ≠ .ow d
def putP (b : Nat) (z : Str) : Da → Da
  | .tuple [.int k, d] => if k = (b : Int) then .str z else d
  | d => d
theorem places_set (z : Str) (b : Nat) : ∀ (ps : List Str) (k : Nat), (enumD k (ps.map dstr)).map (putP b z) = (if k ≤ b then ps.set (b - k) z else ps).map dstr
  | [], k => by simp [enumD]
  | p :: ps, k => by
    have ih := places_set z b ps (k + 1)
    rw [List.map_cons, enumD, List.map_cons, ih]
    by_cases h1 : k = b
    · subst h1
      rw [if_neg (by omega), if_pos (Nat.le_refl _), Nat.sub_self]
      simp [putP, dstr]
    · have h2 : ¬ ((k : Int) = (b : Int)) := by omega
      have e0 : putP b z (.tuple [.int (k : Int), dstr p]) = dstr p := by simp [putP, h2]
      rw [e0]
      by_cases h3 : k ≤ b
      · rw [if_pos h3, if_pos (by omega)]
        obtain ⟨m, hm⟩ : ∃ m, b - k = m + 1 := ⟨b - k - 1, by omega⟩
        rw [hm, show b - (k + 1) = m by omega]
        rfl
      · rw [if_neg h3, if_neg (by omega)]
        rfl
section
variable {h : Hs} (kh : HsOk h)
include kh
theorem l_loop (D B : Da) (t : Sn) (b : Int) (z : Str) (zi : Nat) (x : Str) (s7 : Sl) : ∀ (rs : List (Str × Int × Int)) (ss : List Int) (k : Nat) (acc : List Int) (s10 s11 s12 s13 : Sl), rs.length = ss.length → (∀ j, t.sizes[k + j]? = ss[j]?) → acc.length + rs.length ≤ 100 → notOw s10 → notOw s11 →
    ∃ s10' s11' s12' s13', forL [.va D] [D] (.tp [.nm 10, .nm 11]) lB (enumD k (rs.map eRoom)) (lE h B t.enc b z zi acc x s7 s10 s11 s12 s13) = .ok (.nx, lE h B t.enc b z zi (acc ++ lGo h x zi k rs ss) x s7 s10' s11' s12' s13') ∧ notOw s10' ∧ notOw s11'
  | [], ss, k, acc, s10, s11, s12, s13, _, _, _, h10, h11 => ⟨s10, s11, s12, s13, by rw [List.map_nil, enumD, forL, if_pos (res_va _ _)]; simp [lGo], h10, h11⟩
  | r :: rs, [], _, _, _, _, _, _, e, _, _, _, _ => by simp at e
  | r :: rs, s :: ss, k, acc, s10, s11, s12, s13, e, hs, hb, h10, h11 => by
    have hb' : acc.length + (rs.length + 1) ≤ 100 := hb
    obtain ⟨a12, a13, e1⟩ := lB_ok kh B t b z zi acc x s7 s12 s13 k r s (by have := hs 0; simpa using this) (by omega)
    obtain ⟨b10, b11, b12, b13, e2, g1, g2⟩ := l_loop D B t b z zi x s7 rs ss (k + 1) (acc ++ [lOne h x zi k r s]) (.fz (.int (k : Int))) (.fz (eRoom r)) a12 a13 (by simpa using e) (fun j => by have := hs (j + 1); rw [show k + 1 + j = k + (j + 1) by omega]; simpa using this) (by simp; omega) (fun d => by simp) (fun d => by simp)
    refine ⟨b10, b11, b12, b13, ?_, g1, g2⟩
    rw [List.map_cons, enumD, forL, if_pos (res_va _ _)]
    have ha : asg (.tp [.nm 10, .nm 11]) (.tuple [.int (k : Int), eRoom r]) (lE h B t.enc b z zi acc x s7 s10 s11 s12 s13) = some (lE h B t.enc b z zi acc x s7 (.fz (.int (k : Int))) (.fz (eRoom r)) s12 s13) := by simp [lE]
    rw [ha]
    simp only [e1, ev_bok]
    simpa [lGo] using e2
end
end Mi
set_option Elab.async false
set_option linter.all false
set_option maxRecDepth 100000
set_option autoImplicit false
/-! the law's own coming is the program's -/
namespace Mi
open PySem PySem.Spec PyProof.Rows L2 Sh

noncomputable def lc1 : MS := mAsg (.tp [.nm 8, .nm 9]) (mPure opTup (exs [mPure opIx [.sl 0, .ex (mK (.int 0))], mPure opIx [.ex (mPure opIx [.sl 2, .ex (mK (.int 0))]), .sl 3]]))
noncomputable def lc2 : MS := mCond (mAnd (mTE (mPure opNotIn [.ex (mPure opTup (exs [mVar 9, mVar 4])), .ex (mPure opIx [.sl 0, .ex (mK (.int 1))])])) (mTE (mPure opNotIn [.ex (mPure opTup (exs [mVar 4, mVar 9])), .ex (mPure opIx [.sl 0, .ex (mK (.int 1))])]))) (mRet (mK (.none))) (mSkip)
noncomputable def lc3 : MS := mSet 5 (mIndex (mLc ⟨[.sl 8], itSeq⟩ (.nm 11) (mYes) (mPure opIx [.sl 11, .ex (mK (.int 0))]) [11]) (mVar 4))
noncomputable def lc4 : MS := mCond (mTE (mPure opLt [.ex (mPure opIx [.ex (mPure opIx [.sl 2, .ex (mK (.int 1))]), .sl 5]), .ex (mPure opIx [.sl 1, .sl 3])])) (mRet (mK (.none))) (mSkip)
noncomputable def lc5 : MS := mSet 6 (mPure opLst (exs []))
noncomputable def lcb1 : MS := mSeq (mSet 12 (mPure opSum [.ex (mLc ⟨[.ex (mPure opIx [.sl 0, .ex (mK (.int 2))])], itSeq⟩ (.nm 14) (mTE (mPure opEq [.ex (mPure opSlHi [.sl 14, .ex (mK (.int 2))]), .ex (mPure opTup (exs [mVar 9, mPure opIx [.sl 11, .ex (mK (.int 0))]]))])) (mPure opIx [.sl 14, .ex (mK (.int 2))]) [14])])) (mSeq (mSet 13 (mPure opMin2 [.ex (mPure opIx [.sl 11, .ex (mK (.int 1))]), .ex (mPure opAdd [.ex (mPure opIx [.ex (mPure opIx [.sl 2, .ex (mK (.int 1))]), .sl 10]), .sl 12])])) (mAppend 6 (mIf (mTE (mPure opEq [.sl 10, .sl 5])) (mPure opMax2 [.ex (mK (.int 0)), .ex (mPure opSub [.sl 13, .ex (mPure opIx [.sl 11, .ex (mK (.int 2))])])]) (mVar 13))))
noncomputable def lc6 : MS := mFor ⟨[.ex (mVar 8)], itEnum⟩ (.tp [.nm 10, .nm 11]) lcb1
noncomputable def lc7 : MS := mSet 7 (mPure opTuple [.ex (mLc ⟨[.ex (mPure opIx [.sl 2, .ex (mK (.int 0))])], itEnum⟩ (.tp [.nm 10, .nm 15]) (mYes) (mIf (mTE (mPure opEq [.sl 10, .sl 3])) (mVar 4) (mVar 15)) [10, 15])])
noncomputable def lc8 : MS := mRet (mPure opTup (exs [mVar 7, mPure opTuple [.sl 6]]))
theorem lc_split : m_law_come = mSeq lc1 (mSeq lc2 (mSeq lc3 (mSeq lc4 (mSeq lc5 (mSeq lc6 (mSeq lc7 (lc8))))))) := rfl
theorem e_law_come {h : Hs} (kh : HsOk h) {bs : List Int} (hb3 : bs.length ≤ 3) {t : Sn} (kt : SnOk h bs.length t) {b : Nat} (hb : b < bs.length) {z : Str} (hz : z ∈ h.names) : f_law_come [h.enc, eBs bs, t.enc, .int (b : Int), .str z] = .ok (.fz (encO (comeP h bs t b z))) := by
  have h5 := kh.n5
  have hlt : at' h.names z < h.rooms.length := by have := at_lt hz; rw [names_len] at this; exact this
  have hpl : b < t.places.length := by rw [kt.pn]; exact hb
  have t0 : opIx [t.enc, .int 0] = some (.fz (.tuple (t.places.map dstr))) := rfl
  have t1 : opIx [t.enc, .int 1] = some (.fz (.tuple (t.sizes.map dint))) := rfl
  have hh0 : opIx [h.enc, .int 0] = some (.fz (.tuple (h.rooms.map eRoom))) := rfl
  have hh1 : opIx [h.enc, .int 1] = some (.fz (.tuple (h.doors.map eDoor))) := rfl
  have x1 : opIx [.tuple (t.places.map dstr), .int (b : Int)] = some (.fz (.str (plAt t b))) := by
    rw [op_ixT, Sh.atI_nat, List.getElem?_map]
    unfold plAt
    rw [List.getElem?_eq_getElem hpl]
    rfl
  have x2 : opIx [.tuple (t.sizes.map dint), .int (at' h.names z : Int)] = some (.fz (.int (szAt h t.sizes z))) := by
    rw [op_ixT, Sh.atI_nat, List.getElem?_map]
    unfold szAt
    rw [List.getElem?_eq_getElem (by rw [kt.sn]; exact hlt)]
    rfl
  have x3 : opIx [eBs bs, .int (b : Int)] = some (.fz (.int ((bs[b]?).getD 0))) := by
    show (atI (bs.map dint) (b : Int)).map Sl.fz = _
    rw [Sh.atI_nat, List.getElem?_map, List.getElem?_eq_getElem hb]
    rfl
  have d1 : opNotIn [.tuple [.str (plAt t b), .str z], .tuple (h.doors.map eDoor)] = some (.fz (.bool (!decide ((plAt t b, z) ∈ h.doors)))) := (in_doors (plAt t b, z) h.doors).2
  have d2 : opNotIn [.tuple [.str z, .str (plAt t b)], .tuple (h.doors.map eDoor)] = some (.fz (.bool (!decide ((z, plAt t b) ∈ h.doors)))) := (in_doors (z, plAt t b) h.doors).2
  have hnear := near_either kh (plAt t b) z
  have xi := ixS_map hz
  unfold f_law_come
  rw [lc_split, fnP_eq]
  have f1 : lc1 (([h.enc, eBs bs, t.enc, .int (b : Int), .str z] : List Da).map .fz ++ List.replicate 11 .no) = .ok (.nx, [.fz h.enc, .fz (eBs bs), .fz t.enc, .fz (.int (b : Int)), .fz (.str z), .no, .no, .no, .fz (.tuple (h.rooms.map eRoom)), .fz (.str (plAt t b)), .no, .no, .no, .no, .no, .no]) := by
    unfold lc1
    simp [hh0, t0, x1, List.replicate, -op_ixT]
  rw [ev_seq, f1, ev_bok]
  have f2 : lc2 [.fz h.enc, .fz (eBs bs), .fz t.enc, .fz (.int (b : Int)), .fz (.str z), .no, .no, .no, .fz (.tuple (h.rooms.map eRoom)), .fz (.str (plAt t b)), .no, .no, .no, .no, .no, .no] = .ok (if nearB h (plAt t b) z = true then .nx else .rt (.fz .none), [.fz h.enc, .fz (eBs bs), .fz t.enc, .fz (.int (b : Int)), .fz (.str z), .no, .no, .no, .fz (.tuple (h.rooms.map eRoom)), .fz (.str (plAt t b)), .no, .no, .no, .no, .no, .no]) := by
    unfold lc2
    rw [hnear]
    by_cases q1 : (plAt t b, z) ∈ h.doors <;> by_cases q2 : (z, plAt t b) ∈ h.doors <;> simp [hh1, d1, d2, q1, q2]
  cases hn : nearB h (plAt t b) z with
  | false =>
    rw [hn] at f2
    have hc : comeP h bs t b z = none := by simp [comeP, hn]
    rw [hc]
    simp [ev_seq, f2, encO]
  | true =>
    rw [hn] at f2
    simp only [if_true] at f2
    have hl1 : mLc ⟨[.sl 8], itSeq⟩ (.nm 11) (mYes) (mPure opIx [.sl 11, .ex (mK (.int 0))]) [11] [.fz h.enc, .fz (eBs bs), .fz t.enc, .fz (.int (b : Int)), .fz (.str z), .no, .no, .no, .fz (.tuple (h.rooms.map eRoom)), .fz (.str (plAt t b)), .no, .no, .no, .no, .no, .no] = .ok (.ow (.list (h.names.map dstr)), [.fz h.enc, .fz (eBs bs), .fz t.enc, .fz (.int (b : Int)), .fz (.str z), .no, .no, .no, .fz (.tuple (h.rooms.map eRoom)), .fz (.str (plAt t b)), .no, .no, .no, .no, .no, .no]) := by
      rw [← map_fst]
      refine Sh.lc_mapS (os := [.at 8]) (ds := [.tuple (h.rooms.map eRoom)]) fstD rfl rfl rfl rfl rfl rfl rfl (by rw [List.length_map]; omega) fun d hd => ?_
      obtain ⟨r, _, rfl⟩ := List.mem_map.mp hd
      have hx : opIx [eRoom r, .int 0] = some (.fz (fstD (eRoom r))) := rfl
      exact ⟨_, .fz (fstD (eRoom r)), rfl, by simp [hx], rfl, rfl⟩
    have f3 : lc3 [.fz h.enc, .fz (eBs bs), .fz t.enc, .fz (.int (b : Int)), .fz (.str z), .no, .no, .no, .fz (.tuple (h.rooms.map eRoom)), .fz (.str (plAt t b)), .no, .no, .no, .no, .no, .no] = .ok (.nx, [.fz h.enc, .fz (eBs bs), .fz t.enc, .fz (.int (b : Int)), .fz (.str z), .fz (.int (at' h.names z : Int)), .no, .no, .fz (.tuple (h.rooms.map eRoom)), .fz (.str (plAt t b)), .no, .no, .no, .no, .no, .no]) := by
      unfold lc3
      generalize h.names.map dstr = N at hl1 xi
      simp [hl1, xi]
    by_cases hs : szAt h t.sizes z < (bs[b]?).getD 0
    · have hc : comeP h bs t b z = none := by simp [comeP, hn, hs]
      rw [hc]
      have f4 : lc4 [.fz h.enc, .fz (eBs bs), .fz t.enc, .fz (.int (b : Int)), .fz (.str z), .fz (.int (at' h.names z : Int)), .no, .no, .fz (.tuple (h.rooms.map eRoom)), .fz (.str (plAt t b)), .no, .no, .no, .no, .no, .no] = .ok (.rt (.fz .none), [.fz h.enc, .fz (eBs bs), .fz t.enc, .fz (.int (b : Int)), .fz (.str z), .fz (.int (at' h.names z : Int)), .no, .no, .fz (.tuple (h.rooms.map eRoom)), .fz (.str (plAt t b)), .no, .no, .no, .no, .no, .no]) := by
        unfold lc4
        generalize (bs[b]?).getD 0 = bb at x3 hs
        simp [t1, x2, x3, hs, -op_ixT]
      simp only [ev_seq, f2, ev_bok, f3, f4]
      rfl
    · have hc : comeP h bs t b z = some ⟨t.places.set b z, cSz h (plAt t b) z t.sizes⟩ := by simp [comeP, hn, hs]
      rw [hc]
      have f4 : lc4 [.fz h.enc, .fz (eBs bs), .fz t.enc, .fz (.int (b : Int)), .fz (.str z), .fz (.int (at' h.names z : Int)), .no, .no, .fz (.tuple (h.rooms.map eRoom)), .fz (.str (plAt t b)), .no, .no, .no, .no, .no, .no] = .ok (.nx, [.fz h.enc, .fz (eBs bs), .fz t.enc, .fz (.int (b : Int)), .fz (.str z), .fz (.int (at' h.names z : Int)), .no, .no, .fz (.tuple (h.rooms.map eRoom)), .fz (.str (plAt t b)), .no, .no, .no, .no, .no, .no]) := by
        unfold lc4
        generalize (bs[b]?).getD 0 = bb at x3 hs
        simp [t1, x2, x3, hs, -op_ixT]
      have f5 : lc5 [.fz h.enc, .fz (eBs bs), .fz t.enc, .fz (.int (b : Int)), .fz (.str z), .fz (.int (at' h.names z : Int)), .no, .no, .fz (.tuple (h.rooms.map eRoom)), .fz (.str (plAt t b)), .no, .no, .no, .no, .no, .no] = .ok (.nx, lE h (eBs bs) t.enc (b : Int) z (at' h.names z) [] (plAt t b) .no .no .no .no .no) := by
        unfold lc5
        simp [lE]
      obtain ⟨s10, s11, s12, s13, e6, h10, h11⟩ := l_loop kh (.tuple (h.rooms.map eRoom)) (eBs bs) t (b : Int) z (at' h.names z) (plAt t b) .no h.rooms t.sizes 0 [] .no .no .no .no kt.sn.symm (fun j => by rw [Nat.zero_add]) (by simp; omega) (fun d => by simp) (fun d => by simp)
      rw [List.nil_append, ← cSz_eq kh kt (plAt t b) z hz] at e6
      generalize cSz h (plAt t b) z t.sizes = C at e6
      have f6 : lc6 (lE h (eBs bs) t.enc (b : Int) z (at' h.names z) [] (plAt t b) .no .no .no .no .no) = .ok (.nx, lE h (eBs bs) t.enc (b : Int) z (at' h.names z) C (plAt t b) .no s10 s11 s12 s13) := by
        unfold lc6
        rw [ev_for]
        simp only [lE, ev_oex, ev_var, ev_sgetS, ev_sget0, ev_bok, ev_dfz, ev_o0, ev_rva, ev_r0, Option.bind_some]
        exact e6
      have hl2 : mLc ⟨[.ex (mPure opIx [.sl 2, .ex (mK (.int 0))])], itEnum⟩ (.tp [.nm 10, .nm 15]) (mYes) (mIf (mTE (mPure opEq [.sl 10, .sl 3])) (mVar 4) (mVar 15)) [10, 15] (lE h (eBs bs) t.enc (b : Int) z (at' h.names z) C (plAt t b) .no s10 s11 s12 s13) = .ok (.ow (.list ((t.places.set b z).map dstr)), lE h (eBs bs) t.enc (b : Int) z (at' h.names z) C (plAt t b) .no s10 s11 s12 s13) := by
        have hps := places_set z b t.places 0
        rw [if_pos (Nat.zero_le _), Nat.sub_zero] at hps
        rw [← hps]
        have hfz : frzE (lE h (eBs bs) t.enc (b : Int) z (at' h.names z) C (plAt t b) .no s10 s11 s12 s13) [10, 15] = lE h (eBs bs) t.enc (b : Int) z (at' h.names z) C (plAt t b) .no s10 s11 s12 s13 := by
          cases s10 with
          | ow d => exact absurd rfl (h10 d)
          | _ => rfl
        refine Sh.lc_mapS (os := [.va (.tuple (t.places.map dstr))]) (ds := [.tuple (t.places.map dstr)]) (items := enumD 0 (t.places.map dstr)) (putP b z) ?_ rfl rfl rfl hfz rfl rfl (by rw [enumD_len, List.length_map]; have := kt.pn; omega) fun d hd => ?_
        · simp [lE, t0]
        · obtain ⟨i, hi⟩ := List.mem_iff_getElem?.mp hd
          obtain ⟨x', hx', rfl⟩ := enumD_get hi
          generalize ((0 + i : Nat) : Int) = ki
          refine ⟨_, .fz (putP b z (.tuple [.int ki, x'])), by simp [lE]; rfl, ?_, rfl, by simp [lE]⟩
          by_cases hk : ki = (b : Int)
          · simp [lE, putP, hk]
          · simp [lE, putP, hk]
      have f7 : lc7 (lE h (eBs bs) t.enc (b : Int) z (at' h.names z) C (plAt t b) .no s10 s11 s12 s13) = .ok (.nx, lE h (eBs bs) t.enc (b : Int) z (at' h.names z) C (plAt t b) (.fz (.tuple ((t.places.set b z).map dstr))) s10 s11 s12 s13) := by
        unfold lc7
        rw [ev_mset, ev_pure, ev_oex, hl2]
        simp [opTuple, lE]
      have f8 : lc8 (lE h (eBs bs) t.enc (b : Int) z (at' h.names z) C (plAt t b) (.fz (.tuple ((t.places.set b z).map dstr))) s10 s11 s12 s13) = .ok (.rt (.fz (Sn.enc ⟨t.places.set b z, C⟩)), lE h (eBs bs) t.enc (b : Int) z (at' h.names z) C (plAt t b) (.fz (.tuple ((t.places.set b z).map dstr))) s10 s11 s12 s13) := by
        unfold lc8
        simp [opTuple, lE, Sn.enc]
      simp only [ev_seq, f2, ev_bok, f3, f4, f5, f6, f7, f8]
      rfl
end Mi
set_option Elab.async false
set_option linter.all false
set_option maxRecDepth 100000
set_option autoImplicit false
/-! a coming leads to a stand -/
namespace Mi
open PySem PySem.Spec PyProof.Rows L2 Sh

theorem more_nonneg : ∀ (gs : List (Str × Str × Int)) (x y : Str), (∀ g ∈ gs, 0 ≤ g.2.2) → 0 ≤ moreL gs x y
  | [], _, _, _ => Int.le_refl _
  | g :: gs, x, y, h => by
    rw [more_cons]
    have h1 := more_nonneg gs x y (fun q hq => h q (by simp [hq]))
    have h2 := h g (by simp)
    split <;> omega
theorem come_ok {h : Hs} (kh : HsOk h) {bs : List Int} {t : Sn} (kt : SnOk h bs.length t) {b : Nat} (hb : b < bs.length) {z : Str} (hz : z ∈ h.names) {t' : Sn} (e : comeP h bs t b z = some t') : SnOk h bs.length t' := by
  unfold comeP at e
  split at e
  · cases e
  · cases e
    have hlen : (lGo h (plAt t b) (at' h.names z) 0 h.rooms t.sizes).length = h.rooms.length := lGo_len _ _ _ _ _ _ kt.sn.symm
    refine ⟨by rw [List.length_set]; exact kt.pn, fun p hp => ?_, by show (cSz h (plAt t b) z t.sizes).length = _; rw [cSz_eq kh kt _ _ hz]; exact hlen, fun i x c hx hc => ?_⟩
    · rcases List.mem_or_eq_of_mem_set hp with q | rfl
      · exact kt.pl p q
      · exact hz
    · have hx' : (cSz h (plAt t b) z t.sizes)[i]? = some x := hx
      rw [cSz_eq kh kt _ _ hz] at hx'
      have hi : i < h.rooms.length := by
        have := (List.getElem?_eq_some_iff.mp hx').1
        rw [hlen] at this
        exact this
      have his : i < t.sizes.length := by rw [kt.sn]; exact hi
      rw [lGo_get h _ _ 0 h.rooms t.sizes i h.rooms[i] t.sizes[i] (List.getElem?_eq_getElem hi) (List.getElem?_eq_getElem his)] at hx'
      have hc' : h.caps[i]? = some h.rooms[i].2.1 := caps_get (List.getElem?_eq_getElem hi)
      rw [hc'] at hc
      cases hc
      obtain ⟨s0, s1⟩ := kt.sz i _ _ (List.getElem?_eq_getElem his) hc'
      obtain ⟨_, c0, c9, l0, l9⟩ := kh.room h.rooms[i] (List.getElem_mem hi)
      have hm := more_nonneg h.gains (plAt t b) h.rooms[i].1 (fun g hg => by have := (kh.gain g hg).2.2.1; omega)
      cases hx'
      unfold lOne mx0 mn
      split <;> (try split) <;> (try split) <;> omega
end Mi
set_option Elab.async false
set_option linter.all false
set_option maxRecDepth 100000
set_option autoImplicit false
/-! nexts -/
namespace Mi
open PySem PySem.Spec PyProof.Rows L2 Sh

def nxOne (h : Hs) (bs : List Int) (t : Sn) (b : Nat) (z : Str) : List Da := match comeP h bs t b z with
  | none => []
  | some t' => [.tuple [.int (b : Int), .str z, t'.enc]]
def nxB (h : Hs) (bs : List Int) (t : Sn) (b : Nat) (zs : List Str) : List Da := (zs.map (nxOne h bs t b)).flatten
def nxP (h : Hs) (bs : List Int) (t : Sn) : List Da := ((List.range bs.length).map fun b => nxB h bs t b h.names).flatten
theorem nxOne_len (h : Hs) (bs : List Int) (t : Sn) (b : Nat) (z : Str) : (nxOne h bs t b z).length ≤ 1 := by
  unfold nxOne
  split <;> simp
theorem nxB_len (h : Hs) (bs : List Int) (t : Sn) (b : Nat) : ∀ zs : List Str, (nxB h bs t b zs).length ≤ zs.length
  | [] => by simp [nxB]
  | z :: zs => by
    have h1 := nxB_len h bs t b zs
    have h2 := nxOne_len h bs t b z
    unfold nxB at h1 ⊢
    rw [List.map_cons, List.flatten_cons, List.length_append, List.length_cons]
    omega
def nE (h : Hs) (bs : List Int) (t : Sn) (L : List Da) (s4 s5 s6 : Sl) : En := [.fz h.enc, .fz (eBs bs), .fz t.enc, .ow (.list L), s4, s5, s6]
noncomputable def nI : MS := mSeq (mSet 6 (mCall (f_come) [.sl 0, .sl 1, .sl 2, .sl 4, .sl 5])) (mCond (mTE (mPure opIsNot [.sl 6, .ex (mK (.none))])) (mAppend 3 (mPure opTup (exs [mVar 4, mVar 5, mVar 6]))) (mSkip))
section
variable {h : Hs} (kh : HsOk h) {bs : List Int} (hb3 : bs.length ≤ 3) {t : Sn} (kt : SnOk h bs.length t)
include kh hb3 kt
theorem nI_ok (L : List Da) (hL : L.length < 1000) (b : Nat) (hb : b < bs.length) (z : Str) (hz : z ∈ h.names) (s6 : Sl) : ∃ s6', nI (nE h bs t L (.fz (.int (b : Int))) (.fz (.str z)) s6) = .ok (.nx, nE h bs t (L ++ nxOne h bs t b z) (.fz (.int (b : Int))) (.fz (.str z)) s6') := by
  have e := e_come kh hb3 kt hb hz
  have hl : L.length < 1000000 := by omega
  unfold nI nE nxOne
  cases hc : comeP h bs t b z with
  | none =>
    rw [hc] at e
    have i1 : opIsNot [.none, .none] = some (.fz (.bool false)) := rfl
    exact ⟨.fz .none, by simp [e, encO, i1]⟩
  | some t' =>
    rw [hc] at e
    have e' : f_come [h.enc, eBs bs, t.enc, .int (b : Int), .str z] = .ok (.fz (.tuple [.tuple (t'.places.map dstr), .tuple (t'.sizes.map dint)])) := e
    have i1 : ∀ ds : List Da, opIsNot [.tuple ds, .none] = some (.fz (.bool true)) := fun _ => rfl
    refine ⟨.fz t'.enc, ?_⟩
    simp [e', i1, hl]
    rfl
theorem n_inner (D : Da) (b : Nat) (hb : b < bs.length) : ∀ (zs : List Str) (L : List Da) (s5 s6 : Sl), (∀ z ∈ zs, z ∈ h.names) → L.length + zs.length ≤ 500 → ∃ s5' s6', forL [.va D] [D] (.nm 5) nI (zs.map dstr) (nE h bs t L (.fz (.int (b : Int))) s5 s6) = .ok (.nx, nE h bs t (L ++ nxB h bs t b zs) (.fz (.int (b : Int))) s5' s6')
  | [], L, s5, s6, _, _ => ⟨s5, s6, by rw [List.map_nil, forL, if_pos (res_va _ _)]; simp [nxB]⟩
  | z :: zs, L, s5, s6, hz, hL => by
    have hL' : L.length + (zs.length + 1) ≤ 500 := hL
    obtain ⟨a6, e1⟩ := nI_ok kh hb3 kt L (by omega) b hb z (hz z (by simp)) s6
    have h1 := nxOne_len h bs t b z
    obtain ⟨b5, b6, e2⟩ := n_inner D b hb zs (L ++ nxOne h bs t b z) (.fz (.str z)) a6 (fun y hy => hz y (by simp [hy])) (by simp; omega)
    refine ⟨b5, b6, ?_⟩
    rw [List.map_cons, forL, if_pos (res_va _ _)]
    have ha : asg (.nm 5) (dstr z) (nE h bs t L (.fz (.int (b : Int))) s5 s6) = some (nE h bs t L (.fz (.int (b : Int))) (.fz (.str z)) s6) := by simp [nE, dstr]
    rw [ha]
    simp only [e1, ev_bok]
    simpa [nxB] using e2
end
end Mi
set_option Elab.async false
set_option linter.all false
set_option maxRecDepth 100000
set_option autoImplicit false
/-! nexts, whole -/
namespace Mi
open PySem PySem.Spec PyProof.Rows L2 Sh

section
variable {h : Hs} (kh : HsOk h) {bs : List Int} (hb3 : bs.length ≤ 3) {t : Sn} (kt : SnOk h bs.length t)
include kh hb3 kt
theorem n_outer (D : Da) : ∀ (ks : List Nat) (L : List Da) (s4 s5 s6 : Sl), (∀ k ∈ ks, k < bs.length) → L.length + 5 * ks.length ≤ 400 → ∃ s4' s5' s6', forL [.va D] [D] (.nm 4) (mFor ⟨[.ex (mCall (f_names_of) [.sl 0])], itSeq⟩ (.nm 5) nI) (ks.map fun k : Nat => .int (k : Int)) (nE h bs t L s4 s5 s6) = .ok (.nx, nE h bs t (L ++ (ks.map fun b => nxB h bs t b h.names).flatten) s4' s5' s6')
  | [], L, s4, s5, s6, _, _ => ⟨s4, s5, s6, by rw [List.map_nil, forL, if_pos (res_va _ _)]; simp⟩
  | k :: ks, L, s4, s5, s6, hk, hL => by
    have h5 := kh.n5
    have hL' : L.length + 5 * (ks.length + 1) ≤ 400 := hL
    have hk0 := hk k (by simp)
    have hn := nxB_len h bs t k h.names
    rw [names_len] at hn
    obtain ⟨a5, a6, e1⟩ := n_inner kh hb3 kt (.list (h.names.map dstr)) k hk0 h.names L s5 s6 (fun z hz => hz) (by rw [names_len]; omega)
    obtain ⟨b4, b5, b6, e2⟩ := n_outer D ks (L ++ nxB h bs t k h.names) (.fz (.int (k : Int))) a5 a6 (fun q hq => hk q (by simp [hq])) (by simp; omega)
    refine ⟨b4, b5, b6, ?_⟩
    rw [List.map_cons, forL, if_pos (res_va _ _)]
    have ha : asg (.nm 4) (.int (k : Int)) (nE h bs t L s4 s5 s6) = some (nE h bs t L (.fz (.int (k : Int))) s5 s6) := by simp [nE]
    rw [ha]
    have hf : mFor ⟨[.ex (mCall (f_names_of) [.sl 0])], itSeq⟩ (.nm 5) nI (nE h bs t L (.fz (.int (k : Int))) s5 s6) = .ok (.nx, nE h bs t (L ++ nxB h bs t k h.names) (.fz (.int (k : Int))) a5 a6) := by
      rw [ev_for]
      have en := e_names_of kh
      have hit : itSeq [.list (h.names.map dstr)] = some (h.names.map dstr) := rfl
      have hop : evalOps [.ex (mCall (f_names_of) [.sl 0])] (nE h bs t L (.fz (.int (k : Int))) s5 s6) = .ok ([.va (.list (h.names.map dstr))], nE h bs t L (.fz (.int (k : Int))) s5 s6) := by
        simp [nE, en]
      simp only [hop, ev_bok, ev_rva, ev_r0, Option.bind_some, hit]
      exact e1
    simp only [hf, ev_bok]
    simpa using e2
theorem e_nexts : f_nexts [h.enc, eBs bs, t.enc] = .ok (.ow (.list (nxP h bs t))) := by
  obtain ⟨s4, s5, s6, e⟩ := n_outer kh hb3 kt (.int (bs.length : Int)) (List.range bs.length) [] .no .no .no (fun k hk => List.mem_range.mp hk) (by simp; omega)
  have hsp : m_nexts = mSeq (mSet 3 (mPure opLst (exs []))) (mSeq (mFor ⟨[.ex (mPure opLen [.sl 1])], itRng⟩ (.nm 4) (mFor ⟨[.ex (mCall (f_names_of) [.sl 0])], itSeq⟩ (.nm 5) nI)) (mRet (mMove 3))) := rfl
  have h1 : mSet 3 (mPure opLst (exs [])) (([h.enc, eBs bs, t.enc] : List Da).map .fz ++ List.replicate 4 .no) = .ok (.nx, nE h bs t [] .no .no .no) := rfl
  have hln : opLen [eBs bs] = some (.fz (.int (bs.length : Int))) := by
    show some (Sl.fz (.int ((bs.map dint).length : Int))) = _
    rw [List.length_map]
  have h2 : mFor ⟨[.ex (mPure opLen [.sl 1])], itRng⟩ (.nm 4) (mFor ⟨[.ex (mCall (f_names_of) [.sl 0])], itSeq⟩ (.nm 5) nI) (nE h bs t [] .no .no .no) = .ok (.nx, nE h bs t (nxP h bs t) s4 s5 s6) := by
    rw [ev_for]
    have hr := itRng_nat bs.length (by omega)
    have hop : evalOps [.ex (mPure opLen [.sl 1])] (nE h bs t [] .no .no .no) = .ok ([.va (.int (bs.length : Int))], nE h bs t [] .no .no .no) := by
      simp [nE, hln]
    simp only [hop, ev_bok, ev_rva, ev_r0, Option.bind_some, hr]
    rw [List.nil_append] at e
    exact e
  unfold f_nexts
  rw [hsp, fnP_eq, ev_seq, h1]
  simp only [ev_bok, ev_seq, h2]
  simp [nE]
theorem e_comings (kb : BsOk bs) : f_comings [h.enc, eBs bs, t.enc] = .ok (.ow (.list (nxP h bs t))) := by
  have e1 := e_need_stand kh kb kt
  have e2 := e_nexts kh hb3 kt
  unfold f_comings m_comings
  rw [fnP_eq]
  simp [e1, e2]
end
end Mi
set_option Elab.async false
set_option linter.all false
set_option maxRecDepth 100000
set_option autoImplicit false
/-! the law's nexts -/
namespace Mi
open PySem PySem.Spec PyProof.Rows L2 Sh

noncomputable def lnI : MS := mSeq (mSet 6 (mCall (f_law_come) [.sl 0, .sl 1, .sl 2, .sl 4, .ex (mPure opIx [.sl 5, .ex (mK (.int 0))])])) (mCond (mTE (mPure opIsNot [.sl 6, .ex (mK (.none))])) (mAppend 3 (mPure opTup (exs [mVar 4, mPure opIx [.sl 5, .ex (mK (.int 0))], mVar 6]))) (mSkip))
section
variable {h : Hs} (kh : HsOk h) {bs : List Int} (hb3 : bs.length ≤ 3) {t : Sn} (kt : SnOk h bs.length t)
include kh hb3 kt
theorem lnI_ok (L : List Da) (hL : L.length < 1000) (b : Nat) (hb : b < bs.length) (r : Str × Int × Int) (hz : r.1 ∈ h.names) (s6 : Sl) : ∃ s6', lnI (nE h bs t L (.fz (.int (b : Int))) (.fz (eRoom r)) s6) = .ok (.nx, nE h bs t (L ++ nxOne h bs t b r.1) (.fz (.int (b : Int))) (.fz (eRoom r)) s6') := by
  have e := e_law_come kh hb3 kt hb hz
  have hl : L.length < 1000000 := by omega
  have r0 : opIx [eRoom r, .int 0] = some (.fz (.str r.1)) := rfl
  unfold lnI nE nxOne
  cases hc : comeP h bs t b r.1 with
  | none =>
    rw [hc] at e
    have i1 : opIsNot [.none, .none] = some (.fz (.bool false)) := rfl
    exact ⟨.fz .none, by simp [e, r0, encO, i1]⟩
  | some t' =>
    rw [hc] at e
    have e' : f_law_come [h.enc, eBs bs, t.enc, .int (b : Int), .str r.1] = .ok (.fz (.tuple [.tuple (t'.places.map dstr), .tuple (t'.sizes.map dint)])) := e
    have i1 : ∀ ds : List Da, opIsNot [.tuple ds, .none] = some (.fz (.bool true)) := fun _ => rfl
    refine ⟨.fz t'.enc, ?_⟩
    simp [e', r0, i1, hl]
    rfl
theorem ln_inner (D : Da) (b : Nat) (hb : b < bs.length) : ∀ (rs : List (Str × Int × Int)) (L : List Da) (s5 s6 : Sl), (∀ r ∈ rs, r.1 ∈ h.names) → L.length + rs.length ≤ 500 → ∃ s5' s6', forL [.va D] [D] (.nm 5) lnI (rs.map eRoom) (nE h bs t L (.fz (.int (b : Int))) s5 s6) = .ok (.nx, nE h bs t (L ++ nxB h bs t b (rs.map (·.1))) (.fz (.int (b : Int))) s5' s6')
  | [], L, s5, s6, _, _ => ⟨s5, s6, by rw [List.map_nil, forL, if_pos (res_va _ _)]; simp [nxB]⟩
  | r :: rs, L, s5, s6, hz, hL => by
    have hL' : L.length + (rs.length + 1) ≤ 500 := hL
    obtain ⟨a6, e1⟩ := lnI_ok kh hb3 kt L (by omega) b hb r (hz r (by simp)) s6
    have h1 := nxOne_len h bs t b r.1
    obtain ⟨b5, b6, e2⟩ := ln_inner D b hb rs (L ++ nxOne h bs t b r.1) (.fz (eRoom r)) a6 (fun y hy => hz y (by simp [hy])) (by simp; omega)
    refine ⟨b5, b6, ?_⟩
    rw [List.map_cons, forL, if_pos (res_va _ _)]
    have ha : asg (.nm 5) (eRoom r) (nE h bs t L (.fz (.int (b : Int))) s5 s6) = some (nE h bs t L (.fz (.int (b : Int))) (.fz (eRoom r)) s6) := by simp [nE]
    rw [ha]
    simp only [e1, ev_bok]
    simpa [nxB] using e2
theorem ln_outer (D : Da) : ∀ (ks : List Nat) (L : List Da) (s4 s5 s6 : Sl), (∀ k ∈ ks, k < bs.length) → L.length + 5 * ks.length ≤ 400 → ∃ s4' s5' s6', forL [.va D] [D] (.nm 4) (mFor ⟨[.ex (mPure opIx [.sl 0, .ex (mK (.int 0))])], itSeq⟩ (.nm 5) lnI) (ks.map fun k : Nat => .int (k : Int)) (nE h bs t L s4 s5 s6) = .ok (.nx, nE h bs t (L ++ (ks.map fun b => nxB h bs t b h.names).flatten) s4' s5' s6')
  | [], L, s4, s5, s6, _, _ => ⟨s4, s5, s6, by rw [List.map_nil, forL, if_pos (res_va _ _)]; simp⟩
  | k :: ks, L, s4, s5, s6, hk, hL => by
    have h5 := kh.n5
    have hL' : L.length + 5 * (ks.length + 1) ≤ 400 := hL
    have hn := nxB_len h bs t k h.names
    rw [names_len] at hn
    obtain ⟨a5, a6, e1⟩ := ln_inner kh hb3 kt (.tuple (h.rooms.map eRoom)) k (hk k (by simp)) h.rooms L s5 s6 (fun r hr => List.mem_map.mpr ⟨r, hr, rfl⟩) (by omega)
    obtain ⟨b4, b5, b6, e2⟩ := ln_outer D ks (L ++ nxB h bs t k h.names) (.fz (.int (k : Int))) a5 a6 (fun q hq => hk q (by simp [hq])) (by simp; omega)
    refine ⟨b4, b5, b6, ?_⟩
    rw [List.map_cons, forL, if_pos (res_va _ _)]
    have ha : asg (.nm 4) (.int (k : Int)) (nE h bs t L s4 s5 s6) = some (nE h bs t L (.fz (.int (k : Int))) s5 s6) := by simp [nE]
    rw [ha]
    have hf : mFor ⟨[.ex (mPure opIx [.sl 0, .ex (mK (.int 0))])], itSeq⟩ (.nm 5) lnI (nE h bs t L (.fz (.int (k : Int))) s5 s6) = .ok (.nx, nE h bs t (L ++ nxB h bs t k h.names) (.fz (.int (k : Int))) a5 a6) := by
      rw [ev_for]
      have hit : itSeq [.tuple (h.rooms.map eRoom)] = some (h.rooms.map eRoom) := rfl
      have hop : evalOps [.ex (mPure opIx [.sl 0, .ex (mK (.int 0))])] (nE h bs t L (.fz (.int (k : Int))) s5 s6) = .ok ([.va (.tuple (h.rooms.map eRoom))], nE h bs t L (.fz (.int (k : Int))) s5 s6) := by
        simp [nE]
      simp only [hop, ev_bok, ev_rva, ev_r0, Option.bind_some, hit]
      exact e1
    simp only [hf, ev_bok]
    simpa using e2
theorem e_law_nexts : f_law_nexts [h.enc, eBs bs, t.enc] = .ok (.ow (.list (nxP h bs t))) := by
  obtain ⟨s4, s5, s6, e⟩ := ln_outer kh hb3 kt (.int (bs.length : Int)) (List.range bs.length) [] .no .no .no (fun k hk => List.mem_range.mp hk) (by simp; omega)
  have hsp : m_law_nexts = mSeq (mSet 3 (mPure opLst (exs []))) (mSeq (mFor ⟨[.ex (mPure opLen [.sl 1])], itRng⟩ (.nm 4) (mFor ⟨[.ex (mPure opIx [.sl 0, .ex (mK (.int 0))])], itSeq⟩ (.nm 5) lnI)) (mRet (mMove 3))) := rfl
  have h1 : mSet 3 (mPure opLst (exs [])) (([h.enc, eBs bs, t.enc] : List Da).map .fz ++ List.replicate 4 .no) = .ok (.nx, nE h bs t [] .no .no .no) := rfl
  have hln : opLen [eBs bs] = some (.fz (.int (bs.length : Int))) := by
    show some (Sl.fz (.int ((bs.map dint).length : Int))) = _
    rw [List.length_map]
  have h2 : mFor ⟨[.ex (mPure opLen [.sl 1])], itRng⟩ (.nm 4) (mFor ⟨[.ex (mPure opIx [.sl 0, .ex (mK (.int 0))])], itSeq⟩ (.nm 5) lnI) (nE h bs t [] .no .no .no) = .ok (.nx, nE h bs t (nxP h bs t) s4 s5 s6) := by
    rw [ev_for]
    have hr := itRng_nat bs.length (by omega)
    have hop : evalOps [.ex (mPure opLen [.sl 1])] (nE h bs t [] .no .no .no) = .ok ([.va (.int (bs.length : Int))], nE h bs t [] .no .no .no) := by
      simp [nE, hln]
    simp only [hop, ev_bok, ev_rva, ev_r0, Option.bind_some, hr]
    rw [List.nil_append] at e
    exact e
  unfold f_law_nexts
  rw [hsp, fnP_eq, ev_seq, h1]
  simp only [ev_bok, ev_seq, h2]
  simp [nE]
end
end Mi
set_option Elab.async false
set_option linter.all false
set_option maxRecDepth 100000
set_option autoImplicit false
/-! rows -/
namespace Mi
open PySem PySem.Spec PyProof.Rows L2 Sh

def eCm (p : Nat × Str) : Da := .tuple [.int (p.1 : Int), .str p.2]
def RowOk (h : Hs) (nb : Nat) (row : List (Nat × Str)) : Prop := ∀ p ∈ row, p.1 < nb ∧ p.2 ∈ h.names
section
variable {h : Hs} (kh : HsOk h) {bs : List Int}
include kh
theorem e_is_coming (p : Nat × Str) (h1 : p.1 < bs.length) (h2 : p.2 ∈ h.names) : f_is_coming [h.enc, eBs bs, eCm p] = .ok (.fz (.bool true)) := by
  have hln : opLen [eBs bs] = some (.fz (.int (bs.length : Int))) := by
    show some (Sl.fz (.int ((bs.map dint).length : Int))) = _
    rw [List.length_map]
  have en := e_names_of kh
  have ho := e_is_one_of (.str p.2) (h.names.map dstr) (plain_names _)
  rw [oneOf_name, decide_eq_true h2] at ho
  have hf : f_is_from [.int (p.1 : Int), .int 0, .int ((bs.length : Int) - 1)] = .ok (.fz (.bool true)) := by
    rw [e_is_from]
    have : isFrom (.int (p.1 : Int)) 0 ((bs.length : Int) - 1) = true := by
      simp [isFrom]
      omega
    rw [this]
  have i0 : opIx [.tuple [.int (p.1 : Int), .str p.2], .int 0] = some (.fz (.int (p.1 : Int))) := rfl
  have i1 : opIx [.tuple [.int (p.1 : Int), .str p.2], .int 1] = some (.fz (.str p.2)) := rfl
  unfold f_is_coming m_is_coming eCm
  rw [fnP_eq]
  generalize h.names.map dstr = N at en ho
  simp [PyData.isTuple, hln, en, ho, hf, i0, i1, -op_ixT]
theorem e_need_row {row : List (Nat × Str)} (hr : RowOk h bs.length row) (hl : row.length ≤ 60) : f_need_row [h.enc, eBs bs, .list (row.map eCm)] = .ok (.fz .none) := by
  have hlc : mLc ⟨[.sl 2], itSeq⟩ (.nm 3) (mYes) (mCall (f_is_coming) [.sl 0, .sl 1, .sl 3]) [3] [.fz h.enc, .fz (eBs bs), .fz (.list (row.map eCm)), .no] = .ok (.ow (.list ((row.map eCm).map fun d => .bool ((fun _ => true) d))), [.fz h.enc, .fz (eBs bs), .fz (.list (row.map eCm)), .no]) := by
    refine Sh.lc_mapS (os := [.at 2]) (ds := [.list (row.map eCm)]) (fun d => .bool ((fun _ => true) d)) rfl rfl rfl rfl rfl rfl rfl (by rw [List.length_map]; omega) fun d hd => ?_
    obtain ⟨p, hp, rfl⟩ := List.mem_map.mp hd
    obtain ⟨g1, g2⟩ := hr p hp
    refine ⟨_, .fz (.bool true), rfl, ?_, rfl, rfl⟩
    simp [e_is_coming kh p g1 g2]
  have ha := op_all_map (fun _ => true) (row.map eCm)
  have e1 : f_is_row [h.enc, eBs bs, .list (row.map eCm)] = .ok (.fz (.bool true)) := by
    unfold f_is_row m_is_row
    rw [fnP_eq]
    have hall : (row.map eCm).all (fun _ => true) = true := by simp
    rw [hall] at ha
    generalize (row.map eCm).map (fun d => PyData.bool ((fun _ => true) d)) = W at hlc ha
    simp [PyData.isList, hlc, ha]
  unfold f_need_row m_need_row
  rw [fnP_eq]
  have hn : ¬ ((60 : Int) < (row.length : Int)) := by omega
  simp [e1, hn]
end
end Mi
set_option Elab.async false
set_option linter.all false
set_option maxRecDepth 100000
set_option autoImplicit false
/-! walked, gone, halt -/
namespace Mi
open PySem PySem.Spec PyProof.Rows L2 Sh

/-- the stands gone through, the first ahead of the list -/
def walkP (h : Hs) (bs : List Int) : Sn → List (Nat × Str) → List Sn
  | _, [] => []
  | t, p :: r => match comeP h bs t p.1 p.2 with
    | none => []
    | some t' => t' :: walkP h bs t' r
def lastP : Sn → List Sn → Sn
  | t, [] => t
  | _, u :: r => lastP u r
theorem walk_len (h : Hs) (bs : List Int) : ∀ (r : List (Nat × Str)) (t : Sn), (walkP h bs t r).length ≤ r.length
  | [], _ => Nat.le_refl _
  | p :: r, t => by
    unfold walkP
    split
    · simp
    · rename_i t' _
      have := walk_len h bs r t'
      simp
      omega
def wE (h : Hs) (bs : List Int) (t : Sn) (R : Da) (L : List Da) (s5 s6 s7 : Sl) : En := [.fz h.enc, .fz (eBs bs), .fz t.enc, .fz R, .ow (.list L), s5, s6, s7]
noncomputable def wB : MS := mSeq (mSet 7 (mCall (f_come) [.sl 0, .sl 1, .ex (mPure opIx [.sl 4, .ex (mPure opNeg [.ex (mK (.int 1))])]), .sl 5, .sl 6])) (mSeq (mCond (mTE (mPure opIs [.sl 7, .ex (mK (.none))])) (mRet (mMove 4)) (mSkip)) (mAppend 4 (mVar 7)))
section
variable {h : Hs} (kh : HsOk h) {bs : List Int} (hb3 : bs.length ≤ 3)
include kh hb3
/-- one coming of the walk -/
theorem wB_ok (t0 u : Sn) (ku : SnOk h bs.length u) (R : Da) (L : List Da) (hL : L.length < 1000) (p : Nat × Str) (h1 : p.1 < bs.length) (h2 : p.2 ∈ h.names) (s7 : Sl) :
    ∃ s7', wB (wE h bs t0 R (L ++ [u.enc]) (.fz (.int (p.1 : Int))) (.fz (.str p.2)) s7) = match comeP h bs u p.1 p.2 with
      | none => .ok (.rt (.ow (.list (L ++ [u.enc]))), (wE h bs t0 R (L ++ [u.enc]) (.fz (.int (p.1 : Int))) (.fz (.str p.2)) s7').set 4 .no)
      | some u' => .ok (.nx, wE h bs t0 R (L ++ [u.enc] ++ [u'.enc]) (.fz (.int (p.1 : Int))) (.fz (.str p.2)) s7') := by
  have e := e_come kh hb3 ku h1 h2
  have ng : opNeg [.int 1] = some (.fz (.int (-1))) := rfl
  have ix : opIx [.list (L ++ [u.enc]), .int (-1)] = some (.fz u.enc) := by
    rw [op_ixL, L2.atI_last]
    rfl
  have hl : (L ++ [u.enc]).length < 1000000 := by simp; omega
  unfold wB wE
  generalize L ++ [u.enc] = M at ix hl
  cases hc : comeP h bs u p.1 p.2 with
  | none =>
    rw [hc] at e
    have i1 : opIs [.none, .none] = some (.fz (.bool true)) := rfl
    exact ⟨.fz .none, by simp [e, ng, ix, encO, i1, -op_ixL]⟩
  | some u' =>
    rw [hc] at e
    have e' : f_come [h.enc, eBs bs, u.enc, .int (p.1 : Int), .str p.2] = .ok (.fz (.tuple [.tuple (u'.places.map dstr), .tuple (u'.sizes.map dint)])) := e
    have i1 : ∀ ds : List Da, opIs [.tuple ds, .none] = some (.fz (.bool false)) := fun _ => rfl
    refine ⟨.fz u'.enc, ?_⟩
    simp [e', ng, ix, i1, hl, -op_ixL]
    rfl
end
end Mi
set_option Elab.async false
set_option linter.all false
set_option maxRecDepth 100000
set_option autoImplicit false
/-! walked, whole; gone, halt -/
namespace Mi
open PySem PySem.Spec PyProof.Rows L2 Sh

section
variable {h : Hs} (kh : HsOk h) {bs : List Int} (hb3 : bs.length ≤ 3)
include kh hb3
theorem w_loop (D R : Da) (t0 : Sn) : ∀ (row : List (Nat × Str)) (u : Sn) (L : List Da) (s5 s6 s7 : Sl), RowOk h bs.length row → SnOk h bs.length u → L.length + row.length ≤ 500 →
    (∃ s5' s6' s7', forL [.va D] [D] (.tp [.nm 5, .nm 6]) wB (row.map eCm) (wE h bs t0 R (L ++ [u.enc]) s5 s6 s7) = .ok (.nx, wE h bs t0 R (L ++ [u.enc] ++ (walkP h bs u row).map Sn.enc) s5' s6' s7')) ∨
    ∃ en', forL [.va D] [D] (.tp [.nm 5, .nm 6]) wB (row.map eCm) (wE h bs t0 R (L ++ [u.enc]) s5 s6 s7) = .ok (.rt (.ow (.list (L ++ [u.enc] ++ (walkP h bs u row).map Sn.enc))), en')
  | [], u, L, s5, s6, s7, _, _, _ => .inl ⟨s5, s6, s7, by rw [List.map_nil, forL, if_pos (res_va _ _)]; simp [walkP]⟩
  | p :: row, u, L, s5, s6, s7, hr, ku, hL => by
    have hL' : L.length + (row.length + 1) ≤ 500 := hL
    obtain ⟨h1, h2⟩ := hr p (by simp)
    obtain ⟨a7, e1⟩ := wB_ok kh hb3 t0 u ku R L (by omega) p h1 h2 s7
    have ha : asg (.tp [.nm 5, .nm 6]) (eCm p) (wE h bs t0 R (L ++ [u.enc]) s5 s6 s7) = some (wE h bs t0 R (L ++ [u.enc]) (.fz (.int (p.1 : Int))) (.fz (.str p.2)) s7) := by simp [wE, eCm]
    rw [List.map_cons, forL, if_pos (res_va _ _), ha]
    cases hc : comeP h bs u p.1 p.2 with
    | none =>
      rw [hc] at e1
      simp only [e1, ev_bok]
      exact .inr ⟨_, by simp [walkP, hc]; rfl⟩
    | some u' =>
      rw [hc] at e1
      simp only [e1, ev_bok]
      have hw : walkP h bs u (p :: row) = u' :: walkP h bs u' row := by simp [walkP, hc]
      rcases w_loop D R t0 row u' (L ++ [u.enc]) (.fz (.int (p.1 : Int))) (.fz (.str p.2)) a7 (fun q hq => hr q (by simp [hq])) (come_ok kh ku h1 h2 hc) (by simp; omega) with ⟨b5, b6, b7, e2⟩ | ⟨en', e2⟩
      · exact .inl ⟨b5, b6, b7, by rw [hw]; simpa using e2⟩
      · exact .inr ⟨en', by rw [hw]; simpa using e2⟩
theorem e_walked {t : Sn} (kt : SnOk h bs.length t) {row : List (Nat × Str)} (hr : RowOk h bs.length row) (hl : row.length ≤ 100) : f_walked [h.enc, eBs bs, t.enc, .list (row.map eCm)] = .ok (.ow (.list ((t :: walkP h bs t row).map Sn.enc))) := by
  have hsp : m_walked = mSeq (mSet 4 (mPure opLst (exs [mVar 2]))) (mSeq (mFor ⟨[.ex (mVar 3)], itSeq⟩ (.tp [.nm 5, .nm 6]) wB) (mRet (mMove 4))) := rfl
  have h1 : mSet 4 (mPure opLst (exs [mVar 2])) (([h.enc, eBs bs, t.enc, .list (row.map eCm)] : List Da).map .fz ++ List.replicate 4 .no) = .ok (.nx, wE h bs t (.list (row.map eCm)) ([] ++ [t.enc]) .no .no .no) := rfl
  have hop : evalOps [.ex (mVar 3)] (wE h bs t (.list (row.map eCm)) ([] ++ [t.enc]) .no .no .no) = .ok ([.va (.list (row.map eCm))], wE h bs t (.list (row.map eCm)) ([] ++ [t.enc]) .no .no .no) := rfl
  have hit : itSeq [.list (row.map eCm)] = some (row.map eCm) := rfl
  unfold f_walked
  rw [hsp, fnP_eq, ev_seq, h1]
  simp only [ev_bok, ev_seq, ev_for, hop, ev_rva, ev_r0, Option.bind_some, hit]
  rcases w_loop kh hb3 (.list (row.map eCm)) (.list (row.map eCm)) t row t [] .no .no .no hr kt (by simp; omega) with ⟨a, b, c, e⟩ | ⟨en', e⟩
  · rw [e]
    simp [wE]
  · rw [e]
    simp
end
end Mi
set_option Elab.async false
set_option linter.all false
set_option maxRecDepth 100000
set_option autoImplicit false
/-! gone, halt -/
namespace Mi
open PySem PySem.Spec PyProof.Rows L2 Sh

theorem last_split : ∀ (ts : List Sn) (t : Sn), ∃ i : List Sn, t :: ts = i ++ [lastP t ts]
  | [], t => ⟨[], rfl⟩
  | u :: r, t => by
    obtain ⟨i, e⟩ := last_split r u
    exact ⟨t :: i, congrArg (t :: ·) e⟩
theorem last_enc (ts : List Sn) (t : Sn) : atI ((t :: ts).map Sn.enc) (-1) = some (lastP t ts).enc := by
  obtain ⟨i, e⟩ := last_split ts t
  rw [e, List.map_append]
  exact L2.atI_last _ _
section
variable {h : Hs} (kh : HsOk h) {bs : List Int} (hb3 : bs.length ≤ 3) (kb : BsOk bs)
include kh hb3 kb
theorem e_gone {t : Sn} (kt : SnOk h bs.length t) {row : List (Nat × Str)} (hr : RowOk h bs.length row) (hl : row.length ≤ 60) : f_gone [h.enc, eBs bs, t.enc, .list (row.map eCm)] = .ok (.fz (if (walkP h bs t row).length = row.length then (lastP t (walkP h bs t row)).enc else .none)) := by
  have e1 := e_need_stand kh kb kt
  have e2 := e_need_row kh hr hl
  have e3 := e_walked kh hb3 kt hr (by omega)
  have ng : opNeg [.int 1] = some (.fz (.int (-1))) := rfl
  have ix : opIx [.list ((t :: walkP h bs t row).map Sn.enc), .int (-1)] = some (.fz (lastP t (walkP h bs t row)).enc) := by
    rw [op_ixL, last_enc]
    rfl
  have hln : opLen [.list ((t :: walkP h bs t row).map Sn.enc)] = some (.fz (.int ((walkP h bs t row).length + 1 : Int))) := by
    rw [op_lenL]
    simp
  unfold f_gone m_gone
  rw [fnP_eq]
  generalize (t :: walkP h bs t row).map Sn.enc = W at e3 ix hln
  by_cases hq : (walkP h bs t row).length = row.length
  · have hq' : ((walkP h bs t row).length + 1 : Int) = (row.length + 1 : Int) := by omega
    simp [e1, e2, e3, ng, ix, hln, hq, -op_ixL, -op_lenL, op_lenL (row.map eCm)]
  · have hq' : ¬ (((walkP h bs t row).length : Int) = (row.length : Int)) := by omega
    simp [e1, e2, e3, ng, ix, hln, hq, hq', -op_ixL, -op_lenL, op_lenL (row.map eCm)]
end
end Mi
set_option Elab.async false
set_option linter.all false
set_option maxRecDepth 100000
set_option autoImplicit false
/-! loops in general; halt, the law's going -/
namespace Mi
open PySem PySem.Spec PyProof.Rows L2 Sh

section
variable {ι : Type} {enc : ι → Da} {D : Da} {t : Tg} {body : MS}
/-- a for whose turns keep Inv -/
theorem for_rel (Inv : List ι → En → Prop) (hb : ∀ x r en, Inv (x :: r) en → ∃ e1 e2, asg t (enc x) en = some e1 ∧ body e1 = .ok (.nx, e2) ∧ Inv r e2) :
    ∀ (xs : List ι) (en : En), Inv xs en → ∃ en', forL [.va D] [D] t body (xs.map enc) en = .ok (.nx, en') ∧ Inv [] en'
  | [], en, h => ⟨en, by rw [List.map_nil, forL, if_pos (res_va _ _)], h⟩
  | x :: xs, en, h => by
    obtain ⟨e1, e2, h1, h2, h3⟩ := hb x xs en h
    obtain ⟨en', h4, h5⟩ := for_rel Inv hb xs e2 h3
    refine ⟨en', ?_, h5⟩
    rw [List.map_cons, forL, if_pos (res_va _ _), h1]
    simp only [h2, ev_bok]
    exact h4
/-- a for that may return -/
theorem for_ret (Inv : List ι → En → Prop) (Ret : Sl → En → Prop) (hb : ∀ x r en, Inv (x :: r) en → ∃ e1, asg t (enc x) en = some e1 ∧ ((∃ e2, body e1 = .ok (.nx, e2) ∧ Inv r e2) ∨ ∃ s e2, body e1 = .ok (.rt s, e2) ∧ Ret s e2)) :
    ∀ (xs : List ι) (en : En), Inv xs en → (∃ en', forL [.va D] [D] t body (xs.map enc) en = .ok (.nx, en') ∧ Inv [] en') ∨ ∃ s en', forL [.va D] [D] t body (xs.map enc) en = .ok (.rt s, en') ∧ Ret s en'
  | [], en, h => .inl ⟨en, by rw [List.map_nil, forL, if_pos (res_va _ _)], h⟩
  | x :: xs, en, h => by
    obtain ⟨e1, h1, ⟨e2, h2, h3⟩ | ⟨s, e2, h2, h3⟩⟩ := hb x xs en h
    · rw [List.map_cons, forL, if_pos (res_va _ _), h1]
      simp only [h2, ev_bok]
      exact for_ret Inv Ret hb xs e2 h3
    · refine .inr ⟨s, e2, ?_, h3⟩
      rw [List.map_cons, forL, if_pos (res_va _ _), h1]
      simp only [h2, ev_bok]
end
theorem mfor_of {it : ItM} {t : Tg} {body : MS} {en en1 : En} {os : List Op} {ds items : List Da} {r : Rs (Fl × En)} (h1 : evalOps it.ops en = .ok (os, en1)) (h2 : resAll en1 os = some ds) (h3 : it.items ds = some items) (h : forL os ds t body items en1 = r) : mFor it t body en = r := by
  rw [ev_for, h1]
  simp only [ev_bok, h2, h3]
  exact h
section
variable {h : Hs} (kh : HsOk h) {bs : List Int} (hb3 : bs.length ≤ 3)
include kh hb3
theorem e_halt (kb : BsOk bs) {t : Sn} (kt : SnOk h bs.length t) {row : List (Nat × Str)} (hr : RowOk h bs.length row) (hl : row.length ≤ 60) : f_halt [h.enc, eBs bs, t.enc, .list (row.map eCm)] = .ok (.fz (if (walkP h bs t row).length = row.length then .none else .int ((walkP h bs t row).length : Int))) := by
  have e1 := e_need_stand kh kb kt
  have e2 := e_need_row kh hr hl
  have e3 := e_walked kh hb3 kt hr (by omega)
  have hln : opLen [.list ((t :: walkP h bs t row).map Sn.enc)] = some (.fz (.int ((walkP h bs t row).length + 1 : Int))) := by
    rw [op_lenL]
    simp
  have hw := walk_len h bs row t
  unfold f_halt m_halt
  rw [fnP_eq]
  generalize (t :: walkP h bs t row).map Sn.enc = W at e3 hln
  by_cases hq : (walkP h bs t row).length = row.length
  · have hq' : ¬ ((row.length : Int) + 1 ≤ (row.length : Int)) := by omega
    simp [e1, e2, e3, hln, hq, hq', -op_lenL, op_lenL (row.map eCm)]
  · have hq' : ((walkP h bs t row).length : Int) + 1 ≤ (row.length : Int) := by omega
    simp [e1, e2, e3, hln, hq, hq', -op_lenL, op_lenL (row.map eCm)]
def lgE (h : Hs) (bs : List Int) (t : Sn) (R : Da) (s4 s5 s6 : Sl) : En := [.fz h.enc, .fz (eBs bs), .fz t.enc, .fz R, s4, s5, s6]
noncomputable def lgB : MS := mSeq (mSet 2 (mCall (f_law_come) [.sl 0, .sl 1, .sl 2, .sl 5, .sl 6])) (mCond (mTE (mPure opIs [.sl 2, .ex (mK (.none))])) (mRet (mMove 4)) (mSkip))
theorem lg_loop (D R : Da) : ∀ (row : List (Nat × Str)) (k : Nat) (t : Sn) (s4 s5 s6 : Sl), RowOk h bs.length row → SnOk h bs.length t →
    (∃ s4' s5' s6', forL [.va D] [D] (.tp [.nm 4, .tp [.nm 5, .nm 6]]) lgB (enumD k (row.map eCm)) (lgE h bs t R s4 s5 s6) = .ok (.nx, lgE h bs (lastP t (walkP h bs t row)) R s4' s5' s6') ∧ (walkP h bs t row).length = row.length) ∨
    ∃ en', forL [.va D] [D] (.tp [.nm 4, .tp [.nm 5, .nm 6]]) lgB (enumD k (row.map eCm)) (lgE h bs t R s4 s5 s6) = .ok (.rt (.fz (.int ((k + (walkP h bs t row).length : Nat) : Int))), en') ∧ (walkP h bs t row).length < row.length
  | [], k, t, s4, s5, s6, _, _ => .inl ⟨s4, s5, s6, by rw [List.map_nil, enumD, forL, if_pos (res_va _ _)]; simp [walkP, lastP], rfl⟩
  | p :: row, k, t, s4, s5, s6, hr, kt => by
    obtain ⟨h1, h2⟩ := hr p (by simp)
    have e := e_law_come kh hb3 kt h1 h2
    have ha : asg (.tp [.nm 4, .tp [.nm 5, .nm 6]]) (.tuple [.int (k : Int), eCm p]) (lgE h bs t R s4 s5 s6) = some (lgE h bs t R (.fz (.int (k : Int))) (.fz (.int (p.1 : Int))) (.fz (.str p.2))) := by simp [lgE, eCm]
    rw [List.map_cons, enumD, forL, if_pos (res_va _ _), ha]
    cases hc : comeP h bs t p.1 p.2 with
    | none =>
      rw [hc] at e
      have i1 : opIs [.none, .none] = some (.fz (.bool true)) := rfl
      have hb : lgB (lgE h bs t R (.fz (.int (k : Int))) (.fz (.int (p.1 : Int))) (.fz (.str p.2))) = .ok (.rt (.fz (.int (k : Int))), [.fz h.enc, .fz (eBs bs), .fz .none, .fz R, .fz (.int (k : Int)), .fz (.int (p.1 : Int)), .fz (.str p.2)]) := by
        simp [lgB, lgE, e, encO, i1]
      simp only [hb, ev_bok]
      exact .inr ⟨[.fz h.enc, .fz (eBs bs), .fz .none, .fz R, .fz (.int (k : Int)), .fz (.int (p.1 : Int)), .fz (.str p.2)], by simp [walkP, hc], by simp [walkP, hc]⟩
    | some u =>
      rw [hc] at e
      have e' : f_law_come [h.enc, eBs bs, t.enc, .int (p.1 : Int), .str p.2] = .ok (.fz (.tuple [.tuple (u.places.map dstr), .tuple (u.sizes.map dint)])) := e
      have i1 : ∀ ds : List Da, opIs [.tuple ds, .none] = some (.fz (.bool false)) := fun _ => rfl
      have hb : lgB (lgE h bs t R (.fz (.int (k : Int))) (.fz (.int (p.1 : Int))) (.fz (.str p.2))) = .ok (.nx, lgE h bs u R (.fz (.int (k : Int))) (.fz (.int (p.1 : Int))) (.fz (.str p.2))) := by
        simp [lgB, lgE, e', i1]
        rfl
      simp only [hb, ev_bok]
      have hw : walkP h bs t (p :: row) = u :: walkP h bs u row := by simp [walkP, hc]
      rcases lg_loop D R row (k + 1) u (.fz (.int (k : Int))) (.fz (.int (p.1 : Int))) (.fz (.str p.2)) (fun q hq => hr q (by simp [hq])) (come_ok kh kt h1 h2 hc) with ⟨a, b, c, e2, e3⟩ | ⟨en', e2, e3⟩
      · exact .inl ⟨a, b, c, by rw [hw]; exact e2, by rw [hw]; simp [e3]⟩
      · refine .inr ⟨en', ?_, by rw [hw]; simp; exact e3⟩
        rw [hw, e2]
        simp
        omega
theorem e_law_gone {t : Sn} (kt : SnOk h bs.length t) {row : List (Nat × Str)} (hr : RowOk h bs.length row) : f_law_gone [h.enc, eBs bs, t.enc, .list (row.map eCm)] = .ok (.fz (if (walkP h bs t row).length = row.length then (lastP t (walkP h bs t row)).enc else .int ((walkP h bs t row).length : Int))) := by
  have hsp : m_law_gone = mSeq (mFor ⟨[.ex (mVar 3)], itEnum⟩ (.tp [.nm 4, .tp [.nm 5, .nm 6]]) lgB) (mRet (mMove 2)) := rfl
  have hop : evalOps [.ex (mVar 3)] (lgE h bs t (.list (row.map eCm)) .no .no .no) = .ok ([.va (.list (row.map eCm))], lgE h bs t (.list (row.map eCm)) .no .no .no) := rfl
  have hst : ([h.enc, eBs bs, t.enc, .list (row.map eCm)] : List Da).map Sl.fz ++ List.replicate 3 .no = lgE h bs t (.list (row.map eCm)) .no .no .no := rfl
  unfold f_law_gone
  rw [hsp, fnP_eq, hst, ev_seq]
  rcases lg_loop kh hb3 (.list (row.map eCm)) (.list (row.map eCm)) row 0 t .no .no .no hr kt with ⟨a, b, c, e, e2⟩ | ⟨en', e, e2⟩
  · rw [mfor_of (it := ⟨[.ex (mVar 3)], itEnum⟩) hop rfl rfl e, if_pos e2]
    simp [lgE]
  · rw [mfor_of (it := ⟨[.ex (mVar 3)], itEnum⟩) hop rfl rfl e, if_neg (by omega)]
    simp
end
end Mi
set_option Elab.async false
set_option linter.all false
set_option maxRecDepth 100000
set_option autoImplicit false
/-! nexts by kind; rows drawn -/
namespace Mi
open PySem PySem.Spec PyProof.Rows L2 Sh

def nxT (h : Hs) (bs : List Int) (t : Sn) : List (Nat × Str × Sn) := (List.range bs.length).flatMap fun b => h.names.filterMap fun z => (comeP h bs t b z).map fun t' => (b, z, t')
def eNx (q : Nat × Str × Sn) : Da := .tuple [.int (q.1 : Int), .str q.2.1, q.2.2.enc]
theorem nxB_eq (h : Hs) (bs : List Int) (t : Sn) (b : Nat) : ∀ zs : List Str, nxB h bs t b zs = (zs.filterMap fun z => (comeP h bs t b z).map fun t' => (b, z, t')).map eNx
  | [] => rfl
  | z :: zs => by
    have ih := nxB_eq h bs t b zs
    unfold nxB at ih ⊢
    rw [List.map_cons, List.flatten_cons, ih]
    unfold nxOne
    cases hc : comeP h bs t b z <;> simp [hc, eNx]
theorem nxP_eq (h : Hs) (bs : List Int) (t : Sn) : nxP h bs t = (nxT h bs t).map eNx := by
  unfold nxP nxT
  rw [List.map_flatMap, List.flatMap_def]
  congr 1
  exact List.map_congr_left fun b _ => nxB_eq h bs t b h.names
theorem mem_nxT {h : Hs} {bs : List Int} {t : Sn} {b : Nat} {z : Str} {t' : Sn} : (b, z, t') ∈ nxT h bs t ↔ b < bs.length ∧ z ∈ h.names ∧ comeP h bs t b z = some t' := by
  unfold nxT
  simp only [List.mem_flatMap, List.mem_range, List.mem_filterMap, Option.map_eq_some_iff, Prod.mk.injEq]
  constructor
  · rintro ⟨b', hb, z', hz, t2, ht, rfl, rfl, rfl⟩
    exact ⟨hb, hz, ht⟩
  · rintro ⟨hb, hz, ht⟩
    exact ⟨b, hb, z, hz, t', ht, rfl, rfl, rfl⟩
theorem nxT_len {h : Hs} (kh : HsOk h) {bs : List Int} (hb3 : bs.length ≤ 3) (t : Sn) : (nxT h bs t).length ≤ 15 := by
  have h5 := kh.n5
  rw [← names_len] at h5
  unfold nxT
  rw [List.length_flatMap]
  have : ∀ ks : List Nat, (ks.map fun b => (h.names.filterMap fun z => (comeP h bs t b z).map fun t' => (b, z, t')).length).sum ≤ 5 * ks.length := fun ks => by
    induction ks with
    | nil => simp
    | cons k ks ih =>
      have := List.length_filterMap_le (fun z => (comeP h bs t k z).map fun t' => (k, z, t')) h.names
      simp only [List.map_cons, List.sum_cons, List.length_cons]
      omega
  have := this (List.range bs.length)
  rw [List.length_range] at this
  omega
theorem plain_cm (p : Nat × Str) : (eCm p).plain = true := rfl
theorem plain_cms (l : List (Nat × Str)) : PyData.plainAll (l.map eCm) = true := plainAll_iff.mpr fun x hx => by
  obtain ⟨p, _, rfl⟩ := List.mem_map.mp hx
  rfl
def rwE (h : Hs) (bs : List Int) (most : Int) (dk : List Da) (t : Sn) (L : List Da) (s6 s7 s8 s9 : Sl) : En := [.ow (.list dk), .fz h.enc, .fz (eBs bs), .fz t.enc, .fz (.int most), .ow (.list L), s6, s7, s8, s9, .no]
noncomputable def rw1 : MS := mSet 7 (mLc ⟨[.ex (mCall (f_law_nexts) [.sl 1, .sl 2, .sl 3])], itSeq⟩ (.nm 10) (mYes) (mPure opSlHi [.sl 10, .ex (mK (.int 2))]) [10])
noncomputable def rw2 : MS := mCond (mOr (mTE (mPure opEq [.sl 7, .ex (mPure opLst (exs []))])) (mTE (mPure opEq [.ex (mCallD (f_law_pick) 0 [.ex (mK (.int 15))]), .ex (mK (.int 0))]))) (mSet 7 (mPure opLst (exs [mPure opTup (exs [mCallD (f_law_pick) 0 [.ex (mPure opLen [.sl 2])], mPure opIx [.ex (mCallD (f_law_one) 0 [.ex (mPure opIx [.sl 1, .ex (mK (.int 0))])]), .ex (mK (.int 0))]])]))) (mSkip)
noncomputable def rw3 : MS := mSet 8 (mCallD (f_law_one) 0 [.sl 7])
noncomputable def rw4 : MS := mSet 9 (mCall (f_law_come) [.sl 1, .sl 2, .sl 3, .ex (mPure opIx [.sl 8, .ex (mK (.int 0))]), .ex (mPure opIx [.sl 8, .ex (mK (.int 1))])])
noncomputable def rw5 : MS := mSet 3 (mIf (mTE (mPure opIsNot [.sl 9, .ex (mK (.none))])) (mVar 9) (mVar 3))
noncomputable def rwB : MS := mSeq rw1 (mSeq rw2 (mSeq rw3 (mSeq rw4 (mSeq rw5 (mAppend 5 (mVar 8))))))
section
variable {h : Hs} (kh : HsOk h) {bs : List Int} (kb : BsOk bs)
include kh kb
theorem rw1_ok (most : Int) (dk : List Da) {t : Sn} (kt : SnOk h bs.length t) (L : List Da) (s6 s7 s8 s9 : Sl) :
    rw1 (rwE h bs most dk t L s6 s7 s8 s9) = .ok (.nx, rwE h bs most dk t L s6 (.ow (.list ((nxT h bs t).map fun q => eCm (q.1, q.2.1)))) s8 s9) := by
  have e := e_law_nexts kh kb.n3 kt
  rw [nxP_eq] at e
  have hl := nxT_len kh kb.n3 t
  have hlc : mLc ⟨[.ex (mCall (f_law_nexts) [.sl 1, .sl 2, .sl 3])], itSeq⟩ (.nm 10) (mYes) (mPure opSlHi [.sl 10, .ex (mK (.int 2))]) [10] (rwE h bs most dk t L s6 s7 s8 s9) = .ok (.ow (.list (((nxT h bs t).map eNx).map take2)), rwE h bs most dk t L s6 s7 s8 s9) := by
    refine Sh.lc_mapS (os := [.va (.list ((nxT h bs t).map eNx))]) (ds := [.list ((nxT h bs t).map eNx)]) take2 ?_ rfl rfl rfl rfl rfl rfl (by rw [List.length_map]; omega) fun d hd => ?_
    · simp [rwE, e]
    · obtain ⟨q, _, rfl⟩ := List.mem_map.mp hd
      exact ⟨_, .fz (take2 (eNx q)), rfl, rfl, rfl, rfl⟩
  have hm : ((nxT h bs t).map eNx).map take2 = (nxT h bs t).map fun q => eCm (q.1, q.2.1) := by
    rw [List.map_map]
    rfl
  rw [hm] at hlc
  unfold rw1
  rw [ev_mset, hlc]
  rfl
theorem rw2_ok (most : Int) {t : Sn} (L : List Da) (s6 s8 s9 : Sl) (cs : List (Nat × Str)) (hc : RowOk h bs.length cs) (hl : cs.length ≤ 1000) (n : Nat) (dk : List Da) (hn : n + 3 ≤ 100000000) (hk : DkOk n dk) :
    ∃ cs' dk', rw2 (rwE h bs most dk t L s6 (.ow (.list (cs.map eCm))) s8 s9) = .ok (.nx, rwE h bs most dk' t L s6 (.ow (.list (cs'.map eCm))) s8 s9) ∧ cs' ≠ [] ∧ RowOk h bs.length cs' ∧ cs'.length ≤ 1000 ∧ DkOk (n + 3) dk' := by
  have heq := op_eq_nil (cs.map eCm) (plain_cms cs)
  have hln : opLen [eBs bs] = some (.fz (.int (bs.length : Int))) := by
    show some (Sl.fz (.int ((bs.map dint).length : Int))) = _
    rw [List.length_map]
  have h1 := kb.n1
  have h3 := kb.n3
  have h5 := kh.n5
  -- the other draw
  have other : ∀ m dk1, m + 2 ≤ 100000000 → DkOk m dk1 → ∃ (p : Nat × Str) (dk2 : List Da), mSet 7 (mPure opLst (exs [mPure opTup (exs [mCallD (f_law_pick) 0 [.ex (mPure opLen [.sl 2])], mPure opIx [.ex (mCallD (f_law_one) 0 [.ex (mPure opIx [.sl 1, .ex (mK (.int 0))])]), .ex (mK (.int 0))]])])) (rwE h bs most dk1 t L s6 (.ow (.list (cs.map eCm))) s8 s9) = .ok (.nx, rwE h bs most dk2 t L s6 (.ow (.list [eCm p])) s8 s9) ∧ p.1 < bs.length ∧ p.2 ∈ h.names ∧ DkOk (m + 2) dk2 := fun m dk1 hm hk1 => by
    obtain ⟨s, dk2, e1, ⟨v, rfl, v0, v1⟩, k2⟩ := e_pick (bs.length : Int) (by omega) (by omega) m dk1 (by omega) hk1
    obtain ⟨s, dk3, e2, ⟨x, hx, rfl⟩, k3⟩ := e_one (h.rooms.map eRoom) (.tuple (h.rooms.map eRoom)) (.inr rfl) (by simpa using kh.n1) (by rw [List.length_map]; omega) (m + 1) dk2 (by omega) k2
    obtain ⟨r, hr, rfl⟩ := List.mem_map.mp hx
    obtain ⟨j, rfl⟩ := Int.eq_ofNat_of_zero_le v0
    refine ⟨(j, r.1), dk3, ?_, by simp; omega, List.mem_map.mpr ⟨r, hr, rfl⟩, k3⟩
    have e2' : f_law_one dk2 [.tuple (h.rooms.map eRoom)] = .ok (.fz (.tuple [.str r.1, .int r.2.1, .int r.2.2]), dk3) := e2
    simp [rwE, hln, e1, e2', eCm]
  have hl1 : ∀ p : Nat × Str, ([p] : List (Nat × Str)).map eCm = [eCm p] := fun _ => rfl
  by_cases h0 : cs = []
  · obtain ⟨p, dk2, e1, g1, g2, k2⟩ := other n dk (by omega) hk
    refine ⟨[p], dk2, ?_, by simp, fun q hq => by simp at hq; subst hq; exact ⟨g1, g2⟩, by simp, k2.mono (by omega)⟩
    rw [hl1, ← e1]
    subst h0
    unfold rw2 rwE
    rw [ev_cond, ev_or]
    simp [heq] at *
    rw [heq]
    simp
  · have hne : (cs.map eCm).isEmpty = false := by
      cases cs with
      | nil => exact absurd rfl h0
      | cons a b => rfl
    rw [hne] at heq
    obtain ⟨s, dk1, e0, ⟨v, rfl, v0, v1⟩, k1⟩ := e_pick 15 (by decide) (by decide) n dk (by omega) hk
    by_cases hv : v = 0
    · obtain ⟨p, dk2, e1, g1, g2, k2⟩ := other (n + 1) dk1 (by omega) k1
      refine ⟨[p], dk2, ?_, by simp, fun q hq => by simp at hq; subst hq; exact ⟨g1, g2⟩, by simp, k2⟩
      rw [hl1, ← e1]
      subst hv
      generalize cs.map eCm = C at heq
      unfold rw2
      rw [ev_cond, ev_or]
      have ht : mTE (mPure opEq [.sl 7, .ex (mPure opLst (exs []))]) (rwE h bs most dk t L s6 (.ow (.list C)) s8 s9) = .ok (false, rwE h bs most dk t L s6 (.ow (.list C)) s8 s9) := by
        simp [rwE, heq]
      have ht2 : mTE (mPure opEq [.ex (mCallD (f_law_pick) 0 [.ex (mK (.int 15))]), .ex (mK (.int 0))]) (rwE h bs most dk t L s6 (.ow (.list C)) s8 s9) = .ok (true, rwE h bs most dk1 t L s6 (.ow (.list C)) s8 s9) := by
        simp [rwE, e0]
      rw [ht]
      simp only [ev_bok, ht2]
      simp
    · refine ⟨cs, dk1, ?_, h0, hc, hl, k1.mono (by omega)⟩
      generalize cs.map eCm = C at heq
      unfold rw2
      rw [ev_cond, ev_or]
      have ht : mTE (mPure opEq [.sl 7, .ex (mPure opLst (exs []))]) (rwE h bs most dk t L s6 (.ow (.list C)) s8 s9) = .ok (false, rwE h bs most dk t L s6 (.ow (.list C)) s8 s9) := by
        simp [rwE, heq]
      have ht2 : mTE (mPure opEq [.ex (mCallD (f_law_pick) 0 [.ex (mK (.int 15))]), .ex (mK (.int 0))]) (rwE h bs most dk t L s6 (.ow (.list C)) s8 s9) = .ok (false, rwE h bs most dk1 t L s6 (.ow (.list C)) s8 s9) := by
        simp [rwE, e0, hv]
      rw [ht]
      simp only [ev_bok, ht2]
      simp
theorem rwB_ok (most : Int) {t : Sn} (kt : SnOk h bs.length t) (row : List (Nat × Str)) (hr : RowOk h bs.length row) (hl : row.length ≤ 1000) (s6 s7 s8 s9 : Sl) (n : Nat) (dk : List Da) (hn : n + 4 ≤ 100000000) (hk : DkOk n dk) :
    ∃ (p : Nat × Str) (t' : Sn) (dk' : List Da) (s7' s8' s9' : Sl), rwB (rwE h bs most dk t (row.map eCm) s6 s7 s8 s9) = .ok (.nx, rwE h bs most dk' t' ((row ++ [p]).map eCm) s6 s7' s8' s9') ∧ p.1 < bs.length ∧ p.2 ∈ h.names ∧ SnOk h bs.length t' ∧ DkOk (n + 4) dk' := by
  have e1 := rw1_ok kh kb most dk kt (row.map eCm) s6 s7 s8 s9
  have hcm : (nxT h bs t).map (fun q => eCm (q.1, q.2.1)) = ((nxT h bs t).map fun q => (q.1, q.2.1)).map eCm := by
    rw [List.map_map]
    rfl
  rw [hcm] at e1
  have hro : RowOk h bs.length ((nxT h bs t).map fun q => (q.1, q.2.1)) := fun p hp => by
    obtain ⟨⟨b, z, u⟩, hq, rfl⟩ := List.mem_map.mp hp
    obtain ⟨g1, g2, _⟩ := mem_nxT.mp hq
    exact ⟨g1, g2⟩
  have hnl := nxT_len kh kb.n3 t
  obtain ⟨cs, dk1, e2, hne, hcs, hcl, k1⟩ := rw2_ok kh kb most (t := t) (row.map eCm) s6 s8 s9 _ hro (by rw [List.length_map]; omega) n dk (by omega) hk
  obtain ⟨s, dk2, e3, ⟨x, hx, rfl⟩, k2⟩ := e_one (cs.map eCm) (.list (cs.map eCm)) (.inl rfl) (by simpa using hne) (by rw [List.length_map]; omega) (n + 3) dk1 (by omega) k1
  obtain ⟨p, hp, rfl⟩ := List.mem_map.mp hx
  obtain ⟨g1, g2⟩ := hcs p hp
  have e4 := e_law_come kh kb.n3 kt g1 g2
  have hlen : (row.map eCm).length < 1000000 := by rw [List.length_map]; omega
  have hap : (row ++ [p]).map eCm = row.map eCm ++ [eCm p] := by simp
  have h3 : rw3 (rwE h bs most dk1 t (row.map eCm) s6 (.ow (.list (cs.map eCm))) s8 s9) = .ok (.nx, rwE h bs most dk2 t (row.map eCm) s6 (.fz (.list (cs.map eCm))) (.fz (eCm p)) s9) := by
    generalize cs.map eCm = C at e3
    simp [rw3, rwE, e3]
  have h4 : ∀ S, rw4 (rwE h bs most dk2 t (row.map eCm) s6 S (.fz (eCm p)) s9) = .ok (.nx, rwE h bs most dk2 t (row.map eCm) s6 S (.fz (eCm p)) (.fz (encO (comeP h bs t p.1 p.2)))) := fun S => by
    unfold eCm at *
    cases hc : comeP h bs t p.1 p.2 with
    | none =>
      rw [hc] at e4
      simp [rw4, rwE, e4, encO]
    | some u =>
      rw [hc] at e4
      have e4' : f_law_come [h.enc, eBs bs, t.enc, .int (p.1 : Int), .str p.2] = .ok (.fz (.tuple [.tuple (u.places.map dstr), .tuple (u.sizes.map dint)])) := e4
      simp [rw4, rwE, e4']
      rfl
  have hB : rwB (rwE h bs most dk t (row.map eCm) s6 s7 s8 s9) = mSeq rw5 (mAppend 5 (mVar 8)) (rwE h bs most dk2 t (row.map eCm) s6 (.fz (.list (cs.map eCm))) (.fz (eCm p)) (.fz (encO (comeP h bs t p.1 p.2)))) := by
    unfold rwB
    rw [ev_seq, e1]
    simp only [ev_bok]
    rw [ev_seq, e2]
    simp only [ev_bok]
    rw [ev_seq, h3]
    simp only [ev_bok]
    rw [ev_seq, h4]
    simp only [ev_bok]
  rw [hB]
  generalize cs.map eCm = C
  cases hc : comeP h bs t p.1 p.2 with
  | none =>
    have i1 : opIsNot [.none, .none] = some (.fz (.bool false)) := rfl
    refine ⟨p, t, dk2, .fz (.list C), .fz (eCm p), .fz .none, ?_, g1, g2, kt, k2⟩
    rw [hap]
    generalize row.map eCm = R at hlen
    simp [rw5, rwE, encO, i1, hlen]
  | some u =>
    have i1 : ∀ ds : List Da, opIsNot [.tuple ds, .none] = some (.fz (.bool true)) := fun _ => rfl
    refine ⟨p, u, dk2, .fz (.list C), .fz (eCm p), .fz u.enc, ?_, g1, g2, come_ok kh kt g1 g2 hc, k2⟩
    have hu : encO (some u) = .tuple [.tuple (u.places.map dstr), .tuple (u.sizes.map dint)] := rfl
    rw [hap, hu]
    generalize row.map eCm = R at hlen
    simp [rw5, rwE, i1, hlen]
    rfl
theorem e_row {t : Sn} (kt : SnOk h bs.length t) (most : Nat) (hm : most ≤ 100) : Dr f_law_row [h.enc, eBs bs, t.enc, .int (most : Int)] (4 * most + 1) fun s => ∃ row : List (Nat × Str), s = .ow (.list (row.map eCm)) ∧ RowOk h bs.length row ∧ row.length ≤ most := by
  intro n dk hn hk
  obtain ⟨s, dk1, e1, ⟨v, rfl, v0, v1⟩, k1⟩ := e_pick ((most : Int) + 1) (by omega) (by omega) n dk (by omega) hk
  obtain ⟨j, rfl⟩ := Int.eq_ofNat_of_zero_le v0
  have hj : j ≤ most := by omega
  have hsp : m_law_row = mSeq (mSet 5 (mPure opLst (exs []))) (mSeq (mFor ⟨[.ex (mCallD (f_law_pick) 0 [.ex (mPure opAdd [.sl 4, .ex (mK (.int 1))])])], itRng⟩ (.nm 6) rwB) (mRet (mMove 5))) := rfl
  have h1 : mSet 5 (mPure opLst (exs [])) (.ow (.list dk) :: ([h.enc, eBs bs, t.enc, .int (most : Int)] : List Da).map .fz ++ List.replicate 6 .no) = .ok (.nx, rwE h bs most dk t [] .no .no .no .no) := rfl
  have hop : evalOps [.ex (mCallD (f_law_pick) 0 [.ex (mPure opAdd [.sl 4, .ex (mK (.int 1))])])] (rwE h bs most dk t [] .no .no .no .no) = .ok ([.va (.int (j : Int))], rwE h bs most dk1 t [] .no .no .no .no) := by
    simp [rwE, e1]
  have hr := itRng_nat j (by omega)
  obtain ⟨en', e2, ⟨m, dk2, t2, row, s6, s7, s8, s9, rfl, hm2, hk2, kt2, hro, hrl⟩⟩ := for_rel (ι := Nat) (enc := fun k : Nat => .int (k : Int)) (D := .int (j : Int)) (t := .nm 6) (body := rwB)
    (fun r en => ∃ (m : Nat) (dk2 : List Da) (t2 : Sn) (row : List (Nat × Str)) (s6 s7 s8 s9 : Sl), en = rwE h bs most dk2 t2 (row.map eCm) s6 s7 s8 s9 ∧ m + 4 * r.length ≤ n + 1 + 4 * j ∧ DkOk m dk2 ∧ SnOk h bs.length t2 ∧ RowOk h bs.length row ∧ row.length + r.length ≤ j)
    (fun x r en hI => by
      obtain ⟨m, dk2, t2, row, s6, s7, s8, s9, rfl, hm2, hk2, kt2, hro, hrl⟩ := hI
      have hrl' : row.length + (r.length + 1) ≤ j := hrl
      have hm2' : m + 4 * (r.length + 1) ≤ n + 1 + 4 * j := hm2
      obtain ⟨p, t', dk', a, b, c, e, g1, g2, g3, g4⟩ := rwB_ok kh kb most kt2 row hro (by omega) (.fz (.int (x : Int))) s7 s8 s9 m dk2 (by omega) hk2
      refine ⟨_, _, rfl, e, m + 4, dk', t', row ++ [p], _, a, b, c, rfl, by omega, g4, g3, fun q hq => ?_, by simp; omega⟩
      rcases List.mem_append.mp hq with hq | hq
      · exact hro q hq
      · simp at hq
        subst hq
        exact ⟨g1, g2⟩)
    (List.range j) (rwE h bs most dk1 t [] .no .no .no .no) ⟨n + 1, dk1, t, [], .no, .no, .no, .no, rfl, by simp, k1, kt, fun q hq => by simp at hq, by simp⟩
  simp at hm2 hrl
  refine ⟨.ow (.list (row.map eCm)), dk2, ?_, ⟨row, rfl, hro, by omega⟩, hk2.mono (by omega)⟩
  unfold f_law_row
  rw [hsp, fnD_eq, ev_seq, h1]
  simp only [ev_bok, ev_seq]
  rw [mfor_of (it := ⟨[.ex (mCallD (f_law_pick) 0 [.ex (mPure opAdd [.sl 4, .ex (mK (.int 1))])])], itRng⟩) hop rfl hr e2]
  simp [rwE]
end
end Mi
set_option Elab.async false
set_option linter.all false
set_option maxRecDepth 100000
set_option autoImplicit false
/-! depths; the frame of a law -/
namespace Mi
open PySem PySem.Spec PyProof.Rows L2 Sh

theorem fl_depth {α : Type} (f : α → Da) {n : Nat} (hf : ∀ a, (f a).depth ≤ n) (l : List α) : (PyData.tuple (l.map f)).depth ≤ n + 1 ∧ (PyData.list (l.map f)).depth ≤ n + 1 := by
  have : PyData.depthAll (l.map f) ≤ n := depthAll_le.mpr fun x hx => by
    obtain ⟨a, _, rfl⟩ := List.mem_map.mp hx
    exact hf a
  rw [PyData.depth, PyData.depth]
  omega
theorem tup_depth {xs : List Da} {n : Nat} (h : ∀ x ∈ xs, x.depth ≤ n) : (PyData.tuple xs).depth ≤ n + 1 ∧ (PyData.list xs).depth ≤ n + 1 := by
  have : PyData.depthAll xs ≤ n := depthAll_le.mpr h
  rw [PyData.depth, PyData.depth]
  omega
theorem sn_dep (t : Sn) : t.enc.depth ≤ 2 := (tup_depth fun x hx => by
  simp only [List.mem_cons, List.not_mem_nil, or_false] at hx
  rcases hx with rfl | rfl
  · exact (fl_depth dstr (n := 0) (fun _ => Nat.le_refl _) _).1
  · exact (fl_depth dint (n := 0) (fun _ => Nat.le_refl _) _).1).1
theorem nx_dep (q : Nat × Str × Sn) : (eNx q).depth ≤ 3 := (tup_depth fun x hx => by
  simp only [List.mem_cons, List.not_mem_nil, or_false] at hx
  rcases hx with rfl | rfl | rfl
  · exact Nat.zero_le _
  · exact Nat.zero_le _
  · exact sn_dep _).1
theorem cm_dep (p : Nat × Str) : (eCm p).depth ≤ 1 := (tup_depth fun x hx => by
  simp only [List.mem_cons, List.not_mem_nil, or_false] at hx
  rcases hx with rfl | rfl
  · exact Nat.zero_le _
  · exact Nat.zero_le _).1
theorem wf_int {i : Int} {l : Nat} (h1 : -1000 ≤ i) (h2 : i ≤ 1000) : Wf l (.int i) = true := wf_small h1 h2
theorem wf_name {h : Hs} (kh : HsOk h) {z : Str} (hz : z ∈ h.names) : Wf 100 (.str z) = true := by
  have := kh.nlen hz
  simp [Wf]
  omega
theorem wf_tp {l : Nat} {xs : List Da} (hl : xs.length ≤ l) (h : ∀ x ∈ xs, Wf l x = true) : Wf l (.tuple xs) = true := (wf_lst hl h).1
theorem wf_ls {l : Nat} {xs : List Da} (hl : xs.length ≤ l) (h : ∀ x ∈ xs, Wf l x = true) : Wf l (.list xs) = true := (wf_lst hl h).2
theorem cm_wf {h : Hs} (kh : HsOk h) {nb : Nat} (hn : nb ≤ 3) {p : Nat × Str} (h1 : p.1 < nb) (h2 : p.2 ∈ h.names) : Wf 100 (eCm p) = true := wf_tp (by simp) fun x hx => by
  simp only [List.mem_cons, List.not_mem_nil, or_false] at hx
  rcases hx with rfl | rfl
  · exact wf_int (by omega) (by omega)
  · exact wf_name kh h2
theorem nx_wf {h : Hs} (kh : HsOk h) {bs : List Int} (hb3 : bs.length ≤ 3) {t : Sn} (kt : SnOk h bs.length t) {q : Nat × Str × Sn} (hq : q ∈ nxT h bs t) : Wf 100 (eNx q) = true := wf_tp (by simp) fun x hx => by
  obtain ⟨b, z, u⟩ := q
  obtain ⟨h1, h2, h3⟩ := mem_nxT.mp hq
  simp only [List.mem_cons, List.not_mem_nil, or_false] at hx
  rcases hx with rfl | rfl | rfl
  · exact wf_int (by omega) (by omega)
  · exact wf_name kh h2
  · exact sn_wf kh hb3 (come_ok kh kt h1 h2 h3)
theorem nxs_wf {h : Hs} (kh : HsOk h) {bs : List Int} (hb3 : bs.length ≤ 3) {t : Sn} (kt : SnOk h bs.length t) : Wf 100 (.list ((nxT h bs t).map eNx)) = true := wf_ls (by have := nxT_len kh hb3 t; rw [List.length_map]; omega) fun x hx => by
  obtain ⟨q, hq, rfl⟩ := List.mem_map.mp hx
  exact nx_wf kh hb3 kt hq
/-- a thing is the same as itself -/
theorem same_self {d : Da} (hw : Wf 100000 d = true) (hd : d.depth ≤ 11) : r_law_same 12 [d, d] = .ok (.fz (.bool true)) := same_refl (l := 100000) (by decide) 11 d hw hd (by omega)
/-- the law's outer loop -/
theorem law_loop {mb : MS} {N : Nat} (Inv : En → Prop) (hb : ∀ (c : Int) (en : En), Inv en → ∃ en', mb (en.set 1 (.fz (.int c))) = .ok (.nx, en') ∧ Inv en') (ns : List Int) (k : Nat) (h0 : Inv (List.replicate N .no)) :
    ∃ en', mFor ⟨[.ex (mScr (cutD ((0 :: ns).map PyData.int) none (some (k : Int))))], itSeq⟩ (.nm 1) mb (List.replicate N .no) = .ok (.nx, en') ∧ Inv en' := by
  rw [Sh.cutD_hi, ← List.map_take]
  obtain ⟨en', e, hI⟩ := for_rel (ι := Int) (enc := PyData.int) (D := .list (((0 :: ns).take k).map PyData.int)) (t := .nm 1) (body := mb) (fun _ en => Inv en) (fun c r en h => by
    obtain ⟨en', e, hI⟩ := hb c en h
    exact ⟨_, en', rfl, e, hI⟩) ((0 :: ns).take k) (List.replicate N .no) h0
  exact ⟨en', mfor_of (it := ⟨[.ex (mScr (((0 :: ns).take k).map PyData.int))], itSeq⟩) rfl rfl rfl e, hI⟩
end Mi
set_option Elab.async false
set_option linter.all false
set_option maxRecDepth 100000
set_option autoImplicit false
/-! what a row needs: plain -/
namespace Mi
open PySem PySem.Spec PyProof.Rows L2 Sh

theorem szAt_set_self {h : Hs} {l : List Int} {z : Str} (v : Int) (hz : z ∈ h.names) (hl : l.length = h.rooms.length) : szAt h (l.set (at' h.names z) v) z = v := by
  have hlt : at' h.names z < l.length := by rw [hl, ← names_len]; exact at_lt hz
  unfold szAt
  rw [List.getElem?_set_self hlt]
  rfl
theorem szAt_set_ne {h : Hs} {l : List Int} {y z : Str} (v : Int) (hy : y ∈ h.names) (hz : z ∈ h.names) (hne : y ≠ z) : szAt h (l.set (at' h.names z) v) y = szAt h l y := by
  unfold szAt
  rw [List.getElem?_set_ne (fun e => hne (at_inj hz hy e).symm)]
theorem szAt_set {h : Hs} {l : List Int} {y z : Str} (v : Int) (hy : y ∈ h.names) (hz : z ∈ h.names) (hl : l.length = h.rooms.length) : szAt h (l.set (at' h.names z) v) y = if y = z then v else szAt h l y := by
  split
  · rename_i e
    subst e
    exact szAt_set_self v hz hl
  · rename_i e
    exact szAt_set_ne v hy hz e
structure SzOk (h : Hs) (sz : List Int) : Prop where
  len : sz.length = h.rooms.length
  lo : ∀ y ∈ h.names, 0 ≤ szAt h sz y
  hi : ∀ y ∈ h.names, szAt h sz y ≤ capAt h y
theorem szAt_get {h : Hs} (kh : HsOk h) {sz : List Int} (hl : sz.length = h.rooms.length) {k : Nat} (hk : k < h.names.length) : sz[k]? = some (szAt h sz h.names[k]) := by
  unfold szAt
  rw [at_nodup kh.nd hk]
  have : k < sz.length := by rw [hl, ← names_len]; exact hk
  rw [List.getElem?_eq_getElem this]
  rfl
theorem capAt_get {h : Hs} (kh : HsOk h) {k : Nat} (hk : k < h.names.length) : h.caps[k]? = some (capAt h h.names[k]) := by
  unfold capAt
  rw [at_nodup kh.nd hk]
  have : k < h.caps.length := by rw [caps_len', ← names_len]; exact hk
  rw [List.getElem?_eq_getElem this]
  rfl
theorem szOk_of {h : Hs} (kh : HsOk h) {nb : Nat} {t : Sn} (kt : SnOk h nb t) : SzOk h t.sizes := by
  have key : ∀ y ∈ h.names, 0 ≤ szAt h t.sizes y ∧ szAt h t.sizes y ≤ capAt h y := fun y hy => by
    have hlt := at_lt hy
    have e1 := szAt_get kh kt.sn hlt
    have e2 := capAt_get kh hlt
    have hn : h.names[at' h.names y] = y := by
      have := at_get hy
      rw [List.getElem?_eq_getElem hlt] at this
      exact Option.some.inj this
    rw [hn] at e1 e2
    exact kt.sz _ _ _ e1 e2
  exact ⟨kt.sn, fun y hy => (key y hy).1, fun y hy => (key y hy).2⟩
theorem snOk_of {h : Hs} (kh : HsOk h) {nb : Nat} {t : Sn} (pn : t.places.length = nb) (pl : ∀ p ∈ t.places, p ∈ h.names) (ks : SzOk h t.sizes) : SnOk h nb t := by
  refine ⟨pn, pl, ks.len, fun i x c hx hc => ?_⟩
  have hi : i < h.names.length := by
    have := (List.getElem?_eq_some_iff.mp hx).1
    rw [names_len, ← ks.len]
    exact this
  have e1 := szAt_get kh ks.len hi
  have e2 := capAt_get kh hi
  rw [hx] at e1
  rw [hc] at e2
  cases e1
  cases e2
  exact ⟨ks.lo _ (List.getElem_mem hi), ks.hi _ (List.getElem_mem hi)⟩
/-- where a coming leads, room by room -/
theorem cSz_at {h : Hs} (kh : HsOk h) {sz : List Int} (ks : SzOk h sz) (x : Str) {z y : Str} (hz : z ∈ h.names) (hy : y ∈ h.names) :
    szAt h (cSz h x z sz) y = if y = z then mx0 (mn (capAt h y) (szAt h sz y + moreL h.gains x y) - lossAt h y) else mn (capAt h y) (szAt h sz y + moreL h.gains x y) := by
  have ga := fun y hy => gained_at kh x y hy h.gains sz kh.gnd (fun g hg => (kh.gain g hg).2.1) ks.len (ks.hi y hy)
  unfold cSz
  rw [szAt_set _ hy hz (by rw [gainedL_len, ks.len])]
  split
  · rename_i e
    subst e
    rw [ga y hy]
  · exact ga y hy
/-! the gains, backwards -/
def gN (h : Hs) (x : Str) : List (Str × Str × Int) → List Int → Option (List Int)
  | [], l => some l
  | g :: gs, l => if g.1 = x then (if capAt h g.2.1 < szAt h l g.2.1 then none else gN h x gs (l.set (at' h.names g.2.1) (mx0 (szAt h l g.2.1 - g.2.2)))) else gN h x gs l
theorem mx0_nonneg (v : Int) : 0 ≤ mx0 v := by unfold mx0; split <;> omega
theorem mx0_le {v w : Int} (h1 : v ≤ w) (h2 : 0 ≤ w) : mx0 v ≤ w := by unfold mx0; split <;> omega
theorem gN_some {h : Hs} (x : Str) : ∀ (gs : List (Str × Str × Int)) (l : List Int), (gs.map gKey).Nodup → (∀ g ∈ gs, g.2.1 ∈ h.names) → l.length = h.rooms.length → (∀ y ∈ h.names, 0 ≤ szAt h l y) → (∀ g ∈ gs, g.1 = x → szAt h l g.2.1 ≤ capAt h g.2.1) →
    ∃ l', gN h x gs l = some l' ∧ l'.length = h.rooms.length ∧ ∀ y ∈ h.names, szAt h l' y = mx0 (szAt h l y - moreL gs x y)
  | [], l, _, _, hl, h0, _ => ⟨l, rfl, hl, fun y hy => by
      have := h0 y hy
      show _ = mx0 (szAt h l y - 0)
      unfold mx0
      split <;> omega⟩
  | g :: gs, l, nd, hg, hl, h0, hc => by
    obtain ⟨nd1, nd2⟩ := List.nodup_cons.mp nd
    have hg0 := hg g (by simp)
    by_cases e1 : g.1 = x
    · have hcap := hc g (by simp) e1
      have hl' : (l.set (at' h.names g.2.1) (mx0 (szAt h l g.2.1 - g.2.2))).length = h.rooms.length := by rw [List.length_set, hl]
      have h0' : ∀ y ∈ h.names, 0 ≤ szAt h (l.set (at' h.names g.2.1) (mx0 (szAt h l g.2.1 - g.2.2))) y := fun y hy => by
        rw [szAt_set _ hy hg0 hl]
        split
        · exact mx0_nonneg _
        · exact h0 y hy
      have hne : ∀ q ∈ gs, q.1 = x → q.2.1 ≠ g.2.1 := fun q hq e2 e3 => nd1 (List.mem_map.mpr ⟨q, hq, by unfold gKey; rw [e2, e3, e1]⟩)
      obtain ⟨l', e, len, at'⟩ := gN_some x gs _ nd2 (fun q hq => hg q (by simp [hq])) hl' h0' (fun q hq e2 => by
        rw [szAt_set_ne _ (hg q (by simp [hq])) hg0 (hne q hq e2)]
        exact hc q (by simp [hq]) e2)
      refine ⟨l', ?_, len, fun y hy => ?_⟩
      · rw [gN, if_pos e1, if_neg (by omega)]
        exact e
      · rw [at' y hy, szAt_set _ hy hg0 hl, more_cons]
        by_cases ey : y = g.2.1
        · subst ey
          have hk : gKey g = (x, g.2.1) := by unfold gKey; rw [e1]
          rw [if_pos rfl, if_pos hk, more_zero (by rw [← hk]; exact nd1)]
          have := mx0_nonneg (szAt h l g.2.1 - g.2.2)
          generalize szAt h l g.2.1 = a at *
          unfold mx0 at *
          split at this <;> simp <;> split <;> omega
        · have hk : gKey g ≠ (x, y) := fun e => ey (congrArg Prod.snd e).symm
          rw [if_neg ey, if_neg hk, Int.zero_add]
    · obtain ⟨l', e, len, at'⟩ := gN_some x gs l nd2 (fun q hq => hg q (by simp [hq])) hl h0 (fun q hq e2 => hc q (by simp [hq]) e2)
      refine ⟨l', by rw [gN, if_neg e1]; exact e, len, fun y hy => ?_⟩
      have hk : gKey g ≠ (x, y) := fun e => e1 (congrArg Prod.fst e)
      rw [at' y hy, more_cons, if_neg hk, Int.zero_add]
theorem gN_none {h : Hs} (x : Str) : ∀ (gs : List (Str × Str × Int)) (l : List Int), (gs.map gKey).Nodup → (∀ g ∈ gs, g.2.1 ∈ h.names) → (∃ g ∈ gs, g.1 = x ∧ capAt h g.2.1 < szAt h l g.2.1) → gN h x gs l = none
  | [], l, _, _, ⟨g, hg, _⟩ => by simp at hg
  | g :: gs, l, nd, hg, ⟨q, hq, e1, e2⟩ => by
    obtain ⟨nd1, nd2⟩ := List.nodup_cons.mp nd
    rw [gN]
    rcases List.mem_cons.mp hq with rfl | hq'
    · rw [if_pos e1, if_pos e2]
    · split
      · rename_i e3
        split
        · rfl
        · refine gN_none x gs _ nd2 (fun p hp => hg p (by simp [hp])) ⟨q, hq', e1, ?_⟩
          rw [szAt_set_ne _ (hg q hq) (hg g (by simp)) (fun e4 => nd1 (List.mem_map.mpr ⟨q, hq', by unfold gKey; rw [e1, e3, e4]⟩))]
          exact e2
      · exact gN_none x gs l nd2 (fun p hp => hg p (by simp [hp])) ⟨q, hq', e1, e2⟩
def mx2 (i j : Int) : Int := if i < j then j else i
/-- one coming, backwards -/
def nSt (h : Hs) (bv : Int) (x z : Str) (l : List Int) : Option (List Int) :=
  (gN h x h.gains (if 0 < szAt h l z then l.set (at' h.names z) (szAt h l z + lossAt h z) else l)).bind fun l2 =>
    if capAt h z < mx2 (szAt h l2 z) bv then none else some (l2.set (at' h.names z) (mx2 (szAt h l2 z) bv))
theorem more_gain {h : Hs} (kh : HsOk h) (x y : Str) : 0 ≤ moreL h.gains x y ∧ ((∀ g ∈ h.gains, gKey g ≠ (x, y)) → moreL h.gains x y = 0) :=
  ⟨more_nonneg _ _ _ fun g hg => by have := (kh.gain g hg).2.2.1; omega, fun k => more_zero fun hm => by
    obtain ⟨g, hg, e⟩ := List.mem_map.mp hm
    exact k g hg e⟩
theorem loss_nonneg {h : Hs} (kh : HsOk h) {z : Str} (hz : z ∈ h.names) : 0 ≤ lossAt h z := by
  unfold lossAt
  have hlt := at_lt hz
  rw [names_len] at hlt
  rw [List.getElem?_eq_getElem hlt]
  exact (kh.room _ (List.getElem_mem hlt)).2.2.2.1
theorem cap_nonneg {h : Hs} (kh : HsOk h) {z : Str} (hz : z ∈ h.names) : 0 ≤ capAt h z := by
  have hlt := at_lt hz
  rw [names_len] at hlt
  unfold capAt
  have : h.caps[at' h.names z]? = some (h.rooms[at' h.names z]).2.1 := caps_get (List.getElem?_eq_getElem hlt)
  rw [this]
  exact (kh.room _ (List.getElem_mem hlt)).2.1
/-- the step, in words -/
theorem nSt_is {h : Hs} (kh : HsOk h) {bv : Int} (hb : 0 ≤ bv) {x z : Str} (hz : z ∈ h.names) {l : List Int} (kl : SzOk h l) :
    ((capAt h z < bv ∨ (0 < szAt h l z ∧ capAt h z < szAt h l z + lossAt h z)) ∧ nSt h bv x z l = none) ∨
    (bv ≤ capAt h z ∧ (0 < szAt h l z → szAt h l z + lossAt h z ≤ capAt h z) ∧ ∃ l', nSt h bv x z l = some l' ∧ SzOk h l' ∧ ∀ y ∈ h.names, szAt h l' y = if y = z then mx2 (mx0 ((if 0 < szAt h l z then szAt h l z + lossAt h z else szAt h l z) - moreL h.gains x z)) bv else mx0 (szAt h l y - moreL h.gains x y)) := by
  have hloss := loss_nonneg kh hz
  have hcz := cap_nonneg kh hz
  have l0 := kl.lo z hz
  have l1 := kl.hi z hz
  have hgn : ∀ g ∈ h.gains, g.2.1 ∈ h.names := fun g hg => (kh.gain g hg).2.1
  -- the list behind the first line
  have hfirst : ∃ m : List Int, (if 0 < szAt h l z then l.set (at' h.names z) (szAt h l z + lossAt h z) else l) = m ∧ m.length = h.rooms.length ∧ ∀ y ∈ h.names, szAt h m y = if y = z then (if 0 < szAt h l z then szAt h l z + lossAt h z else szAt h l z) else szAt h l y := by
    split
    · refine ⟨_, rfl, by rw [List.length_set, kl.len], fun y hy => szAt_set _ hy hz kl.len⟩
    · refine ⟨_, rfl, kl.len, fun y hy => ?_⟩
      split
      · rename_i e
        rw [e]
      · rfl
  obtain ⟨m, em, ml, ma⟩ := hfirst
  have mz : szAt h m z = if 0 < szAt h l z then szAt h l z + lossAt h z else szAt h l z := by rw [ma z hz, if_pos rfl]
  have m0 : ∀ y ∈ h.names, 0 ≤ szAt h m y := fun y hy => by
    rw [ma y hy]
    have := kl.lo y hy
    split
    · split <;> omega
    · exact this
  have mc : ∀ y ∈ h.names, y ≠ z → szAt h m y ≤ capAt h y := fun y hy hne => by
    rw [ma y hy, if_neg hne]
    exact kl.hi y hy
  unfold nSt
  rw [em]
  by_cases hbig : ∃ g ∈ h.gains, g.1 = x ∧ capAt h g.2.1 < szAt h m g.2.1
  · left
    rw [gN_none x h.gains m kh.gnd hgn hbig]
    obtain ⟨g, hg, e1, e2⟩ := hbig
    refine ⟨.inr ?_, rfl⟩
    have hez : g.2.1 = z := by
      apply Classical.byContradiction
      intro hne
      have := mc g.2.1 (hgn g hg) hne
      omega
    rw [hez, mz] at e2
    split at e2
    · exact ⟨by assumption, e2⟩
    · omega
  · have hsm : ∀ g ∈ h.gains, g.1 = x → szAt h m g.2.1 ≤ capAt h g.2.1 := fun g hg e => by
      apply Classical.byContradiction
      intro hn
      exact hbig ⟨g, hg, e, by omega⟩
    obtain ⟨l2, e2, len2, at2⟩ := gN_some x h.gains m kh.gnd hgn ml m0 hsm
    rw [e2]
    simp only [Option.bind_some]
    have hmore := more_gain kh x z
    have a2z := at2 z hz
    rw [mz] at a2z
    have hmx : ∀ i j : Int, mx2 i j = max i j := fun i j => by unfold mx2; split <;> omega
    by_cases hcap : capAt h z < mx2 (szAt h l2 z) bv
    · left
      rw [if_pos hcap]
      refine ⟨?_, rfl⟩
      rw [hmx, a2z] at hcap
      by_cases hb2 : capAt h z < bv
      · exact .inl hb2
      · right
        have hbig2 : capAt h z < mx0 ((if 0 < szAt h l z then szAt h l z + lossAt h z else szAt h l z) - moreL h.gains x z) := by omega
        have hm0 := hmore.1
        unfold mx0 at hbig2
        split at hbig2
        · split at hbig2
          · exact ⟨by assumption, by omega⟩
          · omega
        · omega
    · right
      rw [if_neg hcap]
      rw [hmx, a2z] at hcap
      have hbv : bv ≤ capAt h z := by omega
      have hfit : 0 < szAt h l z → szAt h l z + lossAt h z ≤ capAt h z := fun hp => by
        rw [if_pos hp] at hcap mz
        by_cases hk : ∃ g ∈ h.gains, gKey g = (x, z)
        · obtain ⟨g, hg, e⟩ := hk
          have e1 : g.1 = x := congrArg Prod.fst e
          have e2 : g.2.1 = z := congrArg Prod.snd e
          have := hsm g hg e1
          rw [e2, mz] at this
          exact this
        · have hm0 := hmore.2 fun g hg e => hk ⟨g, hg, e⟩
          rw [hm0] at hcap
          unfold mx0 at hcap
          split at hcap <;> omega
      refine ⟨hbv, hfit, _, rfl, ⟨by rw [List.length_set, len2], fun y hy => ?_, fun y hy => ?_⟩, fun y hy => ?_⟩
      · rw [szAt_set _ hy hz len2]
        split
        · rw [hmx]; omega
        · rw [at2 y hy]; exact mx0_nonneg _
      · rw [szAt_set _ hy hz len2]
        split
        · rename_i e
          subst e
          rw [hmx, a2z]; omega
        · rename_i hne
          rw [at2 y hy]
          have h1 := mc y hy hne
          have h2 := (more_gain kh x y).1
          exact mx0_le (by omega) (cap_nonneg kh hy)
      · rw [szAt_set _ hy hz len2]
        split
        · rw [a2z]
        · rename_i hne
          rw [at2 y hy, ma y hy, if_neg hne]
theorem nSt_spec {h : Hs} (kh : HsOk h) {bv : Int} (hb : 0 ≤ bv) {x z : Str} (hz : z ∈ h.names) {l : List Int} (kl : SzOk h l) {sz : List Int} (ks : SzOk h sz) :
    (bv ≤ szAt h sz z ∧ ∀ y ∈ h.names, szAt h l y ≤ szAt h (cSz h x z sz) y) ↔ ∃ l', nSt h bv x z l = some l' ∧ ∀ y ∈ h.names, szAt h l' y ≤ szAt h sz y := by
  have hloss := loss_nonneg kh hz
  have hmx : ∀ i j : Int, mx2 i j = max i j := fun i j => by unfold mx2; split <;> omega
  have hmx0 : ∀ i : Int, mx0 i = max 0 i := fun i => by unfold mx0; split <;> omega
  have hmn : ∀ i j : Int, mn i j = min i j := fun i j => by unfold mn; split <;> omega
  have s0 := ks.lo z hz
  have s1 := ks.hi z hz
  have l0 := kl.lo z hz
  have l1 := kl.hi z hz
  have mz := (more_gain kh x z).1
  constructor
  · rintro ⟨h1, h2⟩
    have hz2 := h2 z hz
    rw [cSz_at kh ks x hz hz, if_pos rfl, hmx0, hmn] at hz2
    rcases nSt_is kh hb hz kl (x := x) with ⟨hbad, _⟩ | ⟨_, _, l', e, _, ea⟩
    · omega
    · refine ⟨l', e, fun y hy => ?_⟩
      rw [ea y hy]
      by_cases hy2 : y = z
      · subst hy2
        rw [if_pos rfl, hmx, hmx0]
        split <;> omega
      · have hy3 := h2 y hy
        have := ks.lo y hy
        rw [cSz_at kh ks x hz hy, if_neg hy2, hmn] at hy3
        rw [if_neg hy2, hmx0]
        omega
  · rintro ⟨l', e, hle⟩
    rcases nSt_is kh hb hz kl (x := x) with ⟨_, en⟩ | ⟨g1, g2, l2, e2, _, ea⟩
    · rw [en] at e
      cases e
    · rw [e2] at e
      cases e
      have hzz := hle z hz
      rw [ea z hz, if_pos rfl, hmx, hmx0] at hzz
      refine ⟨by omega, fun y hy => ?_⟩
      rw [cSz_at kh ks x hz hy]
      by_cases hy2 : y = z
      · subst hy2
        rw [if_pos rfl, hmx0, hmn]
        by_cases hp : 0 < szAt h l y
        · have := g2 hp
          rw [if_pos hp] at hzz
          omega
        · omega
      · rw [if_neg hy2, hmn]
        have hyy := hle y hy
        have := kl.hi y hy
        rw [ea y hy, if_neg hy2, hmx0] at hyy
        omega
end Mi
set_option Elab.async false
set_option linter.all false
set_option maxRecDepth 100000
set_option autoImplicit false
/-! what a row needs: plain, whole rows -/
namespace Mi
open PySem PySem.Spec PyProof.Rows L2 Sh

def movesP : List Str → List (Nat × Str) → List (Str × Str)
  | _, [] => []
  | ps, p :: r => ((ps[p.1]?).getD "", p.2) :: movesP (ps.set p.1 p.2) r
def zerosP (h : Hs) : List Int := h.names.map fun _ => 0
def needF (h : Hs) (bs : List Int) : List ((Str × Str) × (Nat × Str)) → Option (List Int)
  | [] => some (zerosP h)
  | q :: r => (needF h bs r).bind (nSt h ((bs[q.2.1]?).getD 0) q.1.1 q.1.2)
def nearsB (h : Hs) (ms : List (Str × Str)) : Bool := ms.all fun m => nearB h m.1 m.2
def needsP (h : Hs) (bs : List Int) (ps : List Str) (row : List (Nat × Str)) : Option (List Int) :=
  if nearsB h (movesP ps row) = true then needF h bs ((movesP ps row).zip row) else none
theorem moves_len : ∀ (row : List (Nat × Str)) (ps : List Str), (movesP ps row).length = row.length
  | [], _ => rfl
  | p :: r, ps => by simp [movesP, moves_len r]
theorem zeros_ok {h : Hs} (kh : HsOk h) : SzOk h (zerosP h) := by
  have hz : ∀ y ∈ h.names, szAt h (zerosP h) y = 0 := fun y hy => by
    unfold szAt zerosP
    rw [List.getElem?_map, at_get hy]
    rfl
  exact ⟨by simp [zerosP, names_len], fun y hy => by rw [hz y hy]; exact Int.le_refl _, fun y hy => by rw [hz y hy]; exact cap_nonneg kh hy⟩
theorem zeros_at {h : Hs} {y : Str} (hy : y ∈ h.names) : szAt h (zerosP h) y = 0 := by
  unfold szAt zerosP
  rw [List.getElem?_map, at_get hy]
  rfl
theorem bs_get {bs : List Int} (hb : ∀ b ∈ bs, 0 ≤ b) (k : Nat) : 0 ≤ (bs[k]?).getD 0 := by
  cases e : bs[k]? with
  | none => exact Int.le_refl _
  | some b => exact hb b (List.mem_of_getElem? e)
theorem needF_ok {h : Hs} (kh : HsOk h) {bs : List Int} (hb : ∀ b ∈ bs, 0 ≤ b) : ∀ (qs : List ((Str × Str) × (Nat × Str))) (l : List Int), (∀ q ∈ qs, q.1.2 ∈ h.names) → needF h bs qs = some l → SzOk h l
  | [], l, _, e => by
    cases e
    exact zeros_ok kh
  | q :: qs, l, hq, e => by
    rw [needF] at e
    cases e1 : needF h bs qs with
    | none => rw [e1] at e; cases e
    | some l1 =>
      rw [e1] at e
      have k1 := needF_ok kh hb qs l1 (fun p hp => hq p (by simp [hp])) e1
      rcases nSt_is kh (bs_get hb q.2.1) (hq q (by simp)) k1 (x := q.1.1) with ⟨_, en⟩ | ⟨_, _, l', e2, k2, _⟩
      · simp only [Option.bind_some] at e
        rw [en] at e
        cases e
      · simp only [Option.bind_some] at e
        rw [e2] at e
        cases e
        exact k2
def canP (h : Hs) (bs : List Int) (t : Sn) (row : List (Nat × Str)) : Bool := decide ((walkP h bs t row).length = row.length)
theorem canP_cons (h : Hs) (bs : List Int) (t : Sn) (p : Nat × Str) (row : List (Nat × Str)) : canP h bs t (p :: row) = match comeP h bs t p.1 p.2 with | none => false | some t' => canP h bs t' row := by
  unfold canP
  rw [walkP]
  cases comeP h bs t p.1 p.2 <;> simp
theorem moves_names {h : Hs} {nb : Nat} : ∀ (row : List (Nat × Str)) (ps : List Str), RowOk h nb row → ∀ m ∈ movesP ps row, m.2 ∈ h.names
  | [], _, _, m, hm => by simp [movesP] at hm
  | p :: r, ps, hr, m, hm => by
    rw [movesP] at hm
    rcases List.mem_cons.mp hm with rfl | hm
    · exact (hr p (by simp)).2
    · exact moves_names r _ (fun q hq => hr q (by simp [hq])) m hm
theorem zip_names {h : Hs} {nb : Nat} {row : List (Nat × Str)} {ps : List Str} (hr : RowOk h nb row) : ∀ q ∈ (movesP ps row).zip row, q.1.2 ∈ h.names := fun q hq =>
  moves_names row ps hr q.1 (List.of_mem_zip hq).1
/-- the promise of needs -/
theorem needs_spec {h : Hs} (kh : HsOk h) {bs : List Int} (hb : ∀ b ∈ bs, 0 ≤ b) : ∀ (row : List (Nat × Str)) (ps : List Str) (sz : List Int), RowOk h bs.length row → SnOk h bs.length ⟨ps, sz⟩ →
    (canP h bs ⟨ps, sz⟩ row = true ↔ ∃ l, needsP h bs ps row = some l ∧ ∀ y ∈ h.names, szAt h l y ≤ szAt h sz y)
  | [], ps, sz, _, kt => by
    have ks := szOk_of kh kt
    constructor
    · intro _
      exact ⟨zerosP h, rfl, fun y hy => by rw [zeros_at hy]; exact ks.lo y hy⟩
    · intro _
      rfl
  | p :: row, ps, sz, hr, kt => by
    have ks : SzOk h sz := szOk_of kh kt
    obtain ⟨g1, g2⟩ := hr p (by simp)
    have hr' : RowOk h bs.length row := fun q hq => hr q (by simp [hq])
    rw [canP_cons]
    have hmoves : movesP ps (p :: row) = ((ps[p.1]?).getD "", p.2) :: movesP (ps.set p.1 p.2) row := rfl
    have hpl : plAt ⟨ps, sz⟩ p.1 = (ps[p.1]?).getD "" := rfl
    have hbv := bs_get hb p.1
    have hcome : comeP h bs ⟨ps, sz⟩ p.1 p.2 = if !nearB h ((ps[p.1]?).getD "") p.2 || decide (szAt h sz p.2 < (bs[p.1]?).getD 0) then none else some ⟨ps.set p.1 p.2, cSz h ((ps[p.1]?).getD "") p.2 sz⟩ := rfl
    rw [hcome]
    generalize hx : (ps[p.1]?).getD "" = x at *
    generalize hv : (bs[p.1]?).getD 0 = bv at *
    have hneed : needsP h bs ps (p :: row) = if nearB h x p.2 = true then (needsP h bs (ps.set p.1 p.2) row).bind (nSt h bv x p.2) else none := by
      unfold needsP nearsB
      rw [hmoves, List.all_cons, List.zip_cons_cons, needF]
      cases hn : nearB h x p.2 with
      | false => simp [hn]
      | true =>
        simp only [hn, Bool.true_and, if_true, hv]
        cases ha : (movesP (ps.set p.1 p.2) row).all fun m => nearB h m.1 m.2 with
        | false => simp
        | true => simp
    rw [hneed]
    cases hn : nearB h x p.2 with
    | false =>
      simp
    | true =>
      simp only [Bool.not_true, Bool.false_or, if_true]
      by_cases hlt : szAt h sz p.2 < bv
      · simp only [hlt, decide_true, if_true, Bool.false_eq_true, false_iff]
        rintro ⟨l, e, hle⟩
        cases e1 : needsP h bs (ps.set p.1 p.2) row with
        | none => rw [e1] at e; cases e
        | some l1 =>
          rw [e1, Option.bind_some] at e
          have k1 : SzOk h l1 := by
            unfold needsP at e1
            split at e1
            · exact needF_ok kh hb _ l1 (zip_names hr') e1
            · cases e1
          have := (nSt_spec kh hbv g2 k1 ks (x := x)).mpr ⟨l, e, hle⟩
          omega
      · have ku : SnOk h bs.length ⟨ps.set p.1 p.2, cSz h x p.2 sz⟩ := come_ok kh kt g1 g2 (by rw [hcome, hn]; simp [hlt])
        have ih := needs_spec kh hb row (ps.set p.1 p.2) (cSz h x p.2 sz) hr' ku
        simp only [hlt, decide_false, Bool.false_eq_true, if_false]
        rw [ih]
        constructor
        · rintro ⟨l1, e1, hle⟩
          have k1 : SzOk h l1 := by
            have e2 := e1
            unfold needsP at e2
            split at e2
            · exact needF_ok kh hb _ l1 (zip_names hr') e2
            · cases e2
          obtain ⟨l, e, hl⟩ := (nSt_spec kh hbv g2 k1 ks (x := x)).mp ⟨by omega, hle⟩
          exact ⟨l, by rw [e1, Option.bind_some]; exact e, hl⟩
        · rintro ⟨l, e, hle⟩
          cases e1 : needsP h bs (ps.set p.1 p.2) row with
          | none => rw [e1] at e; cases e
          | some l1 =>
            rw [e1, Option.bind_some] at e
            have k1 : SzOk h l1 := by
              have e2 := e1
              unfold needsP at e2
              split at e2
              · exact needF_ok kh hb _ l1 (zip_names hr') e2
              · cases e2
            exact ⟨l1, rfl, ((nSt_spec kh hbv g2 k1 ks (x := x)).mpr ⟨l, e, hle⟩).2⟩
theorem needs_ok {h : Hs} (kh : HsOk h) {bs : List Int} (hb : ∀ b ∈ bs, 0 ≤ b) {row : List (Nat × Str)} {ps : List Str} {nb : Nat} (hr : RowOk h nb row) {l : List Int} (e : needsP h bs ps row = some l) : SzOk h l := by
  unfold needsP at e
  split at e
  · exact needF_ok kh hb _ l (zip_names hr) e
  · cases e
end Mi
set_option Elab.async false
set_option linter.all false
set_option maxRecDepth 100000
set_option autoImplicit false
/-! along; dict comprehensions by texts; needs -/
namespace Mi
open PySem PySem.Spec PyProof.Rows L2 Sh

/-! ### dict comprehensions whose keys are unlike texts -/
theorem dcL_gen {os : List Op} {ds : List Da} {t : Tg} {mk mv : ME} {vs : List Nat} {en : En} (key : Da → Str) (val : Da → Da) (hres : resAll en os = some ds) : ∀ (items : List Da) (l : List Str) (cs : List Da), l.length = cs.length → l.length + items.length ≤ 1000 → (l ++ items.map key).Nodup →
    (∀ d ∈ items, ∃ e1 s, asg t d en = some e1 ∧ mk e1 = .ok (.fz (.str (key d)), e1) ∧ mv e1 = .ok (s, e1) ∧ s.dat = some (val d) ∧ wipeE e1 vs = en) →
    dcL os ds t mYes mk mv vs items (zipKD l cs) en = .ok (zipKD (l ++ items.map key) (cs ++ items.map val), en)
  | [], l, cs, _, _, _, _ => by
    rw [dcL, if_pos hres]
    simp
  | d :: items, l, cs, hl, hn, nd, h => by
    obtain ⟨e1, s, h1, h2, h3, h4, h5⟩ := h d (by simp)
    have hn' : l.length + (items.length + 1) ≤ 1000 := hn
    have hk : key d ∉ l := fun hm => by
      rw [List.nodup_append] at nd
      exact nd.2.2 _ hm _ (by simp) rfl
    have hz : (zipKD l cs).length < 1000000 := by rw [zipKD_len l cs hl]; omega
    have ih := dcL_gen key val hres items (l ++ [key d]) (cs ++ [val d]) (by simp [hl]) (by simp; omega) (by simpa using nd) (fun q hq => h q (by simp [hq]))
    rw [dcL, if_pos hres, h1]
    simp only [ev_yes, ev_nx, ev_bok, if_true, h2, keyS_str, h3, h4, hz, if_true, h5]
    rw [put_new (val d) hk hl, ih]
    simp
theorem dc_gen {it : ItM} {t : Tg} {mk mv : ME} {vs : List Nat} {en : En} {os : List Op} {ds items : List Da} (key : Da → Str) (val : Da → Da) (h1 : evalOps it.ops en = .ok (os, en)) (h2 : resAll en os = some ds) (h3 : it.items ds = some items)
    (h4 : (atSlots os).all (fun i => !vs.contains i) = true) (h5 : frzE en vs = en) (h6 : restE en (wipeE en vs) vs = en) (hw : resAll (wipeE en vs) os = some ds) (hl : items.length ≤ 1000) (nd : (items.map key).Nodup)
    (h : ∀ d ∈ items, ∃ e1 s, asg t d (wipeE en vs) = some e1 ∧ mk e1 = .ok (.fz (.str (key d)), e1) ∧ mv e1 = .ok (s, e1) ∧ s.dat = some (val d) ∧ wipeE e1 vs = wipeE en vs) :
    mDc it t mYes mk mv vs en = .ok (.ow (.dict (zipKD (items.map key) (items.map val))), en) := by
  have hd := dcL_gen (t := t) (mk := mk) (mv := mv) (vs := vs) key val hw items [] [] rfl (by simpa using hl) (by simpa using nd) h
  have hz0 : zipKD ([] : List Str) [] = [] := rfl
  rw [hz0] at hd
  simp only [List.nil_append] at hd
  unfold mDc
  rw [h1]
  simp only [ev_bok, h2, h3, h4, if_true, h5, hd, h6]
/-! ### dicts by rooms -/
theorem look_sz {h : Hs} {l : List Int} (hl : l.length = h.rooms.length) {z : Str} (hz : z ∈ h.names) : lookD (zipKD h.names (l.map dint)) z = some (.int (szAt h l z)) := by
  rw [look_zip hz (by rw [List.length_map, names_len, hl]), List.getElem?_map]
  have hlt : at' h.names z < l.length := by rw [hl, ← names_len]; exact at_lt hz
  unfold szAt
  rw [List.getElem?_eq_getElem hlt]
  rfl
theorem put_sz {h : Hs} (kh : HsOk h) {l : List Int} (hl : l.length = h.rooms.length) {z : Str} (hz : z ∈ h.names) (v : Int) : putD (zipKD h.names (l.map dint)) z (.int v) = zipKD h.names ((l.set (at' h.names z) v).map dint) := by
  rw [put_zip _ kh.nd hz (by rw [List.length_map, names_len, hl])]
  show zipKD h.names ((l.map dint).set _ (dint v)) = _
  rw [← List.map_set]
theorem look_room {h : Hs} {z : Str} (hz : z ∈ h.names) : lookD (zipKD h.names (h.rooms.map eRoom)) z = some (.tuple [.str z, .int (capAt h z), .int (lossAt h z)]) := by
  rw [look_zip hz (by rw [List.length_map, names_len]), List.getElem?_map]
  have hlt : at' h.names z < h.rooms.length := by rw [← names_len]; exact at_lt hz
  have e1 : h.names[at' h.names z]? = some (h.rooms[at' h.names z]).1 := by
    unfold Hs.names at *
    rw [List.getElem?_map, List.getElem?_eq_getElem hlt]
    rfl
  rw [at_get hz] at e1
  have e1' := Option.some.inj e1
  have e2 : capAt h z = (h.rooms[at' h.names z]).2.1 := by
    unfold capAt
    rw [caps_get (List.getElem?_eq_getElem hlt)]
    rfl
  have e3 : lossAt h z = (h.rooms[at' h.names z]).2.2 := by
    unfold lossAt
    rw [List.getElem?_eq_getElem hlt]
    rfl
  rw [List.getElem?_eq_getElem hlt, e2, e3]
  show some (eRoom h.rooms[at' h.names z]) = _
  unfold eRoom
  rw [← e1']
theorem zipKD_sz {h : Hs} {l : List Int} (hl : l.length = h.rooms.length) : (zipKD h.names (l.map dint)).length = h.rooms.length := by
  rw [zipKD_len _ _ (by rw [List.length_map, names_len, hl]), names_len]
/-! ### along -/
noncomputable def alB : MS := mSeq (mAppend 3 (mPure opTup (exs [mPure opIx [.sl 2, .sl 4], mVar 5]))) (mPut 2 (mVar 4) (mVar 5))
theorem al_loop (D P R : Da) : ∀ (row : List (Nat × Str)) (ps : List Str) (L : List Da) (s4 s5 : Sl), (∀ p ∈ row, p.1 < ps.length) → L.length + row.length ≤ 1000 →
    ∃ ps' s4' s5', forL [.va D] [D] (.tp [.nm 4, .nm 5]) alB (row.map eCm) [.fz P, .fz R, .ow (.list (ps.map dstr)), .ow (.list L), s4, s5] = .ok (.nx, [.fz P, .fz R, .ow (.list (List.map dstr ps')), .ow (.list (L ++ (movesP ps row).map eDoor)), s4', s5'])
  | [], ps, L, s4, s5, _, _ => ⟨ps, s4, s5, by rw [List.map_nil, forL, if_pos (res_va _ _)]; simp [movesP]⟩
  | p :: row, ps, L, s4, s5, hp, hl => by
    have hl' : L.length + (row.length + 1) ≤ 1000 := hl
    have hb : p.1 < ps.length := hp p (by simp)
    obtain ⟨ps', a, b, e⟩ := al_loop D P R row (ps.set p.1 p.2) (L ++ [eDoor ((ps[p.1]?).getD "", p.2)]) (.fz (.int (p.1 : Int))) (.fz (.str p.2)) (fun q hq => by rw [List.length_set]; exact hp q (by simp [hq])) (by simp; omega)
    refine ⟨ps', a, b, ?_⟩
    have ix : opIx [.list (ps.map dstr), .int (p.1 : Int)] = some (.fz (.str ((ps[p.1]?).getD ""))) := by
      rw [op_ixL, Sh.atI_nat, List.getElem?_map, List.getElem?_eq_getElem hb]
      rfl
    have hL : L.length < 1000000 := by omega
    have hx : ixN (ps.map dstr).length (p.1 : Int) = some p.1 := ixN_nat (by rw [List.length_map]; exact hb)
    have hset : (ps.map dstr).set p.1 (.str p.2) = (ps.set p.1 p.2).map dstr := by
      rw [List.map_set]
      rfl
    have hbody : alB [.fz P, .fz R, .ow (.list (ps.map dstr)), .ow (.list L), .fz (.int (p.1 : Int)), .fz (.str p.2)] = .ok (.nx, [.fz P, .fz R, .ow (.list ((ps.set p.1 p.2).map dstr)), .ow (.list (L ++ [eDoor ((ps[p.1]?).getD "", p.2)])), .fz (.int (p.1 : Int)), .fz (.str p.2)]) := by
      rw [← hset]
      generalize ps.map dstr = S at ix hx
      simp [alB, ix, hL, hx, eDoor, -op_ixL]
    rw [List.map_cons, forL, if_pos (res_va _ _)]
    have ha : asg (.tp [.nm 4, .nm 5]) (eCm p) [.fz P, .fz R, .ow (.list (ps.map dstr)), .ow (.list L), s4, s5] = some [.fz P, .fz R, .ow (.list (ps.map dstr)), .ow (.list L), .fz (.int (p.1 : Int)), .fz (.str p.2)] := by simp [eCm]
    rw [ha]
    simp only [hbody, ev_bok]
    rw [e]
    simp [movesP]
theorem e_along {ps : List Str} {row : List (Nat × Str)} (hp : ∀ p ∈ row, p.1 < ps.length) (hl : row.length ≤ 100) : f_along [.tuple (ps.map dstr), .list (row.map eCm)] = .ok (.ow (.list ((movesP ps row).map eDoor))) := by
  obtain ⟨ps', a, b, e⟩ := al_loop (.list (row.map eCm)) (.tuple (ps.map dstr)) (.list (row.map eCm)) row ps [] .no .no hp (by simp; omega)
  have hsp : m_along = mSeq (mSet 2 (mPure opList [.sl 0])) (mSeq (mSet 3 (mPure opLst (exs []))) (mSeq (mFor ⟨[.ex (mVar 1)], itSeq⟩ (.tp [.nm 4, .nm 5]) alB) (mRet (mMove 3)))) := rfl
  have h1 : mSet 2 (mPure opList [.sl 0]) (([.tuple (ps.map dstr), .list (row.map eCm)] : List Da).map .fz ++ List.replicate 4 .no) = .ok (.nx, [.fz (.tuple (ps.map dstr)), .fz (.list (row.map eCm)), .ow (.list (ps.map dstr)), .no, .no, .no]) := rfl
  have h2 : mSet 3 (mPure opLst (exs [])) [.fz (.tuple (ps.map dstr)), .fz (.list (row.map eCm)), .ow (.list (ps.map dstr)), .no, .no, .no] = .ok (.nx, [.fz (.tuple (ps.map dstr)), .fz (.list (row.map eCm)), .ow (.list (ps.map dstr)), .ow (.list []), .no, .no]) := rfl
  unfold f_along
  rw [hsp, fnP_eq, ev_seq, h1]
  simp only [ev_bok]
  rw [ev_seq, h2]
  simp only [ev_bok]
  rw [ev_seq, mfor_of (it := ⟨[.ex (mVar 1)], itSeq⟩) rfl rfl rfl e]
  simp
end Mi
set_option Elab.async false
set_option linter.all false
set_option maxRecDepth 100000
set_option autoImplicit false
/-! needs -/
namespace Mi
open PySem PySem.Spec PyProof.Rows L2 Sh

def ndE (h : Hs) (bs : List Int) (P R : Da) (M : Sl) (l : List Int) (s7 s8 s9 s10 s11 s12 s13 s14 : Sl) : En := [.fz h.enc, .fz (eBs bs), .fz P, .fz R, M, .ow (.dict (zipKD h.names (l.map dint))), .ow (.dict (zipKD h.names (h.rooms.map eRoom))), s7, s8, s9, s10, s11, s12, s13, s14]
noncomputable def nd1 : MS := mCond (mTE (mPure opGt [.ex (mPure opIxD [.sl 5, .sl 7]), .ex (mK (.int 0))])) (mAugD 5 (mVar 7) (mPure opIx [.ex (mPure opIxD [.sl 6, .sl 7]), .ex (mK (.int 2))])) (mSkip)
noncomputable def ndI : MS := mCond (mTE (mPure opEq [.sl 12, .sl 9])) (mSeq (mCond (mTE (mPure opGt [.ex (mPure opIxD [.sl 5, .sl 13]), .ex (mPure opIx [.ex (mPure opIxD [.sl 6, .sl 13]), .ex (mK (.int 1))])])) (mRet (mK (.none))) (mSkip))
    (mPutD 5 (mVar 13) (mPure opMax2 [.ex (mK (.int 0)), .ex (mPure opSub [.ex (mPure opIxD [.sl 5, .sl 13]), .sl 14])]))) (mSkip)
noncomputable def nd2 : MS := mFor ⟨[.ex (mPure opIx [.sl 0, .ex (mK (.int 2))])], itSeq⟩ (.tp [.nm 12, .nm 13, .nm 14]) ndI
noncomputable def nd3 : MS := mPutD 5 (mVar 7) (mPure opMax2 [.ex (mPure opIxD [.sl 5, .sl 7]), .ex (mPure opIx [.sl 1, .sl 10])])
noncomputable def nd4 : MS := mCond (mTE (mPure opGt [.ex (mPure opIxD [.sl 5, .sl 7]), .ex (mPure opIx [.ex (mPure opIxD [.sl 6, .sl 7]), .ex (mK (.int 1))])])) (mRet (mK (.none))) (mSkip)
noncomputable def ndB : MS := mSeq nd1 (mSeq nd2 (mSeq nd3 nd4))
section
variable {h : Hs} (kh : HsOk h) {bs : List Int} (P R : Da) (M : Sl)
include kh
theorem nd1_ok (l : List Int) (hl : l.length = h.rooms.length) (z : Str) (hz : z ∈ h.names) (s8 s9 s10 s11 s12 s13 s14 : Sl) :
    nd1 (ndE h bs P R M l (.fz (.str z)) s8 s9 s10 s11 s12 s13 s14) = .ok (.nx, ndE h bs P R M (if 0 < szAt h l z then l.set (at' h.names z) (szAt h l z + lossAt h z) else l) (.fz (.str z)) s8 s9 s10 s11 s12 s13 s14) := by
  have l5 := look_sz hl hz
  have l6 := look_room hz
  have pz := put_sz kh hl hz (szAt h l z + lossAt h z)
  have hlen : (zipKD h.names (l.map dint)).length < 1000000 := by rw [zipKD_sz hl]; have := kh.n5; omega
  have i2 : opIx [.tuple [.str z, .int (capAt h z), .int (lossAt h z)], .int 2] = some (.fz (.int (lossAt h z))) := rfl
  by_cases hp : 0 < szAt h l z
  · rw [if_pos hp]
    unfold ndE
    rw [← pz]
    generalize zipKD h.names (l.map dint) = Z at l5 hlen
    generalize zipKD h.names (h.rooms.map eRoom) = Y at l6
    simp [nd1, l5, l6, hp, i2, hlen, -op_ixT]
  · rw [if_neg hp]
    unfold ndE
    generalize zipKD h.names (l.map dint) = Z at l5 hlen
    generalize zipKD h.names (h.rooms.map eRoom) = Y at l6
    simp [nd1, l5, hp]
theorem ndI_ok (l : List Int) (hl : l.length = h.rooms.length) (x : Str) (g : Str × Str × Int) (hg : g.2.1 ∈ h.names) (s7 s8 s10 s11 : Sl) :
    ndI (ndE h bs P R M l s7 s8 (.fz (.str x)) s10 s11 (.fz (.str g.1)) (.fz (.str g.2.1)) (.fz (.int g.2.2))) = if g.1 = x then (if capAt h g.2.1 < szAt h l g.2.1 then .ok (.rt (.fz .none), ndE h bs P R M l s7 s8 (.fz (.str x)) s10 s11 (.fz (.str g.1)) (.fz (.str g.2.1)) (.fz (.int g.2.2))) else .ok (.nx, ndE h bs P R M (l.set (at' h.names g.2.1) (mx0 (szAt h l g.2.1 - g.2.2))) s7 s8 (.fz (.str x)) s10 s11 (.fz (.str g.1)) (.fz (.str g.2.1)) (.fz (.int g.2.2)))) else .ok (.nx, ndE h bs P R M l s7 s8 (.fz (.str x)) s10 s11 (.fz (.str g.1)) (.fz (.str g.2.1)) (.fz (.int g.2.2))) := by
  have l5 := look_sz hl hg
  have l6 := look_room hg
  have pz := put_sz kh hl hg (mx0 (szAt h l g.2.1 - g.2.2))
  have hlen : (zipKD h.names (l.map dint)).length < 1000000 := by rw [zipKD_sz hl]; have := kh.n5; omega
  have i1 : opIx [.tuple [.str g.2.1, .int (capAt h g.2.1), .int (lossAt h g.2.1)], .int 1] = some (.fz (.int (capAt h g.2.1))) := rfl
  have eq := op_eq_ss kh g.1 x
  have hmx : opMax2 [.int 0, .int (szAt h l g.2.1 - g.2.2)] = some (.fz (.int (mx0 (szAt h l g.2.1 - g.2.2)))) := rfl
  by_cases e1 : g.1 = x
  · rw [if_pos e1]
    rw [decide_eq_true e1] at eq
    by_cases e2 : capAt h g.2.1 < szAt h l g.2.1
    · rw [if_pos e2]
      unfold ndE
      generalize zipKD h.names (l.map dint) = Z at l5 hlen
      generalize zipKD h.names (h.rooms.map eRoom) = Y at l6
      simp [ndI, l5, l6, eq, i1, e2, -op_ixT]
    · rw [if_neg e2]
      unfold ndE
      rw [← pz]
      generalize zipKD h.names (l.map dint) = Z at l5 hlen
      generalize zipKD h.names (h.rooms.map eRoom) = Y at l6
      simp [ndI, l5, l6, eq, i1, e2, hlen, hmx, -op_ixT, -op_max_ii]
  · rw [if_neg e1]
    rw [decide_eq_false e1] at eq
    unfold ndE
    simp [ndI, eq]
theorem nd2_loop (D : Da) (x : Str) (s7 s8 s10 s11 : Sl) : ∀ (gs : List (Str × Str × Int)) (l : List Int) (s12 s13 s14 : Sl), l.length = h.rooms.length → (∀ g ∈ gs, g.2.1 ∈ h.names) →
    (∃ l' s12' s13' s14', gN h x gs l = some l' ∧ l'.length = h.rooms.length ∧ forL [.va D] [D] (.tp [.nm 12, .nm 13, .nm 14]) ndI (gs.map eGain) (ndE h bs P R M l s7 s8 (.fz (.str x)) s10 s11 s12 s13 s14) = .ok (.nx, ndE h bs P R M l' s7 s8 (.fz (.str x)) s10 s11 s12' s13' s14')) ∨
    ∃ en', gN h x gs l = none ∧ forL [.va D] [D] (.tp [.nm 12, .nm 13, .nm 14]) ndI (gs.map eGain) (ndE h bs P R M l s7 s8 (.fz (.str x)) s10 s11 s12 s13 s14) = .ok (.rt (.fz .none), en')
  | [], l, s12, s13, s14, hl, _ => .inl ⟨l, s12, s13, s14, rfl, hl, by rw [List.map_nil, forL, if_pos (res_va _ _)]⟩
  | g :: gs, l, s12, s13, s14, hl, hg => by
    have hb := ndI_ok kh (bs := bs) P R M l hl x g (hg g (by simp)) s7 s8 s10 s11
    have ha : asg (.tp [.nm 12, .nm 13, .nm 14]) (eGain g) (ndE h bs P R M l s7 s8 (.fz (.str x)) s10 s11 s12 s13 s14) = some (ndE h bs P R M l s7 s8 (.fz (.str x)) s10 s11 (.fz (.str g.1)) (.fz (.str g.2.1)) (.fz (.int g.2.2))) := by simp [ndE, eGain]
    rw [List.map_cons, forL, if_pos (res_va _ _), ha]
    simp only [hb]
    rw [gN]
    by_cases e1 : g.1 = x
    · rw [if_pos e1, if_pos e1]
      by_cases e2 : capAt h g.2.1 < szAt h l g.2.1
      · rw [if_pos e2, if_pos e2]
        exact .inr ⟨_, rfl, rfl⟩
      · rw [if_neg e2, if_neg e2]
        simp only [ev_bok]
        exact nd2_loop D x s7 s8 s10 s11 gs _ _ _ _ (by rw [List.length_set, hl]) (fun q hq => hg q (by simp [hq]))
    · rw [if_neg e1, if_neg e1]
      simp only [ev_bok]
      exact nd2_loop D x s7 s8 s10 s11 gs l _ _ _ hl (fun q hq => hg q (by simp [hq]))
theorem ndB_ok (l : List Int) (hl : l.length = h.rooms.length) (x z : Str) (hz : z ∈ h.names) (b : Nat) (hb : b < bs.length) (s8 s11 s12 s13 s14 : Sl) :
    (∃ l' s12' s13' s14', nSt h ((bs[b]?).getD 0) x z l = some l' ∧ l'.length = h.rooms.length ∧ ndB (ndE h bs P R M l (.fz (.str z)) s8 (.fz (.str x)) (.fz (.int (b : Int))) s11 s12 s13 s14) = .ok (.nx, ndE h bs P R M l' (.fz (.str z)) s8 (.fz (.str x)) (.fz (.int (b : Int))) s11 s12' s13' s14')) ∨
    ∃ en', nSt h ((bs[b]?).getD 0) x z l = none ∧ ndB (ndE h bs P R M l (.fz (.str z)) s8 (.fz (.str x)) (.fz (.int (b : Int))) s11 s12 s13 s14) = .ok (.rt (.fz .none), en') := by
  have e1 := nd1_ok kh (bs := bs) P R M l hl z hz s8 (.fz (.str x)) (.fz (.int (b : Int))) s11 s12 s13 s14
  unfold nSt ndB
  rw [ev_seq, e1]
  simp only [ev_bok]
  have hml : (if 0 < szAt h l z then l.set (at' h.names z) (szAt h l z + lossAt h z) else l).length = h.rooms.length := by
    split
    · rw [List.length_set, hl]
    · exact hl
  generalize (if 0 < szAt h l z then l.set (at' h.names z) (szAt h l z + lossAt h z) else l) = m at hml
  have hgn : ∀ g ∈ h.gains, g.2.1 ∈ h.names := fun g hg => (kh.gain g hg).2.1
  rcases nd2_loop kh (bs := bs) P R M (.tuple (h.gains.map eGain)) x (.fz (.str z)) s8 (.fz (.int (b : Int))) s11 h.gains m s12 s13 s14 hml hgn with ⟨l2, a, c, d, g1, g2, e2⟩ | ⟨en', g1, e2⟩
  · have h2 : nd2 (ndE h bs P R M m (.fz (.str z)) s8 (.fz (.str x)) (.fz (.int (b : Int))) s11 s12 s13 s14) = .ok (.nx, ndE h bs P R M l2 (.fz (.str z)) s8 (.fz (.str x)) (.fz (.int (b : Int))) s11 a c d) := mfor_of (it := ⟨[.ex (mPure opIx [.sl 0, .ex (mK (.int 2))])], itSeq⟩) rfl rfl rfl e2
    rw [g1, ev_seq, h2]
    simp only [ev_bok, Option.bind_some]
    have l5 := look_sz g2 hz
    have hlen : (zipKD h.names (l2.map dint)).length < 1000000 := by rw [zipKD_sz g2]; have := kh.n5; omega
    have pz := put_sz kh g2 hz (mx2 (szAt h l2 z) ((bs[b]?).getD 0))
    have ixb : opIx [eBs bs, .int (b : Int)] = some (.fz (.int ((bs[b]?).getD 0))) := by
      unfold eBs
      rw [op_ixT, Sh.atI_nat, List.getElem?_map, List.getElem?_eq_getElem hb]
      rfl
    have hmx : opMax2 [.int (szAt h l2 z), .int ((bs[b]?).getD 0)] = some (.fz (.int (mx2 (szAt h l2 z) ((bs[b]?).getD 0)))) := rfl
    have h3 : nd3 (ndE h bs P R M l2 (.fz (.str z)) s8 (.fz (.str x)) (.fz (.int (b : Int))) s11 a c d) = .ok (.nx, ndE h bs P R M (l2.set (at' h.names z) (mx2 (szAt h l2 z) ((bs[b]?).getD 0))) (.fz (.str z)) s8 (.fz (.str x)) (.fz (.int (b : Int))) s11 a c d) := by
      unfold ndE
      rw [← pz]
      generalize zipKD h.names (l2.map dint) = Z at l5 hlen
      generalize eBs bs = B at ixb
      simp [nd3, l5, ixb, hmx, hlen, -op_max_ii]
    have l3l : (l2.set (at' h.names z) (mx2 (szAt h l2 z) ((bs[b]?).getD 0))).length = h.rooms.length := by rw [List.length_set, g2]
    rw [ev_seq, h3]
    simp only [ev_bok]
    have l7 := look_sz l3l hz
    rw [szAt_set_self _ hz g2] at l7
    have l6 := look_room hz
    have i1 : opIx [.tuple [.str z, .int (capAt h z), .int (lossAt h z)], .int 1] = some (.fz (.int (capAt h z))) := rfl
    generalize mx2 (szAt h l2 z) ((bs[b]?).getD 0) = v at *
    by_cases hc : capAt h z < v
    · rw [if_pos hc]
      refine .inr ⟨ndE h bs P R M (l2.set (at' h.names z) v) (.fz (.str z)) s8 (.fz (.str x)) (.fz (.int (b : Int))) s11 a c d, rfl, ?_⟩
      unfold ndE
      generalize zipKD h.names ((l2.set (at' h.names z) v).map dint) = Z at l7
      generalize zipKD h.names (h.rooms.map eRoom) = Y at l6
      simp [nd4, l7, l6, i1, hc, -op_ixT]
    · rw [if_neg hc]
      refine .inl ⟨_, a, c, d, rfl, l3l, ?_⟩
      unfold ndE
      generalize zipKD h.names ((l2.set (at' h.names z) v).map dint) = Z at l7
      generalize zipKD h.names (h.rooms.map eRoom) = Y at l6
      simp [nd4, l7, l6, i1, hc, -op_ixT]
  · have h2 : nd2 (ndE h bs P R M m (.fz (.str z)) s8 (.fz (.str x)) (.fz (.int (b : Int))) s11 s12 s13 s14) = .ok (.rt (.fz .none), en') := mfor_of (it := ⟨[.ex (mPure opIx [.sl 0, .ex (mK (.int 2))])], itSeq⟩) rfl rfl rfl e2
    rw [g1, ev_seq, h2]
    exact .inr ⟨en', rfl, rfl⟩
end
/-! the loop, from the end -/
def nGo (h : Hs) (bs : List Int) : List ((Str × Str) × (Nat × Str)) → List Int → Option (List Int)
  | [], l => some l
  | q :: qs, l => (nSt h ((bs[q.2.1]?).getD 0) q.1.1 q.1.2 l).bind (nGo h bs qs)
theorem nGo_snoc (h : Hs) (bs : List Int) (q : (Str × Str) × (Nat × Str)) : ∀ (qs : List ((Str × Str) × (Nat × Str))) (l : List Int), nGo h bs (qs ++ [q]) l = (nGo h bs qs l).bind (nSt h ((bs[q.2.1]?).getD 0) q.1.1 q.1.2)
  | [], l => by
    show (nSt h ((bs[q.2.1]?).getD 0) q.1.1 q.1.2 l).bind (nGo h bs []) = _
    show (nSt h ((bs[q.2.1]?).getD 0) q.1.1 q.1.2 l).bind some = nSt h ((bs[q.2.1]?).getD 0) q.1.1 q.1.2 l
    cases nSt h ((bs[q.2.1]?).getD 0) q.1.1 q.1.2 l <;> rfl
  | p :: qs, l => by
    rw [List.cons_append, nGo, nGo]
    cases nSt h ((bs[p.2.1]?).getD 0) p.1.1 p.1.2 l with
    | none => rfl
    | some m => exact nGo_snoc h bs q qs m
theorem nGo_rev (h : Hs) (bs : List Int) : ∀ qs : List ((Str × Str) × (Nat × Str)), nGo h bs qs.reverse (zerosP h) = needF h bs qs
  | [] => rfl
  | q :: qs => by rw [List.reverse_cons, nGo_snoc, nGo_rev h bs qs, needF]
def eQ (q : (Str × Str) × (Nat × Str)) : Da := .tuple [eDoor q.1, eCm q.2]
theorem zip_eQ : ∀ (ms : List (Str × Str)) (row : List (Nat × Str)), zipD (ms.map eDoor) (row.map eCm) = (ms.zip row).map eQ
  | [], _ => by simp [zipD]
  | _ :: _, [] => by simp [zipD]
  | m :: ms, p :: row => by
    rw [List.map_cons, List.map_cons, zipD, List.zip_cons_cons, List.map_cons, zip_eQ ms row]
    rfl
section
variable {h : Hs} (kh : HsOk h) {bs : List Int} (P R : Da) (M : Sl)
include kh
theorem nd_loop (D : Da) : ∀ (qs : List ((Str × Str) × (Nat × Str))) (l : List Int) (s7 s8 s9 s10 s11 s12 s13 s14 : Sl), l.length = h.rooms.length → (∀ q ∈ qs, q.1.2 ∈ h.names ∧ q.2.1 < bs.length) →
    (∃ l' s7' s9' s10' s11' s12' s13' s14', nGo h bs qs l = some l' ∧ l'.length = h.rooms.length ∧ forL [.va D] [D] (.tp [.tp [.nm 9, .nm 7], .tp [.nm 10, .nm 11]]) ndB (qs.map eQ) (ndE h bs P R M l s7 s8 s9 s10 s11 s12 s13 s14) = .ok (.nx, ndE h bs P R M l' s7' s8 s9' s10' s11' s12' s13' s14') ∧ (notOw s7 → notOw s7')) ∨
    ∃ en', nGo h bs qs l = none ∧ forL [.va D] [D] (.tp [.tp [.nm 9, .nm 7], .tp [.nm 10, .nm 11]]) ndB (qs.map eQ) (ndE h bs P R M l s7 s8 s9 s10 s11 s12 s13 s14) = .ok (.rt (.fz .none), en')
  | [], l, s7, s8, s9, s10, s11, s12, s13, s14, hl, _ => .inl ⟨l, s7, s9, s10, s11, s12, s13, s14, rfl, hl, by rw [List.map_nil, forL, if_pos (res_va _ _)], id⟩
  | q :: qs, l, s7, s8, s9, s10, s11, s12, s13, s14, hl, hq => by
    obtain ⟨g1, g2⟩ := hq q (by simp)
    have ha : asg (.tp [.tp [.nm 9, .nm 7], .tp [.nm 10, .nm 11]]) (eQ q) (ndE h bs P R M l s7 s8 s9 s10 s11 s12 s13 s14) = some (ndE h bs P R M l (.fz (.str q.1.2)) s8 (.fz (.str q.1.1)) (.fz (.int (q.2.1 : Int))) (.fz (.str q.2.2)) s12 s13 s14) := by simp [ndE, eQ, eDoor, eCm]
    rw [List.map_cons, forL, if_pos (res_va _ _), ha, nGo]
    rcases ndB_ok kh (bs := bs) P R M l hl q.1.1 q.1.2 g1 q.2.1 g2 s8 (.fz (.str q.2.2)) s12 s13 s14 with ⟨l', a, b, c, e1, e2, e3⟩ | ⟨en', e1, e3⟩
    · rw [e1]
      simp only [e3, ev_bok, Option.bind_some]
      rcases nd_loop D qs l' (.fz (.str q.1.2)) s8 (.fz (.str q.1.1)) (.fz (.int (q.2.1 : Int))) (.fz (.str q.2.2)) a b c e2 (fun p hp => hq p (by simp [hp])) with ⟨l2, t7, t9, t10, t11, t12, t13, t14, f1, f2, f3, f4⟩ | hx
      · exact .inl ⟨l2, t7, t9, t10, t11, t12, t13, t14, f1, f2, f3, fun _ => f4 (fun d => by simp)⟩
      · exact .inr hx
    · rw [e1]
      simp only [e3, ev_bok]
      exact .inr ⟨en', rfl, rfl⟩
end
def szD (h : Hs) (l : List Int) : Da → Da
  | .str z => dint (szAt h l z)
  | d => d
theorem szD_map {h : Hs} (kh : HsOk h) {l : List Int} (hl : l.length = h.rooms.length) : (h.names.map dstr).map (szD h l) = l.map dint := by
  rw [← vals_back kh hl]
  exact List.map_congr_left fun d hd => by
    obtain ⟨z, _, rfl⟩ := List.mem_map.mp hd
    rfl
def encL : Option (List Int) → Da
  | none => .none
  | some l => .tuple (l.map dint)
section
variable {h : Hs} (kh : HsOk h) {bs : List Int} (kb : BsOk bs)
include kh kb
theorem e_needs {ps : List Str} (hn : ps.length = bs.length) (hp : ∀ p ∈ ps, p ∈ h.names) {row : List (Nat × Str)} (hr : RowOk h bs.length row) (hl : row.length ≤ 60) : f_needs [h.enc, eBs bs, .tuple (ps.map dstr), .list (row.map eCm)] = .ok (.fz (encL (needsP h bs ps row))) := by
  have e1 := e_need_places kh kb hn hp
  have e2 := e_need_row kh hr hl
  have e3 := e_along (ps := ps) (row := row) (fun p hp => by rw [hn]; exact (hr p hp).1) (by omega)
  have h5 := kh.n5
  have hml := moves_len row ps
  have hsp : m_needs = mSeq (mDo (mCall (f_need_places) [.sl 0, .sl 1, .sl 2])) (mSeq (mDo (mCall (f_need_row) [.sl 0, .sl 1, .sl 3])) (mSeq (mSet 4 (mCall (f_along) [.sl 2, .sl 3]))
    (mSeq (mCond (mNot (mTE (mPure opAll [.ex (mLc ⟨[.sl 4], itSeq⟩ (.tp [.nm 9, .nm 7]) (mYes) (mCall (f_are_near) [.sl 0, .sl 9, .sl 7]) [9, 7])]))) (mRet (mK (.none))) (mSkip))
    (mSeq (mSet 5 (mDc ⟨[.ex (mCall (f_names_of) [.sl 0])], itSeq⟩ (.nm 7) (mYes) (mVar 7) (mK (.int 0)) [7]))
    (mSeq (mSet 6 (mDc ⟨[.ex (mPure opIx [.sl 0, .ex (mK (.int 0))])], itSeq⟩ (.nm 8) (mYes) (mPure opIx [.sl 8, .ex (mK (.int 0))]) (mVar 8) [8]))
    (mSeq (mFor ⟨[.ex (mPure revd [.ex (mPure opListZip [.sl 4, .sl 3])])], itSeq⟩ (.tp [.tp [.nm 9, .nm 7], .tp [.nm 10, .nm 11]]) ndB)
    (mRet (mPure opTuple [.ex (mLc ⟨[.ex (mCall (f_names_of) [.sl 0])], itSeq⟩ (.nm 7) (mYes) (mPure opIxD [.sl 5, .sl 7]) [7])])))))))) := rfl
  generalize hP : PyData.tuple (ps.map dstr) = P at e1 e3 ⊢
  generalize hR : PyData.list (row.map eCm) = R at e2 e3 ⊢
  let E0 : En := [.fz h.enc, .fz (eBs bs), .fz P, .fz R, .ow (.list ((movesP ps row).map eDoor)), .no, .no, .no, .no, .no, .no, .no, .no, .no, .no]
  have s123 : ∀ n : MS, mSeq (mDo (mCall (f_need_places) [.sl 0, .sl 1, .sl 2])) (mSeq (mDo (mCall (f_need_row) [.sl 0, .sl 1, .sl 3])) (mSeq (mSet 4 (mCall (f_along) [.sl 2, .sl 3])) n)) (([h.enc, eBs bs, P, R] : List Da).map .fz ++ List.replicate 11 .no) = n E0 := fun n => by
    simp [e1, e2, e3, List.replicate, E0]
  have hlc : mLc ⟨[.sl 4], itSeq⟩ (.tp [.nm 9, .nm 7]) (mYes) (mCall (f_are_near) [.sl 0, .sl 9, .sl 7]) [9, 7] E0 = .ok (.ow (.list (((movesP ps row).map eDoor).map fun d => .bool (match d with | .tuple [.str a, .str b] => nearB h a b | _ => false))), E0) := by
    refine Sh.lc_mapS (os := [.at 4]) (ds := [.list ((movesP ps row).map eDoor)]) (fun d => .bool (match d with | .tuple [.str a, .str b] => nearB h a b | _ => false)) rfl rfl rfl rfl rfl rfl rfl (by rw [List.length_map, hml]; omega) fun d hd => ?_
    obtain ⟨m, _, rfl⟩ := List.mem_map.mp hd
    refine ⟨_, .fz (.bool (nearB h m.1 m.2)), rfl, ?_, rfl, rfl⟩
    simp [E0, e_near]
  have hall : (((movesP ps row).map eDoor).all fun d => (match d with | .tuple [.str a, .str b] => nearB h a b | _ => false)) = nearsB h (movesP ps row) := by
    unfold nearsB
    rw [List.all_map]
    rfl
  have hop := op_all_map (fun d => (match d with | .tuple [.str a, .str b] => nearB h a b | _ => false)) ((movesP ps row).map eDoor)
  rw [hall] at hop
  unfold f_needs needsP
  rw [hsp, fnP_eq, s123]
  have hcond : ∀ n : MS, mSeq (mCond (mNot (mTE (mPure opAll [.ex (mLc ⟨[.sl 4], itSeq⟩ (.tp [.nm 9, .nm 7]) (mYes) (mCall (f_are_near) [.sl 0, .sl 9, .sl 7]) [9, 7])]))) (mRet (mK (.none))) (mSkip)) n E0 = if nearsB h (movesP ps row) = true then n E0 else .ok (.rt (.fz .none), E0) := fun n => by
    generalize ((movesP ps row).map eDoor).map (fun d => PyData.bool (match d with | .tuple [.str a, .str b] => nearB h a b | _ => false)) = W at hlc hop
    cases hb : nearsB h (movesP ps row) <;> rw [hb] at hop <;> simp [hlc, hop]
  rw [hcond]
  cases hb : nearsB h (movesP ps row) with
  | false => simp [encL]
  | true =>
    simp only [if_true]
    have en := e_names_of kh
    let E1 : En := [.fz h.enc, .fz (eBs bs), .fz P, .fz R, .ow (.list ((movesP ps row).map eDoor)), .ow (.dict (zipKD h.names ((zerosP h).map dint))), .no, .no, .no, .no, .no, .no, .no, .no, .no]
    have hd5 : mDc ⟨[.ex (mCall (f_names_of) [.sl 0])], itSeq⟩ (.nm 7) (mYes) (mVar 7) (mK (.int 0)) [7] E0 = .ok (.ow (.dict (zipKD h.names ((zerosP h).map dint))), E0) := by
      have := dc_gen (it := ⟨[.ex (mCall (f_names_of) [.sl 0])], itSeq⟩) (t := .nm 7) (mk := mVar 7) (mv := mK (.int 0)) (vs := [7]) (en := E0) (os := [.va (.list (h.names.map dstr))]) (ds := [.list (h.names.map dstr)]) (items := h.names.map dstr) (fun d => match d with | .str z => z | _ => "") (fun _ => dint 0)
        (by simp [E0, en]) rfl rfl rfl rfl rfl rfl (by rw [List.length_map, names_len]; omega) (by
          rw [List.map_map]
          have : ((fun d => match d with | .str z => z | _ => "") ∘ dstr : Str → Str) = id := rfl
          rw [this, List.map_id]
          exact kh.nd) (fun d hd => by
          obtain ⟨z, _, rfl⟩ := List.mem_map.mp hd
          exact ⟨_, .fz (.int 0), rfl, rfl, rfl, rfl, rfl⟩)
      rw [this, List.map_map, List.map_map]
      have e1 : ((fun d => match d with | .str z => z | _ => "") ∘ dstr : Str → Str) = id := rfl
      have e2 : ((fun _ => dint 0) ∘ dstr : Str → Da) = fun _ => dint 0 := rfl
      rw [e1, List.map_id, e2]
      unfold zerosP
      rw [List.map_map]
      rfl
    have hd6 : mDc ⟨[.ex (mPure opIx [.sl 0, .ex (mK (.int 0))])], itSeq⟩ (.nm 8) (mYes) (mPure opIx [.sl 8, .ex (mK (.int 0))]) (mVar 8) [8] E1 = .ok (.ow (.dict (zipKD h.names (h.rooms.map eRoom))), E1) := by
      have := dc_gen (it := ⟨[.ex (mPure opIx [.sl 0, .ex (mK (.int 0))])], itSeq⟩) (t := .nm 8) (mk := mPure opIx [.sl 8, .ex (mK (.int 0))]) (mv := mVar 8) (vs := [8]) (en := E1) (os := [.va (.tuple (h.rooms.map eRoom))]) (ds := [.tuple (h.rooms.map eRoom)]) (items := h.rooms.map eRoom) (fun d => match d with | .tuple (.str z :: _) => z | _ => "") id
        rfl rfl rfl rfl rfl rfl rfl (by rw [List.length_map]; omega) (by
          rw [List.map_map]
          exact kh.nd) (fun d hd => by
          obtain ⟨r, _, rfl⟩ := List.mem_map.mp hd
          exact ⟨_, .fz (eRoom r), rfl, rfl, rfl, rfl, rfl⟩)
      rw [this, List.map_map, List.map_id]
      rfl
    have h5' : mSet 5 (mDc ⟨[.ex (mCall (f_names_of) [.sl 0])], itSeq⟩ (.nm 7) (mYes) (mVar 7) (mK (.int 0)) [7]) E0 = .ok (.nx, E1) := by
      rw [ev_mset, hd5]
      rfl
    have h6' : mSet 6 (mDc ⟨[.ex (mPure opIx [.sl 0, .ex (mK (.int 0))])], itSeq⟩ (.nm 8) (mYes) (mPure opIx [.sl 8, .ex (mK (.int 0))]) (mVar 8) [8]) E1 = .ok (.nx, ndE h bs P R (.ow (.list ((movesP ps row).map eDoor))) (zerosP h) .no .no .no .no .no .no .no .no) := by
      rw [ev_mset, hd6]
      rfl
    rw [ev_seq, h5']
    simp only [ev_bok]
    rw [ev_seq, h6']
    simp only [ev_bok]
    have hzd : opListZip [.list ((movesP ps row).map eDoor), R] = some (.ow (.list (((movesP ps row).zip row).map eQ))) := by
      rw [← hR]
      show (if ((movesP ps row).map eDoor).length ≤ 1000 then some (Sl.ow (.list (zipD ((movesP ps row).map eDoor) (row.map eCm)))) else none) = _
      rw [if_pos (by rw [List.length_map, hml]; omega), zip_eQ]
    have hrv : revd [.list (((movesP ps row).zip row).map eQ)] = some (.ow (.list ((((movesP ps row).zip row).reverse).map eQ))) := by
      show some (Sl.ow (.list (((movesP ps row).zip row).map eQ).reverse)) = _
      rw [List.map_reverse]
    have hops : evalOps [.ex (mPure revd [.ex (mPure opListZip [.sl 4, .sl 3])])] (ndE h bs P R (.ow (.list ((movesP ps row).map eDoor))) (zerosP h) .no .no .no .no .no .no .no .no) = .ok ([.va (.list ((((movesP ps row).zip row).reverse).map eQ))], ndE h bs P R (.ow (.list ((movesP ps row).map eDoor))) (zerosP h) .no .no .no .no .no .no .no .no) := by
      unfold ndE
      generalize (movesP ps row).map eDoor = W at hzd
      simp [hzd, hrv]
    have hgo := nGo_rev h bs ((movesP ps row).zip row)
    rw [← hgo]
    rcases nd_loop kh (bs := bs) P R (.ow (.list ((movesP ps row).map eDoor))) (.list ((((movesP ps row).zip row).reverse).map eQ)) ((movesP ps row).zip row).reverse (zerosP h) .no .no .no .no .no .no .no .no (zeros_ok kh).len (fun q hq => by
      have hq' := List.mem_reverse.mp hq
      have := List.of_mem_zip hq'
      exact ⟨zip_names hr q hq', (hr q.2 this.2).1⟩) with ⟨l', a7, a9, a10, a11, a12, a13, a14, f1, f2, f3, f4⟩ | ⟨en', f1, f3⟩
    · rw [ev_seq, mfor_of (it := ⟨[.ex (mPure revd [.ex (mPure opListZip [.sl 4, .sl 3])])], itSeq⟩) hops rfl rfl f3, f1]
      simp only [ev_bok]
      have h7 := f4 (fun d => by simp)
      have hres : mLc ⟨[.ex (mCall (f_names_of) [.sl 0])], itSeq⟩ (.nm 7) (mYes) (mPure opIxD [.sl 5, .sl 7]) [7] (ndE h bs P R (.ow (.list ((movesP ps row).map eDoor))) l' a7 .no a9 a10 a11 a12 a13 a14) = .ok (.ow (.list ((h.names.map dstr).map (szD h l'))), ndE h bs P R (.ow (.list ((movesP ps row).map eDoor))) l' a7 .no a9 a10 a11 a12 a13 a14) := by
        refine Sh.lc_mapS (os := [.va (.list (h.names.map dstr))]) (ds := [.list (h.names.map dstr)]) (szD h l') ?_ rfl rfl rfl ?_ rfl rfl (by rw [List.length_map, names_len]; omega) fun d hd => ?_
        · simp [ndE, en]
        · unfold ndE
          cases a7 with
          | ow d => exact absurd rfl (h7 d)
          | _ => rfl
        · obtain ⟨z, hz, rfl⟩ := List.mem_map.mp hd
          refine ⟨_, .fz (.int (szAt h l' z)), rfl, ?_, rfl, rfl⟩
          have := look_sz f2 hz
          unfold ndE
          generalize zipKD h.names (l'.map dint) = Z at this
          simp [dstr, this]
      rw [szD_map kh f2] at hres
      generalize ndE h bs P R (.ow (.list ((movesP ps row).map eDoor))) l' a7 .no a9 a10 a11 a12 a13 a14 = EN at hres
      simp [hres, opTuple, encL]
    · rw [ev_seq, mfor_of (it := ⟨[.ex (mPure revd [.ex (mPure opListZip [.sl 4, .sl 3])])], itSeq⟩) hops rfl rfl f3, f1]
      simp [encL]
end
end Mi
set_option Elab.async false
set_option linter.all false
set_option maxRecDepth 100000
set_option autoImplicit false
/-! the law's can, enough, all sizes -/
namespace Mi
open PySem PySem.Spec PyProof.Rows L2 Sh

theorem op_ne_bb (a b : Bool) : opNe [.bool a, .bool b] = some (.fz (.bool (!(a == b)))) := by
  cases a <;> cases b <;> rfl
section
variable {h : Hs} (kh : HsOk h) {bs : List Int} (hb3 : bs.length ≤ 3)
include kh hb3
theorem e_law_can {ps : List Str} {sz : List Int} (kt : SnOk h bs.length ⟨ps, sz⟩) {row : List (Nat × Str)} (hr : RowOk h bs.length row) : f_law_can [h.enc, eBs bs, .tuple (ps.map dstr), .tuple (sz.map dint), .list (row.map eCm)] = .ok (.fz (.bool (canP h bs ⟨ps, sz⟩ row))) := by
  have e := e_law_gone kh hb3 kt hr
  have e' : f_law_gone [h.enc, eBs bs, .tuple [.tuple (ps.map dstr), .tuple (sz.map dint)], .list (row.map eCm)] = _ := e
  unfold f_law_can m_law_can canP
  rw [fnP_eq]
  generalize PyData.list (row.map eCm) = R at e'
  generalize PyData.tuple (ps.map dstr) = P at e'
  generalize PyData.tuple (sz.map dint) = S at e'
  by_cases hq : (walkP h bs ⟨ps, sz⟩ row).length = row.length
  · rw [if_pos hq] at e'
    generalize lastP ⟨ps, sz⟩ (walkP h bs ⟨ps, sz⟩ row) = u at e'
    have i1 : u.enc.isTuple = true := rfl
    have hfl : flatS (.fz u.enc) = false := rfl
    simp [e', i1, hq, hfl]
  · rw [if_neg hq] at e'
    have i1 : (PyData.int ((walkP h bs ⟨ps, sz⟩ row).length : Int)).isTuple = false := rfl
    generalize ((walkP h bs ⟨ps, sz⟩ row).length : Int) = v at e' i1
    simp [e', i1, hq]
end
def lessD (l : List Int) : Da → Bool
  | .tuple [.int k, .int s] => decide (s < (l[k.toNat]?).getD 0)
  | _ => false
def enoughB (sz : List Int) : Option (List Int) → Bool
  | none => false
  | some l => (enumD 0 (sz.map dint)).all fun d => !lessD l d
theorem enum_get {α : Type} (f : α → Da) {xs : List α} {d : Da} (h : d ∈ enumD 0 (xs.map f)) : ∃ (i : Nat) (hi : i < xs.length), d = .tuple [.int (i : Int), f xs[i]] := by
  obtain ⟨i, hi⟩ := List.mem_iff_getElem?.mp h
  obtain ⟨x, hx, rfl⟩ := enumD_get hi
  rw [List.getElem?_map] at hx
  cases e : xs[i]? with
  | none => rw [e] at hx; cases hx
  | some a =>
    rw [e] at hx
    cases hx
    obtain ⟨h1, h2⟩ := List.getElem?_eq_some_iff.mp e
    exact ⟨i, h1, by simp [h2]⟩
theorem enum_in {α : Type} (f : α → Da) {xs : List α} {i : Nat} (hi : i < xs.length) : PyData.tuple [.int (i : Int), f xs[i]] ∈ enumD 0 (xs.map f) := by
  have : ∀ (xs : List α) (k i : Nat) (hi : i < xs.length), PyData.tuple [.int ((k + i : Nat) : Int), f xs[i]] ∈ enumD k (xs.map f) := fun xs => by
    induction xs with
    | nil => intro k i hi; simp at hi
    | cons x xs ih =>
      intro k i hi
      rw [List.map_cons, enumD]
      cases i with
      | zero => simp
      | succ i =>
        have := ih (k + 1) i (by simpa using hi)
        rw [show k + 1 + i = k + (i + 1) from by omega] at this
        exact List.mem_cons_of_mem _ (by simpa using this)
  have := this xs 0 i hi
  simpa using this
theorem enough_iff {sz l : List Int} (hl : sz.length = l.length) : enoughB sz (some l) = true ↔ ∀ (k : Nat) (hk : k < sz.length), l[k] ≤ sz[k] := by
  unfold enoughB
  rw [List.all_eq_true]
  constructor
  · intro h k hk
    have := h _ (enum_in dint hk)
    simp [lessD, dint, List.getElem?_eq_getElem (show k < l.length by omega)] at this
    exact this
  · intro h d hd
    obtain ⟨i, hi, rfl⟩ := enum_get dint hd
    have := h i hi
    simp [lessD, dint, List.getElem?_eq_getElem (show i < l.length by omega)]
    exact this
theorem e_enough {sz : List Int} {o : Option (List Int)} (ho : ∀ l, o = some l → l.length = sz.length) (hs : sz.length ≤ 1000) : f_law_enough [.tuple (sz.map dint), encL o] = .ok (.fz (.bool (enoughB sz o))) := by
  unfold f_law_enough m_law_enough
  rw [fnP_eq]
  cases o with
  | none =>
    have i0 : opIsNot [.none, .none] = some (.fz (.bool false)) := rfl
    simp [encL, enoughB, i0]
  | some l =>
    have hl := ho l rfl
    have i0 : ∀ ds : List Da, opIsNot [.tuple ds, .none] = some (.fz (.bool true)) := fun _ => rfl
    have hlc : mLc ⟨[.sl 0], itEnum⟩ (.tp [.nm 2, .nm 3]) (mTE (mPure opLt [.sl 3, .ex (mPure opIx [.sl 1, .sl 2])])) (mVar 2) [2, 3] [.fz (.tuple (sz.map dint)), .fz (.tuple (l.map dint)), .no, .no] = .ok (.ow (.list (((enumD 0 (sz.map dint)).filter (lessD l)).map fstD)), [.fz (.tuple (sz.map dint)), .fz (.tuple (l.map dint)), .no, .no]) := by
      refine Sh.lc_filS (os := [.at 0]) (ds := [.tuple (sz.map dint)]) (items := enumD 0 (sz.map dint)) (lessD l) fstD rfl rfl rfl rfl rfl rfl rfl (by rw [enumD_len, List.length_map]; omega) fun d hd => ?_
      obtain ⟨i, hi, rfl⟩ := enum_get dint hd
      refine ⟨_, .fz (.int (i : Int)), rfl, ?_, ?_, rfl, rfl⟩
      · have ix : opIx [.tuple (l.map dint), .int (i : Int)] = some (.fz (.int ((l[i]?).getD 0))) := by
          rw [op_ixT, Sh.atI_nat, List.getElem?_map, List.getElem?_eq_getElem (show i < l.length by omega)]
          rfl
        generalize PyData.tuple (l.map dint) = Lt at ix
        simp [dint, ix, lessD]
      · simp
    have hpl : PyData.plainAll (((enumD 0 (sz.map dint)).filter (lessD l)).map fstD) = true := plainAll_iff.mpr fun x hx => by
      obtain ⟨d, hd, rfl⟩ := List.mem_map.mp hx
      obtain ⟨i, hi, rfl⟩ := enum_get dint (List.mem_filter.mp hd).1
      rfl
    have hop := op_eq_nil _ hpl
    rw [fil_empty] at hop
    generalize ((enumD 0 (sz.map dint)).filter (lessD l)).map fstD = W at hlc hop
    simp [encL, i0, hlc, hop, enoughB]
/-- enough is what is needed -/
theorem can_enough {h : Hs} (kh : HsOk h) {bs : List Int} (kb : BsOk bs) {row : List (Nat × Str)} (hr : RowOk h bs.length row) {ps : List Str} {sz : List Int} (kt : SnOk h bs.length ⟨ps, sz⟩) : canP h bs ⟨ps, sz⟩ row = enoughB sz (needsP h bs ps row) := by
  have hb : ∀ b ∈ bs, 0 ≤ b := fun b hb => (kb.size b hb).1
  have hs := needs_spec kh hb row ps sz hr kt
  have ks := szOk_of kh kt
  have hn := names_len h
  cases e : needsP h bs ps row with
  | none =>
    rw [e] at hs
    cases hc : canP h bs ⟨ps, sz⟩ row with
    | false => rfl
    | true =>
      obtain ⟨l, e2, _⟩ := hs.mp hc
      cases e2
  | some l =>
    have kl := needs_ok kh hb hr e
    have hlen : sz.length = l.length := by rw [kl.len]; exact ks.len
    have key : (∀ y ∈ h.names, szAt h l y ≤ szAt h sz y) ↔ ∀ (k : Nat) (hk : k < sz.length), l[k] ≤ sz[k] := by
      have g1 : ∀ (k : Nat) (hk : k < h.names.length), l[k]? = some (szAt h l h.names[k]) := fun k hk => szAt_get kh kl.len hk
      have g2 : ∀ (k : Nat) (hk : k < h.names.length), sz[k]? = some (szAt h sz h.names[k]) := fun k hk => szAt_get kh ks.len hk
      constructor
      · intro hy k hk
        have hk' : k < h.names.length := by rw [hn, ← kl.len]; omega
        have := hy _ (List.getElem_mem hk')
        have a1 := g1 k hk'
        have a2 := g2 k hk'
        rw [List.getElem?_eq_getElem (by omega)] at a1 a2
        have b1 := Option.some.inj a1
        have b2 := Option.some.inj a2
        omega
      · intro hk y hy
        have hlt := at_lt hy
        have hny : h.names[at' h.names y] = y := by
          have := at_get hy
          rw [List.getElem?_eq_getElem hlt] at this
          exact Option.some.inj this
        have a1 := g1 _ hlt
        have a2 := g2 _ hlt
        rw [hny] at a1 a2
        have hkl : at' h.names y < sz.length := by have h1 : at' h.names y < h.rooms.length := by rw [← hn]; exact hlt
                                                   have := kl.len; omega
        have := hk _ hkl
        rw [List.getElem?_eq_getElem (by omega)] at a1 a2
        have b1 := Option.some.inj a1
        have b2 := Option.some.inj a2
        omega
    rw [e] at hs
    have hs' : canP h bs ⟨ps, sz⟩ row = true ↔ enoughB sz (some l) = true := by
      rw [hs, enough_iff hlen, ← key]
      constructor
      · rintro ⟨l2, e2, hy⟩
        cases e2
        exact hy
      · intro hy
        exact ⟨l, rfl, hy⟩
    cases hc : canP h bs ⟨ps, sz⟩ row <;> cases hd : enoughB sz (some l) <;> simp_all
end Mi
set_option Elab.async false
set_option linter.all false
set_option maxRecDepth 100000
set_option autoImplicit false
/-! all sizes; aimless rows -/
namespace Mi
open PySem PySem.Spec PyProof.Rows L2 Sh

def eSz (sz : List Int) : Da := .tuple (sz.map dint)
def exts (c : Nat) (row : List Int) : List (List Int) := (List.range (c + 1)).map fun k : Nat => row ++ [(k : Int)]
def allS : List (Str × Int × Int) → List (List Int) → List (List Int)
  | [], found => found
  | r :: rs, found => allS rs (found.flatMap (exts r.2.1.toNat))
theorem exts_len (c : Nat) (row : List Int) : (exts c row).length = c + 1 := by simp [exts]
theorem flat_len (c : Nat) : ∀ found : List (List Int), (found.flatMap (exts c)).length = (c + 1) * found.length
  | [] => by simp
  | x :: xs => by
    rw [List.flatMap_cons, List.length_append, exts_len, flat_len c xs, List.length_cons, Nat.mul_add, Nat.mul_one, Nat.add_comm]
noncomputable def as1 : ME := mLc ⟨[.ex (mPure opAdd [.ex (mPure opIx [.sl 2, .ex (mK (.int 1))]), .ex (mK (.int 1))])], itRng⟩ (.nm 5) (mYes) (mPure opAdd [.sl 4, .ex (mPure opTup (exs [mVar 5]))]) [5]
noncomputable def asI : MS := mSet 3 (mPure opAdd [.sl 3, .ex as1])
noncomputable def asB : MS := mSeq (mSet 3 (mPure opLst (exs []))) (mSeq (mFor ⟨[.ex (mVar 1)], itSeq⟩ (.nm 4) asI) (mSet 1 (mVar 3)))
def natOf : Da → Int
  | .int k => k
  | _ => 0
theorem as1_ok (H : Da) (F M : Sl) (r : Str × Int × Int) (c : Nat) (hc : r.2.1 = (c : Int)) (h9 : c ≤ 9) (row : List Int) (hl : row.length ≤ 10) : as1 [.fz H, F, .fz (eRoom r), M, .fz (eSz row), .no] = .ok (.ow (.list ((exts c row).map eSz)), [.fz H, F, .fz (eRoom r), M, .fz (eSz row), .no]) := by
  have hr := itRng_nat (c + 1) (by omega)
  have hm : (exts c row).map eSz = ((List.range (c + 1)).map fun k : Nat => PyData.int (k : Int)).map fun d => eSz (row ++ [natOf d]) := by
    unfold exts
    rw [List.map_map, List.map_map]
    rfl
  rw [hm]
  unfold as1
  refine Sh.lc_mapS (os := [.va (.int ((c + 1 : Nat) : Int))]) (ds := [.int ((c + 1 : Nat) : Int)]) (fun d => eSz (row ++ [natOf d])) ?_ rfl hr rfl rfl rfl rfl (by simp; omega) fun d hd => ?_
  · simp [eRoom, hc]
  · obtain ⟨k, _, rfl⟩ := List.mem_map.mp hd
    refine ⟨_, .fz (eSz (row ++ [(k : Int)])), rfl, ?_, rfl, rfl⟩
    have := add_TT (a := row.map dint) (b := [.int (k : Int)]) (by simp; omega)
    have e2 : eSz (row ++ [(k : Int)]) = .tuple (row.map dint ++ [.int (k : Int)]) := by simp [eSz, dint]
    rw [e2]
    unfold eSz
    simp [this]
theorem asI_loop (D H F : Da) (r : Str × Int × Int) (c : Nat) (hc : r.2.1 = (c : Int)) (h9 : c ≤ 9) : ∀ (rows : List (List Int)) (L : List (List Int)) (s4 : Sl), (∀ row ∈ rows, row.length ≤ 10) → L.length + 10 * rows.length ≤ 500000 →
    ∃ s4', forL [.va D] [D] (.nm 4) asI (rows.map eSz) [.fz H, .fz F, .fz (eRoom r), .ow (.list (L.map eSz)), s4, .no] = .ok (.nx, [.fz H, .fz F, .fz (eRoom r), .ow (.list ((L ++ rows.flatMap (exts c)).map eSz)), s4', .no])
  | [], L, s4, _, _ => ⟨s4, by rw [List.map_nil, forL, if_pos (res_va _ _)]; simp⟩
  | row :: rows, L, s4, hrow, hL => by
    have hL' : L.length + 10 * (rows.length + 1) ≤ 500000 := hL
    obtain ⟨t4, e⟩ := asI_loop D H F r c hc h9 rows (L ++ exts c row) (.fz (eSz row)) (fun q hq => hrow q (by simp [hq])) (by rw [List.length_append, exts_len]; omega)
    refine ⟨t4, ?_⟩
    have e1 := as1_ok H (.fz F) (.ow (.list (L.map eSz))) r c hc h9 row (hrow row (by simp))
    have ha := add_LL (a := L.map eSz) (b := (exts c row).map eSz) (by simp [exts_len]; omega)
    have hb : asI [.fz H, .fz F, .fz (eRoom r), .ow (.list (L.map eSz)), .fz (eSz row), .no] = .ok (.nx, [.fz H, .fz F, .fz (eRoom r), .ow (.list ((L ++ exts c row).map eSz)), .fz (eSz row), .no]) := by
      rw [List.map_append]
      unfold asI
      generalize L.map eSz = L2 at e1 ha
      generalize (exts c row).map eSz = X2 at e1 ha
      simp [e1, ha]
    rw [List.map_cons, forL, if_pos (res_va _ _)]
    have hasg : asg (.nm 4) (eSz row) [.fz H, .fz F, .fz (eRoom r), .ow (.list (L.map eSz)), s4, .no] = some [.fz H, .fz F, .fz (eRoom r), .ow (.list (L.map eSz)), .fz (eSz row), .no] := by simp
    rw [hasg]
    simp only [hb, ev_bok, e]
    rw [List.flatMap_cons, List.append_assoc]
theorem as_loop (D H : Da) : ∀ (rs : List (Str × Int × Int)) (found : List (List Int)) (n : Nat) (F : List (List Int) → Sl) (s2 s3 s4 : Sl), (∀ X, F X = .ow (.list (X.map eSz)) ∨ F X = .fz (.list (X.map eSz))) → (∀ r ∈ rs, 0 ≤ r.2.1 ∧ r.2.1 ≤ 3) → (∀ row ∈ found, row.length ≤ n) → n + rs.length ≤ 5 → found.length * 4 ^ rs.length ≤ 5000 →
    ∃ s1' s2' s3' s4', forL [.va D] [D] (.nm 2) asB (rs.map eRoom) [.fz H, F found, s2, s3, s4, .no] = .ok (.nx, [.fz H, s1', s2', s3', s4', .no]) ∧ (s1' = .ow (.list ((allS rs found).map eSz)) ∨ s1' = .fz (.list ((allS rs found).map eSz)))
  | [], found, n, F, s2, s3, s4, hF, _, _, _, _ => ⟨F found, s2, s3, s4, by rw [List.map_nil, forL, if_pos (res_va _ _)], hF found⟩
  | r :: rs, found, n, F, s2, s3, s4, hF, hr, hfl, hn, hs => by
    obtain ⟨r0, r3⟩ := hr r (by simp)
    obtain ⟨c, hc⟩ := Int.eq_ofNat_of_zero_le r0
    have hc3 : c ≤ 3 := by omega
    have hn' : n + (rs.length + 1) ≤ 5 := hn
    have hs' : found.length * 4 ^ rs.length * 4 ≤ 5000 := by
      have : found.length * 4 ^ (rs.length + 1) ≤ 5000 := hs
      rw [Nat.pow_succ, ← Nat.mul_assoc] at this
      exact this
    have hp : 0 < 4 ^ rs.length := Nat.pow_pos (by decide)
    have hf : found.length ≤ found.length * 4 ^ rs.length := Nat.le_mul_of_pos_right _ (by omega)
    obtain ⟨t4, e1⟩ := asI_loop (.list (found.map eSz)) H (.list (found.map eSz)) r c hc (by omega) found [] s4 (fun q hq => by have := hfl q hq; omega) (by simp; omega)
    have hsm : (found.flatMap (exts c)).length * 4 ^ rs.length ≤ 5000 := by
      rw [flat_len]
      have h1 : (c + 1) * found.length * 4 ^ rs.length ≤ 4 * (found.length * 4 ^ rs.length) := by
        rw [Nat.mul_assoc]
        exact Nat.mul_le_mul_right _ (by omega)
      omega
    obtain ⟨a, b, d, e, e2, e3⟩ := as_loop D H rs (found.flatMap (exts c)) (n + 1) (fun X => .fz (.list (X.map eSz))) (.fz (eRoom r)) (.fz (.list ((found.flatMap (exts c)).map eSz))) t4 (fun _ => .inr rfl) (fun q hq => hr q (by simp [hq])) (fun row hrow => by
      obtain ⟨q, hq, hm⟩ := List.mem_flatMap.mp hrow
      unfold exts at hm
      obtain ⟨k, _, rfl⟩ := List.mem_map.mp hm
      have := hfl q hq
      simp
      omega) (by omega) hsm
    refine ⟨a, b, d, e, ?_, ?_⟩
    · rw [List.map_cons, forL, if_pos (res_va _ _)]
      have hasg : asg (.nm 2) (eRoom r) [.fz H, F found, s2, s3, s4, .no] = some [.fz H, F found, .fz (eRoom r), s3, s4, .no] := by simp
      rw [hasg]
      have hb : asB [.fz H, F found, .fz (eRoom r), s3, s4, .no] = .ok (.nx, [.fz H, .fz (.list ((found.flatMap (exts c)).map eSz)), .fz (eRoom r), .fz (.list ((found.flatMap (exts c)).map eSz)), t4, .no]) := by
        unfold asB
        have hop : evalOps [.ex (mVar 1)] [.fz H, F found, .fz (eRoom r), .ow (.list []), s4, .no] = .ok ([.va (.list (found.map eSz))], [.fz H, .fz (.list (found.map eSz)), .fz (eRoom r), .ow (.list []), s4, .no]) := by
          rcases hF found with hX | hX <;> rw [hX] <;> rfl
        have h3 : mSet 3 (mPure opLst (exs [])) [.fz H, F found, .fz (eRoom r), s3, s4, .no] = .ok (.nx, [.fz H, F found, .fz (eRoom r), .ow (.list []), s4, .no]) := rfl
        rw [ev_seq, h3]
        simp only [ev_bok]
        rw [ev_seq, mfor_of (it := ⟨[.ex (mVar 1)], itSeq⟩) hop rfl rfl e1]
        simp
      simp only [hb, ev_bok]
      exact e2
    · have hct : r.2.1.toNat = c := by rw [hc]; rfl
      rw [allS, hct]
      exact e3
theorem e_all_sizes {h : Hs} (kh : HsOk h) (h3 : h.rooms.length ≤ 3) (hc : ∀ r ∈ h.rooms, r.2.1 ≤ 3) : f_law_all_sizes [h.enc] = .ok (.ow (.list ((allS h.rooms [[]]).map eSz))) ∨ f_law_all_sizes [h.enc] = .ok (.fz (.list ((allS h.rooms [[]]).map eSz))) := by
  have hpow : 4 ^ h.rooms.length ≤ 64 := Nat.pow_le_pow_right (by decide) h3
  obtain ⟨a, b, c, d, e, hs⟩ := as_loop (.tuple (h.rooms.map eRoom)) h.enc h.rooms [[]] 0 (fun X => .ow (.list (X.map eSz))) .no .no .no (fun _ => .inl rfl) (fun r hr => ⟨(kh.room r hr).2.1, hc r hr⟩) (fun row hr => by simp at hr; subst hr; simp) (by omega) (by simp; omega)
  have hsp : m_law_all_sizes = mSeq (mSet 1 (mPure opLst (exs [mPure opTup (exs [])]))) (mSeq (mFor ⟨[.ex (mPure opIx [.sl 0, .ex (mK (.int 0))])], itSeq⟩ (.nm 2) asB) (mRet (mMove 1))) := rfl
  have h1 : mSet 1 (mPure opLst (exs [mPure opTup (exs [])])) (([h.enc] : List Da).map .fz ++ List.replicate 5 .no) = .ok (.nx, [.fz h.enc, .ow (.list (([[]] : List (List Int)).map eSz)), .no, .no, .no, .no]) := rfl
  unfold f_law_all_sizes
  rw [hsp, fnP_eq, ev_seq, h1]
  simp only [ev_bok]
  rw [ev_seq, mfor_of (it := ⟨[.ex (mPure opIx [.sl 0, .ex (mK (.int 0))])], itSeq⟩) rfl rfl rfl e]
  rcases hs with rfl | rfl
  · left
    simp
  · right
    simp
/-- each of them is within the caps -/
theorem allS_ok : ∀ (rs pre : List (Str × Int × Int)) (found : List (List Int)), (∀ r ∈ rs, 0 ≤ r.2.1) → (∀ sz ∈ found, sz.length = pre.length ∧ ∀ (i : Nat) (x : Int) (r : Str × Int × Int), sz[i]? = some x → pre[i]? = some r → 0 ≤ x ∧ x ≤ r.2.1) →
    ∀ sz ∈ allS rs found, sz.length = (pre ++ rs).length ∧ ∀ (i : Nat) (x : Int) (r : Str × Int × Int), sz[i]? = some x → (pre ++ rs)[i]? = some r → 0 ≤ x ∧ x ≤ r.2.1
  | [], pre, found, _, hf, sz, hs => by
    rw [List.append_nil]
    exact hf sz hs
  | r :: rs, pre, found, hr, hf, sz, hs => by
    have := allS_ok rs (pre ++ [r]) (found.flatMap (exts r.2.1.toNat)) (fun q hq => hr q (by simp [hq])) (fun s2 h2 => by
      obtain ⟨q, hq, hm⟩ := List.mem_flatMap.mp h2
      unfold exts at hm
      obtain ⟨k, hk, rfl⟩ := List.mem_map.mp hm
      have hk' := List.mem_range.mp hk
      obtain ⟨g1, g2⟩ := hf q hq
      refine ⟨by simp [g1], fun i x r' hx hr' => ?_⟩
      by_cases hi : i < q.length
      · rw [List.getElem?_append_left hi] at hx
        rw [List.getElem?_append_left (by omega)] at hr'
        exact g2 i x r' hx hr'
      · rw [List.getElem?_append_right (by omega)] at hx
        rw [List.getElem?_append_right (by omega)] at hr'
        have h0 := hr r (by simp)
        have e1 : i - q.length = 0 := by
          have := (List.getElem?_eq_some_iff.mp hx).1
          simp at this
          omega
        have e2 : i - pre.length = 0 := by omega
        rw [e1] at hx
        rw [e2] at hr'
        simp at hx hr'
        subst hx hr'
        omega) sz hs
    simpa using this
theorem all_sizes_ok {h : Hs} (kh : HsOk h) {nb : Nat} {ps : List Str} (pn : ps.length = nb) (pl : ∀ p ∈ ps, p ∈ h.names) {sz : List Int} (hs : sz ∈ allS h.rooms [[]]) : SnOk h nb ⟨ps, sz⟩ := by
  have := allS_ok h.rooms [] [[]] (fun r hr => (kh.room r hr).2.1) (fun s hs => by simp at hs; subst hs; simp) sz hs
  rw [List.nil_append] at this
  refine ⟨pn, pl, this.1, fun i x c hx hc => ?_⟩
  unfold Hs.caps at hc
  rw [List.getElem?_map] at hc
  cases e : h.rooms[i]? with
  | none => rw [e] at hc; cases hc
  | some r =>
    rw [e] at hc
    cases hc
    exact this.2 i x r hx e
end Mi
set_option Elab.async false
set_option linter.all false
set_option maxRecDepth 100000
set_option autoImplicit false
/-! aimless rows -/
namespace Mi
open PySem PySem.Spec PyProof.Rows L2 Sh

def amE (h : Hs) (bs : List Int) (P : Da) (most : Int) (dk : List Da) (s5 : Sl) (here : List Str) (L : List Da) (s8 s9 s10 s11 s12 : Sl) : En := [.ow (.list dk), .fz h.enc, .fz (eBs bs), .fz P, .fz (.int most), s5, .ow (.list (here.map dstr)), .ow (.list L), s8, s9, s10, s11, s12]
noncomputable def amI : MS := mSeq (mSet 9 (mPure opAdd [.sl 9, .ex (mPure opMul [.ex (mPure opLst (exs [mVar 12])), .ex (mPure opInt [.ex (mPure opEq [.sl 11, .ex (mPure opIx [.sl 6, .sl 8])])])])]))
    (mSet 9 (mPure opAdd [.sl 9, .ex (mPure opMul [.ex (mPure opLst (exs [mVar 11])), .ex (mPure opInt [.ex (mPure opEq [.sl 12, .ex (mPure opIx [.sl 6, .sl 8])])])])]))
noncomputable def am1 : MS := mSet 8 (mCallD (f_law_pick) 0 [.ex (mPure opLen [.sl 2])])
noncomputable def am3 : MS := mFor ⟨[.ex (mPure opIx [.sl 1, .ex (mK (.int 1))])], itSeq⟩ (.tp [.nm 11, .nm 12]) amI
noncomputable def am4 : MS := mSet 9 (mIf (mTE (mPure opGt [.ex (mCallD (f_law_pick) 0 [.ex (mK (.int 30))]), .ex (mK (.int 0))])) (mVar 9) (mPure opLst (exs [])))
noncomputable def am5 : MS := mSet 10 (mCallD (f_law_one) 0 [.ex (mPure opAdd [.sl 9, .ex (mPure opMul [.ex (mPure opLst (exs [mPure opIx [.ex (mCallD (f_law_one) 0 [.ex (mPure opIx [.sl 1, .ex (mK (.int 0))])]), .ex (mK (.int 0))]])), .ex (mPure opInt [.ex (mPure opEq [.sl 9, .ex (mPure opLst (exs []))])])])])])
noncomputable def am6 : MS := mSeq (mAppend 7 (mPure opTup (exs [mVar 8, mVar 10]))) (mPut 6 (mVar 8) (mVar 10))
noncomputable def amB : MS := mSeq am1 (mSeq (mSet 9 (mPure opLst (exs []))) (mSeq am3 (mSeq am4 (mSeq am5 am6))))
theorem mul_one' (x : Da) : opMul [.list [x], .int 1] = some (.ow (.list [x])) := rfl
theorem mul_zero' (x : Da) : opMul [.list [x], .int 0] = some (.ow (.list [])) := rfl
theorem int_b (c : Bool) : opInt [.bool c] = some (.fz (.int (if c then 1 else 0))) := rfl
section
variable {h : Hs} (kh : HsOk h) {bs : List Int}
include kh
theorem am_add (zs : List Str) (o : Str) (hl : zs.length ≤ 1000) (c : Bool) : ∃ zs' : List Str, (∀ k : Int, k = (if c then 1 else 0) → ∃ W, opMul [.list [.str o], .int k] = some (.ow (.list W)) ∧ opAdd [.list (zs.map dstr), .list W] = some (.ow (.list (zs'.map dstr)))) ∧ (∀ z ∈ zs', z ∈ zs ∨ z = o) ∧ zs'.length ≤ zs.length + 1 := by
  cases c with
  | false =>
    refine ⟨zs, fun k hk => ⟨[], by rw [hk]; exact mul_zero' _, ?_⟩, fun z hz => .inl hz, by omega⟩
    rw [add_LL (by simp; omega), List.append_nil]
  | true =>
    refine ⟨zs ++ [o], fun k hk => ⟨[.str o], by rw [hk]; exact mul_one' _, ?_⟩, fun z hz => by simpa using hz, by simp⟩
    rw [add_LL (by simp; omega), List.map_append]
    rfl
theorem amI_ok (P : Da) (most : Int) (dk : List Da) (s5 : Sl) (here : List Str) (L : List Da) (b : Nat) (hb : b < here.length) (zs : List Str) (hl : zs.length ≤ 900) (s10 : Sl) (p : Str × Str) :
    ∃ zs' : List Str, amI (amE h bs P most dk s5 here L (.fz (.int (b : Int))) (.ow (.list (zs.map dstr))) s10 (.fz (.str p.1)) (.fz (.str p.2))) = .ok (.nx, amE h bs P most dk s5 here L (.fz (.int (b : Int))) (.ow (.list (zs'.map dstr))) s10 (.fz (.str p.1)) (.fz (.str p.2))) ∧ (∀ z ∈ zs', z ∈ zs ∨ z = p.1 ∨ z = p.2) ∧ zs'.length ≤ zs.length + 2 := by
  have ix : opIx [.list (here.map dstr), .int (b : Int)] = some (.fz (.str here[b])) := by
    rw [op_ixL, Sh.atI_nat, List.getElem?_map, List.getElem?_eq_getElem hb]
    rfl
  have q1 := op_eq_ss kh p.1 here[b]
  have q2 := op_eq_ss kh p.2 here[b]
  obtain ⟨z1, f1, g1, l1⟩ := am_add kh zs p.2 (by omega) (decide (p.1 = here[b]))
  obtain ⟨W1, m1, a1⟩ := f1 _ rfl
  obtain ⟨z2, f2, g2, l2⟩ := am_add kh z1 p.1 (by omega) (decide (p.2 = here[b]))
  obtain ⟨W2, m2, a2⟩ := f2 _ rfl
  refine ⟨z2, ?_, fun z hz => ?_, by omega⟩
  · unfold amE
    generalize here.map dstr = HH at ix
    generalize here[b] = y at ix q1 q2 m1 m2
    generalize zs.map dstr = Z0 at a1
    generalize z1.map dstr = Z1 at a1 a2
    generalize z2.map dstr = Z2 at a2
    have m1' : opMul [.list [.str p.2], .int (if p.1 = y then 1 else 0)] = some (.ow (.list W1)) := by simpa using m1
    have m2' : opMul [.list [.str p.1], .int (if p.2 = y then 1 else 0)] = some (.ow (.list W2)) := by simpa using m2
    simp [amI, ix, q1, q2, int_b, m1', m2', a1, a2, -op_ixL]
  · rcases g2 z hz with h1 | h1
    · rcases g1 z h1 with h2 | h2
      · exact .inl h2
      · exact .inr (.inr h2)
    · exact .inr (.inl h1)
theorem am3_loop (D P : Da) (most : Int) (dk : List Da) (s5 : Sl) (here : List Str) (L : List Da) (b : Nat) (hb : b < here.length) (s10 : Sl) : ∀ (ds : List (Str × Str)) (zs : List Str) (s11 s12 : Sl), (∀ p ∈ ds, p.1 ∈ h.names ∧ p.2 ∈ h.names) → (∀ z ∈ zs, z ∈ h.names) → zs.length + 2 * ds.length ≤ 900 →
    ∃ (zs' : List Str) (s11' s12' : Sl), forL [.va D] [D] (.tp [.nm 11, .nm 12]) amI (ds.map eDoor) (amE h bs P most dk s5 here L (.fz (.int (b : Int))) (.ow (.list (zs.map dstr))) s10 s11 s12) = .ok (.nx, amE h bs P most dk s5 here L (.fz (.int (b : Int))) (.ow (.list (zs'.map dstr))) s10 s11' s12') ∧ (∀ z ∈ zs', z ∈ h.names) ∧ zs'.length ≤ 900
  | [], zs, s11, s12, _, hz, hl => ⟨zs, s11, s12, by rw [List.map_nil, forL, if_pos (res_va _ _)], hz, by simpa using hl⟩
  | p :: ds, zs, s11, s12, hp, hz, hl => by
    have hl' : zs.length + 2 * (ds.length + 1) ≤ 900 := hl
    obtain ⟨z1, e1, g1, l1⟩ := amI_ok kh (bs := bs) P most dk s5 here L b hb zs (by omega) s10 p
    obtain ⟨p1, p2⟩ := hp p (by simp)
    obtain ⟨z2, a, c, e2, g2, l2⟩ := am3_loop D P most dk s5 here L b hb s10 ds z1 (.fz (.str p.1)) (.fz (.str p.2)) (fun q hq => hp q (by simp [hq])) (fun z hz' => by
      rcases g1 z hz' with h1 | h1 | h1
      · exact hz z h1
      · rw [h1]; exact p1
      · rw [h1]; exact p2) (by omega)
    refine ⟨z2, a, c, ?_, g2, l2⟩
    have ha : asg (.tp [.nm 11, .nm 12]) (eDoor p) (amE h bs P most dk s5 here L (.fz (.int (b : Int))) (.ow (.list (zs.map dstr))) s10 s11 s12) = some (amE h bs P most dk s5 here L (.fz (.int (b : Int))) (.ow (.list (zs.map dstr))) s10 (.fz (.str p.1)) (.fz (.str p.2))) := by simp [amE, eDoor]
    rw [List.map_cons, forL, if_pos (res_va _ _), ha]
    simp only [e1, ev_bok]
    exact e2
theorem plain_strs (zs : List Str) : PyData.plainAll (zs.map dstr) = true := plain_names zs
theorem amB_ok (kb : BsOk bs) (P : Da) (most : Int) (s5 : Sl) (here : List Str) (hh : here.length = bs.length) (row : List (Nat × Str)) (hl : row.length ≤ 1000) (s8 s9 s10 s11 s12 : Sl) (n : Nat) (dk : List Da) (hn : n + 4 ≤ 100000000) (hk : DkOk n dk) :
    ∃ (p : Nat × Str) (dk' : List Da) (s8' s9' s10' s11' s12' : Sl), amB (amE h bs P most dk s5 here (row.map eCm) s8 s9 s10 s11 s12) = .ok (.nx, amE h bs P most dk' s5 (here.set p.1 p.2) ((row ++ [p]).map eCm) s8' s9' s10' s11' s12') ∧ p.1 < bs.length ∧ p.2 ∈ h.names ∧ DkOk (n + 4) dk' := by
  have b1 := kb.n1
  have b3 := kb.n3
  have h5 := kh.n5
  have hln : opLen [eBs bs] = some (.fz (.int (bs.length : Int))) := by
    show some (Sl.fz (.int ((bs.map dint).length : Int))) = _
    rw [List.length_map]
  obtain ⟨s, dk1, e1, ⟨v, rfl, v0, v1⟩, k1⟩ := e_pick (bs.length : Int) (by omega) (by omega) n dk (by omega) hk
  obtain ⟨b, rfl⟩ := Int.eq_ofNat_of_zero_le v0
  have hb : b < bs.length := by omega
  have f1 : am1 (amE h bs P most dk s5 here (row.map eCm) s8 s9 s10 s11 s12) = .ok (.nx, amE h bs P most dk1 s5 here (row.map eCm) (.fz (.int (b : Int))) s9 s10 s11 s12) := by
    simp [am1, amE, hln, e1]
  obtain ⟨zs, t11, t12, e3, hz, hzl⟩ := am3_loop kh (bs := bs) (.tuple (h.doors.map eDoor)) P most dk1 s5 here (row.map eCm) b (by omega) s10 h.doors [] s11 s12 (fun p hp => ⟨(kh.door p hp).1, (kh.door p hp).2.1⟩) (fun z hz => by simp at hz) (by have := kh.d25; simp; omega)
  have f3 : am3 (amE h bs P most dk1 s5 here (row.map eCm) (.fz (.int (b : Int))) (.ow (.list [])) s10 s11 s12) = .ok (.nx, amE h bs P most dk1 s5 here (row.map eCm) (.fz (.int (b : Int))) (.ow (.list (zs.map dstr))) s10 t11 t12) := mfor_of (it := ⟨[.ex (mPure opIx [.sl 1, .ex (mK (.int 1))])], itSeq⟩) rfl rfl rfl e3
  obtain ⟨s, dk2, e4, ⟨w, rfl, w0, w1⟩, k2⟩ := e_pick 30 (by decide) (by decide) (n + 1) dk1 (by omega) k1
  -- what is left of some
  have f4 : ∃ (ys : List Str) (s9' : Sl), am4 (amE h bs P most dk1 s5 here (row.map eCm) (.fz (.int (b : Int))) (.ow (.list (zs.map dstr))) s10 t11 t12) = .ok (.nx, amE h bs P most dk2 s5 here (row.map eCm) (.fz (.int (b : Int))) s9' s10 t11 t12) ∧ (s9' = .fz (.list (ys.map dstr)) ∨ s9' = .ow (.list (ys.map dstr))) ∧ (∀ z ∈ ys, z ∈ h.names) ∧ ys.length ≤ 900 := by
    by_cases hw : (0 : Int) < w
    · exact ⟨zs, .fz (.list (zs.map dstr)), by simp [am4, amE, e4, hw], .inl rfl, hz, hzl⟩
    · exact ⟨[], .ow (.list []), by simp [am4, amE, e4, hw], .inr rfl, fun z hz => by simp at hz, by simp⟩
  obtain ⟨ys, t9, f4, ht9, hy, hyl⟩ := f4
  obtain ⟨s, dk3, e5, ⟨x, hx, rfl⟩, k3⟩ := e_one (h.rooms.map eRoom) (.tuple (h.rooms.map eRoom)) (.inr rfl) (by simpa using kh.n1) (by rw [List.length_map]; omega) (n + 2) dk2 (by omega) k2
  obtain ⟨r, hr, rfl⟩ := List.mem_map.mp hx
  have e5' : f_law_one dk2 [.tuple (h.rooms.map eRoom)] = .ok (.fz (.tuple [.str r.1, .int r.2.1, .int r.2.2]), dk3) := e5
  have hrn : r.1 ∈ h.names := List.mem_map.mpr ⟨r, hr, rfl⟩
  have heq := op_eq_nil (ys.map dstr) (plain_strs kh ys)
  obtain ⟨zz, ff, gg, ll⟩ := am_add kh ys r.1 (by omega) (ys.map dstr).isEmpty
  obtain ⟨W, m1, a1⟩ := ff _ rfl
  have hzz : zz ≠ [] := by
    intro e0
    rw [e0] at a1
    by_cases hys : ys = []
    · subst hys
      have m1' : some (Sl.ow (.list [PyData.str r.1])) = some (.ow (.list W)) := m1
      cases m1'
      have : opAdd [.list [], .list [.str r.1]] = some (.ow (.list [.str r.1])) := rfl
      have a1' : opAdd [.list [], .list [.str r.1]] = some (.ow (.list [])) := a1
      rw [this] at a1'
      cases a1'
    · obtain ⟨y, hy'⟩ := List.exists_mem_of_ne_nil ys hys
      have hne : (ys.map dstr).isEmpty = false := by cases ys with | nil => exact absurd rfl hys | cons a b => rfl
      rw [hne] at m1
      have m1' : some (Sl.ow (.list [])) = some (.ow (.list W)) := m1
      cases m1'
      rw [add_LL (by simp; omega), List.append_nil] at a1
      cases ys with
      | nil => exact absurd rfl hys
      | cons a b => simp at a1
  obtain ⟨s, dk4, e6, ⟨x, hx, rfl⟩, k4⟩ := e_one (zz.map dstr) (.list (zz.map dstr)) (.inl rfl) (by simpa using hzz) (by rw [List.length_map]; omega) (n + 3) dk3 (by omega) k3
  obtain ⟨z, hzin, rfl⟩ := List.mem_map.mp hx
  have hzn : z ∈ h.names := by
    rcases gg z hzin with h1 | h1
    · exact hy z h1
    · rw [h1]; exact hrn
  have f5 : am5 (amE h bs P most dk2 s5 here (row.map eCm) (.fz (.int (b : Int))) t9 s10 t11 t12) = .ok (.nx, amE h bs P most dk4 s5 here (row.map eCm) (.fz (.int (b : Int))) t9 (.fz (.str z)) t11 t12) := by
    have e6' : f_law_one dk3 [.list (zz.map dstr)] = .ok (.fz (.str z), dk4) := e6
    generalize zz.map dstr = ZZ at a1 e6'
    generalize ys.map dstr = Y at a1 heq ht9 m1
    have ii := int_b Y.isEmpty
    generalize (if Y.isEmpty = true then (1 : Int) else 0) = k at m1 ii
    rcases ht9 with rfl | rfl <;> simp [am5, amE, e5', heq, ii, m1, a1, e6']
  have f6 : am6 (amE h bs P most dk4 s5 here (row.map eCm) (.fz (.int (b : Int))) t9 (.fz (.str z)) t11 t12) = .ok (.nx, amE h bs P most dk4 s5 (here.set b z) ((row ++ [(b, z)]).map eCm) (.fz (.int (b : Int))) t9 (.fz (.str z)) t11 t12) := by
    have hset : (here.map dstr).set b (.str z) = (here.set b z).map dstr := by
      rw [List.map_set]
      rfl
    have hap : (row ++ [(b, z)]).map eCm = row.map eCm ++ [.tuple [.int (b : Int), .str z]] := by simp [eCm]
    have hix : ixN (here.map dstr).length (b : Int) = some b := ixN_nat (by rw [List.length_map]; omega)
    have hlen : (row.map eCm).length < 1000000 := by rw [List.length_map]; omega
    unfold amE
    rw [← hset, hap]
    generalize here.map dstr = HH at hix
    generalize row.map eCm = RR at hlen
    simp [am6, hix, hlen]
  refine ⟨(b, z), dk4, .fz (.int (b : Int)), t9, .fz (.str z), t11, t12, ?_, hb, hzn, k4⟩
  have f2 : mSet 9 (mPure opLst (exs [])) (amE h bs P most dk1 s5 here (row.map eCm) (.fz (.int (b : Int))) s9 s10 s11 s12) = .ok (.nx, amE h bs P most dk1 s5 here (row.map eCm) (.fz (.int (b : Int))) (.ow (.list [])) s10 s11 s12) := rfl
  unfold amB
  rw [ev_seq, f1]
  simp only [ev_bok]
  rw [ev_seq, f2]
  simp only [ev_bok]
  rw [ev_seq, f3]
  simp only [ev_bok]
  rw [ev_seq, f4]
  simp only [ev_bok]
  rw [ev_seq, f5]
  simp only [ev_bok]
  exact f6
theorem e_aimless (kb : BsOk bs) {ps : List Str} (hp : ps.length = bs.length) (most : Nat) (hm : most ≤ 100) : Dr f_law_aimless [h.enc, eBs bs, .tuple (ps.map dstr), .int (most : Int)] (4 * most + 1) fun s => ∃ row : List (Nat × Str), s = .ow (.list (row.map eCm)) ∧ RowOk h bs.length row ∧ row.length ≤ most := by
  intro n dk hn hk
  obtain ⟨s, dk1, e1, ⟨v, rfl, v0, v1⟩, k1⟩ := e_pick ((most : Int) + 1) (by omega) (by omega) n dk (by omega) hk
  obtain ⟨j, rfl⟩ := Int.eq_ofNat_of_zero_le v0
  have hj : j ≤ most := by omega
  generalize hP : PyData.tuple (ps.map dstr) = P
  have hsp : m_law_aimless = mSeq (mPar [6, 7] [mPure opList [.sl 3], mPure opLst (exs [])]) (mSeq (mFor ⟨[.ex (mCallD (f_law_pick) 0 [.ex (mPure opAdd [.sl 4, .ex (mK (.int 1))])])], itRng⟩ (.nm 5) amB) (mRet (mMove 7))) := rfl
  have h1 : mPar [6, 7] [mPure opList [.sl 3], mPure opLst (exs [])] (.ow (.list dk) :: ([h.enc, eBs bs, P, .int (most : Int)] : List Da).map .fz ++ List.replicate 8 .no) = .ok (.nx, amE h bs P most dk .no ps [] .no .no .no .no .no) := by
    rw [← hP]
    rfl
  have hop : evalOps [.ex (mCallD (f_law_pick) 0 [.ex (mPure opAdd [.sl 4, .ex (mK (.int 1))])])] (amE h bs P most dk .no ps [] .no .no .no .no .no) = .ok ([.va (.int (j : Int))], amE h bs P most dk1 .no ps [] .no .no .no .no .no) := by
    simp [amE, e1]
  have hr := itRng_nat j (by omega)
  obtain ⟨en', e2, ⟨m, dk2, here, row, s5, s8, s9, s10, s11, s12, rfl, hm2, hk2, hh, hro, hrl⟩⟩ := for_rel (ι := Nat) (enc := fun k : Nat => .int (k : Int)) (D := .int (j : Int)) (t := .nm 5) (body := amB)
    (fun r en => ∃ (m : Nat) (dk2 : List Da) (here : List Str) (row : List (Nat × Str)) (s5 s8 s9 s10 s11 s12 : Sl), en = amE h bs P most dk2 s5 here (row.map eCm) s8 s9 s10 s11 s12 ∧ m + 4 * r.length ≤ n + 1 + 4 * j ∧ DkOk m dk2 ∧ here.length = bs.length ∧ RowOk h bs.length row ∧ row.length + r.length ≤ j)
    (fun x r en hI => by
      obtain ⟨m, dk2, here, row, s5, s8, s9, s10, s11, s12, rfl, hm2, hk2, hh, hro, hrl⟩ := hI
      have hrl' : row.length + (r.length + 1) ≤ j := hrl
      have hm2' : m + 4 * (r.length + 1) ≤ n + 1 + 4 * j := hm2
      obtain ⟨p, dk', a, b, c, d, f, e, g1, g2, g4⟩ := amB_ok kh kb P most (.fz (.int (x : Int))) here hh row (by omega) s8 s9 s10 s11 s12 m dk2 (by omega) hk2
      refine ⟨_, _, rfl, e, m + 4, dk', here.set p.1 p.2, row ++ [p], _, a, b, c, d, f, rfl, by omega, g4, by rw [List.length_set, hh], fun q hq => ?_, by simp; omega⟩
      rcases List.mem_append.mp hq with hq | hq
      · exact hro q hq
      · simp at hq
        subst hq
        exact ⟨g1, g2⟩)
    (List.range j) (amE h bs P most dk1 .no ps [] .no .no .no .no .no) ⟨n + 1, dk1, ps, [], .no, .no, .no, .no, .no, .no, rfl, by simp, k1, hp, fun q hq => by simp at hq, by simp⟩
  simp at hm2 hrl
  refine ⟨.ow (.list (row.map eCm)), dk2, ?_, ⟨row, rfl, hro, by omega⟩, hk2.mono (by omega)⟩
  unfold f_law_aimless
  rw [hsp, fnD_eq, ev_seq, h1]
  simp only [ev_bok]
  rw [ev_seq, mfor_of (it := ⟨[.ex (mCallD (f_law_pick) 0 [.ex (mPure opAdd [.sl 4, .ex (mK (.int 1))])])], itRng⟩) hop rfl hr e2]
  simp [amE]
end
end Mi
set_option Elab.async false
set_option linter.all false
set_option maxRecDepth 100000
set_option autoImplicit false
/-! comprehensions that draw, in general -/
namespace Mi
open PySem PySem.Spec PyProof.Rows L2 Sh

theorem lcL_rel {ι : Type} {enc : ι → Da} {D : Da} {t : Tg} {elt : ME} {vs : List Nat} (Inv : List ι → List Da → En → Prop) (hb : ∀ x r acc en, Inv (x :: r) acc en → acc.length < 1000000 ∧ ∃ e1 s e2 y, asg t (enc x) en = some e1 ∧ elt e1 = .ok (s, e2) ∧ s.dat = some y ∧ Inv r (acc ++ [y]) (wipeE e2 vs)) :
    ∀ (xs : List ι) (acc : List Da) (en : En), Inv xs acc en → ∃ acc' en', lcL [.va D] [D] t mYes elt vs (xs.map enc) acc en = .ok (acc', en') ∧ Inv [] acc' en'
  | [], acc, en, h => ⟨acc, en, by rw [List.map_nil, lcL, if_pos (res_va _ _)], h⟩
  | x :: xs, acc, en, h => by
    obtain ⟨hl, e1, s, e2, y, h1, h2, h3, h4⟩ := hb x xs acc en h
    obtain ⟨acc', en', h5, h6⟩ := lcL_rel Inv hb xs (acc ++ [y]) (wipeE e2 vs) h4
    refine ⟨acc', en', ?_, h6⟩
    rw [List.map_cons, lcL, if_pos (res_va _ _), h1]
    simp only [ev_yes, ev_nx, ev_bok, if_true, h2, h3, hl]
    exact h5
theorem lc_of {it : ItM} {t : Tg} {elt : ME} {vs : List Nat} {en en1 en2 : En} {os : List Op} {ds items acc : List Da} (h1 : evalOps it.ops en = .ok (os, en1)) (h2 : resAll en1 os = some ds) (h3 : it.items ds = some items) (h4 : (atSlots os).all (fun i => !vs.contains i) = true)
    (h : lcL os ds t mYes elt vs items [] (wipeE (frzE en1 vs) vs) = .ok (acc, en2)) : mLc it t mYes elt vs en = .ok (.ow (.list acc), restE (frzE en1 vs) en2 vs) := by
  rw [ev_lc, h1]
  simp only [ev_bok, h2, h3, h4, if_true, h]
end Mi
set_option Elab.async false
set_option linter.all false
set_option maxRecDepth 100000
set_option autoImplicit false
/-! more room lets more: plain -/
namespace Mi
open PySem PySem.Spec PyProof.Rows L2 Sh

structure Eas (h h' : Hs) (bs bs' : List Int) : Prop where
  names : h'.names = h.names
  caps : ∀ y, capAt h' y = capAt h y
  loss : ∀ y ∈ h.names, lossAt h' y ≤ lossAt h y
  near : ∀ x z, nearB h x z = true → nearB h' x z = true
  more : ∀ x y, moreL h.gains x y ≤ moreL h'.gains x y
  blen : bs'.length = bs.length
  bsz : ∀ k : Nat, (bs'[k]?).getD 0 ≤ (bs[k]?).getD 0
def leS (h : Hs) (a b : List Int) : Prop := ∀ y ∈ h.names, szAt h a y ≤ szAt h b y
theorem Eas.szAt {h h' : Hs} {bs bs' : List Int} (E : Eas h h' bs bs') (l : List Int) (y : Str) : szAt h' l y = Mi.szAt h l y := by
  unfold Mi.szAt
  rw [E.names]
theorem come_mono {h h' : Hs} (kh : HsOk h) (kh' : HsOk h') {bs bs' : List Int} (E : Eas h h' bs bs') {ps : List Str} {sz sz' : List Int} (kt : SnOk h bs.length ⟨ps, sz⟩) (kt' : SnOk h' bs'.length ⟨ps, sz'⟩) (hle : leS h sz sz') {b : Nat} {z : Str} (hz : z ∈ h.names) {t : Sn} (e : comeP h bs ⟨ps, sz⟩ b z = some t) :
    ∃ s2, comeP h' bs' ⟨ps, sz'⟩ b z = some ⟨t.places, s2⟩ ∧ leS h t.sizes s2 := by
  unfold comeP at e
  split at e
  case isTrue => cases e
  case isFalse hc =>
  cases e
  simp only [Bool.or_eq_true, not_or, Bool.not_eq_true', decide_eq_true_eq, Bool.not_eq_false] at hc
  obtain ⟨c1, c2⟩ := hc
  have hz' : z ∈ h'.names := by rw [E.names]; exact hz
  have c1' : nearB h' (plAt ⟨ps, sz'⟩ b) z = true := E.near _ _ c1
  have hb := E.bsz b
  have hs := hle z hz
  have c2' : ¬ Mi.szAt h' sz' z < (bs'[b]?).getD 0 := by
    rw [E.szAt]
    have : ¬ Mi.szAt h sz z < (bs[b]?).getD 0 := c2
    omega
  refine ⟨cSz h' (plAt ⟨ps, sz'⟩ b) z sz', ?_, fun y hy => ?_⟩
  · unfold comeP
    rw [c1']
    simp only [Bool.not_true, Bool.false_or, decide_eq_true_eq]
    rw [if_neg c2']
  · have ks : SzOk h sz := szOk_of kh kt
    have ks' : SzOk h' sz' := szOk_of kh' kt'
    have hy' : y ∈ h'.names := by rw [E.names]; exact hy
    show Mi.szAt h (cSz h (plAt ⟨ps, sz⟩ b) z sz) y ≤ Mi.szAt h (cSz h' (plAt ⟨ps, sz'⟩ b) z sz') y
    rw [← E.szAt (cSz h' (plAt ⟨ps, sz'⟩ b) z sz')]
    rw [cSz_at kh ks _ hz hy, cSz_at kh' ks' _ hz' hy', E.caps, E.szAt]
    have hpl : plAt ⟨ps, sz'⟩ b = plAt ⟨ps, sz⟩ b := rfl
    rw [hpl]
    have hm := E.more (plAt ⟨ps, sz⟩ b) y
    have hl := E.loss y hy
    have hyy := hle y hy
    have hmx0 : ∀ i : Int, mx0 i = max 0 i := fun i => by unfold mx0; split <;> omega
    have hmn : ∀ i j : Int, mn i j = min i j := fun i j => by unfold mn; split <;> omega
    split
    · rw [hmx0, hmx0, hmn, hmn]; omega
    · rw [hmn, hmn]; omega
theorem walk_mono {h h' : Hs} (kh : HsOk h) (kh' : HsOk h') {bs bs' : List Int} (E : Eas h h' bs bs') : ∀ (row : List (Nat × Str)) (ps : List Str) (sz sz' : List Int), RowOk h bs.length row → SnOk h bs.length ⟨ps, sz⟩ → SnOk h' bs'.length ⟨ps, sz'⟩ → leS h sz sz' → canP h bs ⟨ps, sz⟩ row = true →
    canP h' bs' ⟨ps, sz'⟩ row = true ∧ (lastP ⟨ps, sz'⟩ (walkP h' bs' ⟨ps, sz'⟩ row)).places = (lastP ⟨ps, sz⟩ (walkP h bs ⟨ps, sz⟩ row)).places ∧ leS h (lastP ⟨ps, sz⟩ (walkP h bs ⟨ps, sz⟩ row)).sizes (lastP ⟨ps, sz'⟩ (walkP h' bs' ⟨ps, sz'⟩ row)).sizes
  | [], ps, sz, sz', _, _, _, hle, _ => ⟨rfl, rfl, hle⟩
  | p :: row, ps, sz, sz', hr, kt, kt', hle, hc => by
    rw [canP_cons] at hc
    obtain ⟨g1, g2⟩ := hr p (by simp)
    cases e : comeP h bs ⟨ps, sz⟩ p.1 p.2 with
    | none => rw [e] at hc; cases hc
    | some t =>
      rw [e] at hc
      obtain ⟨ps2, sz2⟩ := t
      obtain ⟨s2, e', hle2⟩ := come_mono kh kh' E kt kt' hle g2 e
      have ku := come_ok kh kt g1 g2 e
      have ku' := come_ok kh' kt' (by rw [E.blen]; exact g1) (by rw [E.names]; exact g2) e'
      have ih := walk_mono kh kh' E row ps2 sz2 s2 (fun q hq => hr q (by simp [hq])) ku ku' hle2 hc
      have w1 : walkP h bs ⟨ps, sz⟩ (p :: row) = ⟨ps2, sz2⟩ :: walkP h bs ⟨ps2, sz2⟩ row := by rw [walkP, e]
      have w2 : walkP h' bs' ⟨ps, sz'⟩ (p :: row) = ⟨ps2, s2⟩ :: walkP h' bs' ⟨ps2, s2⟩ row := by rw [walkP, e']
      rw [canP_cons, e', w1, w2]
      exact ih
theorem rowOk_eas {h h' : Hs} {bs bs' : List Int} (E : Eas h h' bs bs') {row : List (Nat × Str)} (hr : RowOk h bs.length row) : RowOk h' bs'.length row := fun p hp => by
  rw [E.blen, E.names]
  exact hr p hp
theorem needs_mono {h h' : Hs} (kh : HsOk h) (kh' : HsOk h') {bs bs' : List Int} (hb : ∀ b ∈ bs, 0 ≤ b) (hb' : ∀ b ∈ bs', 0 ≤ b) (E : Eas h h' bs bs') {row : List (Nat × Str)} (hr : RowOk h bs.length row) {ps : List Str} (pn : ps.length = bs.length) (pl : ∀ p ∈ ps, p ∈ h.names) {l : List Int} (e : needsP h bs ps row = some l) :
    ∃ l', needsP h' bs' ps row = some l' ∧ leS h l' l := by
  have kl := needs_ok kh hb hr e
  have kt : SnOk h bs.length ⟨ps, l⟩ := snOk_of kh (t := ⟨ps, l⟩) pn pl kl
  have kl' : SzOk h' l := by
    refine ⟨?_, fun y hy => ?_, fun y hy => ?_⟩
    · rw [kl.len, ← names_len, ← names_len, E.names]
    · rw [E.szAt]; exact kl.lo y (by rw [← E.names]; exact hy)
    · rw [E.szAt, E.caps]; exact kl.hi y (by rw [← E.names]; exact hy)
  have kt' : SnOk h' bs'.length ⟨ps, l⟩ := snOk_of kh' (t := ⟨ps, l⟩) (by rw [E.blen]; exact pn) (fun p hp => by rw [E.names]; exact pl p hp) kl'
  have hc := (needs_spec kh hb row ps l hr kt).mpr ⟨l, e, fun y _ => Int.le_refl _⟩
  have hc' := (walk_mono kh kh' E row ps l l hr kt kt' (fun y _ => Int.le_refl _) hc).1
  obtain ⟨l', e', hle⟩ := (needs_spec kh' hb' row ps l (rowOk_eas E hr) kt').mp hc'
  exact ⟨l', e', fun y hy => by
    have := hle y (by rw [E.names]; exact hy)
    rw [E.szAt, E.szAt] at this
    exact this⟩
/-! ### how a house is eased -/
def softR (r r' : Str × Int × Int) : Prop := r'.1 = r.1 ∧ r'.2.1 = r.2.1 ∧ 0 ≤ r'.2.2 ∧ r'.2.2 ≤ r.2.2
theorem soft_names : ∀ {rs rs' : List (Str × Int × Int)}, Al2 softR rs rs' → rs'.map (·.1) = rs.map (·.1) ∧ rs'.map (·.2.1) = rs.map (·.2.1)
  | _, _, .nil => ⟨rfl, rfl⟩
  | _, _, .cons h t => by
    obtain ⟨a, b⟩ := soft_names t
    simp [h.1, h.2.1, a, b]
theorem soft_refl : ∀ {rs : List (Str × Int × Int)}, (∀ r ∈ rs, 0 ≤ r.2.2) → Al2 softR rs rs
  | [], _ => .nil
  | r :: rs, h => .cons ⟨rfl, rfl, h r (by simp), Int.le_refl _⟩ (soft_refl fun q hq => h q (by simp [hq]))
def wideG (g : Str × Str × Int) : Str × Str × Int := (g.1, g.2.1, mn 9 (g.2.2 + 1))
theorem fpL_mem : ∀ {l : List Str} {p : Str × Str}, p ∈ fpL l → p.1 ∈ l ∧ p.2 ∈ l
  | [], p, h => by simp [fpL] at h
  | a :: r, p, h => by
    rw [fpL] at h
    rcases List.mem_append.mp h with h | h
    · obtain ⟨o, ho, rfl⟩ := List.mem_map.mp h
      exact ⟨by simp, by simp [ho]⟩
    · obtain ⟨h1, h2⟩ := fpL_mem h
      exact ⟨by simp [h1], by simp [h2]⟩
theorem fpL_lt : ∀ {l : List Str}, (l.Pairwise fun a b => ltSS a b = true) → ∀ p ∈ fpL l, ltSS p.1 p.2 = true
  | [], _, p, h => by simp [fpL] at h
  | a :: r, hp, p, h => by
    obtain ⟨h1, h2⟩ := List.pairwise_cons.mp hp
    rw [fpL] at h
    rcases List.mem_append.mp h with h | h
    · obtain ⟨o, ho, rfl⟩ := List.mem_map.mp h
      exact h1 o ho
    · exact fpL_lt h2 p h
theorem lt_irr (x : Str) : ltSS x x = false := by
  cases h : ltSS x x with
  | false => rfl
  | true => have := lt_asym h; rw [h] at this; exact this
theorem fpL_in : ∀ {l : List Str} {a b : Str}, (l.Pairwise fun a b => ltSS a b = true) → a ∈ l → b ∈ l → ltSS a b = true → (a, b) ∈ fpL l
  | [], a, b, _, h, _, _ => by simp at h
  | c :: r, a, b, hp, ha, hb, hlt => by
    obtain ⟨h1, h2⟩ := List.pairwise_cons.mp hp
    rw [fpL]
    rcases List.mem_cons.mp ha with rfl | ha'
    · rcases List.mem_cons.mp hb with rfl | hb'
      · rw [lt_irr] at hlt; cases hlt
      · exact List.mem_append.mpr (.inl (List.mem_map.mpr ⟨b, hb', rfl⟩))
    · rcases List.mem_cons.mp hb with rfl | hb'
      · have := h1 a ha'
        rw [lt_asym this] at hlt
        cases hlt
      · exact List.mem_append.mpr (.inr (fpL_in h2 ha' hb' hlt))
theorem ne_of_lt {a b : Str} (h : ltSS a b = true) : a ≠ b := fun e => by subst e; rw [lt_irr] at h; cases h
theorem fpL_pw : ∀ {l : List Str}, (l.Pairwise fun a b => ltSS a b = true) → (fpL l).Pairwise fun p q => PySem.W.dataLt (eDoor p) (eDoor q) = true
  | [], _ => by simp [fpL]
  | a :: r, hp => by
    obtain ⟨h1, h2⟩ := List.pairwise_cons.mp hp
    rw [fpL]
    refine List.pairwise_append.mpr ⟨?_, fpL_pw h2, fun p hp q hq => ?_⟩
    · refine List.Pairwise.map _ ?_ h2
      intro x y hxy
      rw [lt_door]
      simp only [if_true]
      rw [if_neg (ne_of_lt hxy), lt_ss]
      exact hxy
    · obtain ⟨o, ho, rfl⟩ := List.mem_map.mp hp
      have hq1 := (fpL_mem hq).1
      have := h1 q.1 hq1
      rw [lt_door]
      simp only
      rw [if_neg (ne_of_lt this), lt_ss]
      exact this
theorem fpL_len : ∀ l : List Str, l.length ≤ 5 → (fpL l).length ≤ 25 := fun l hl => by
  have : ∀ l : List Str, (fpL l).length ≤ l.length * l.length := fun l => by
    induction l with
    | nil => simp [fpL]
    | cons a r ih =>
      rw [fpL, List.length_append, List.length_map, List.length_cons]
      have : (r.length + 1) * (r.length + 1) = r.length * r.length + r.length + r.length + 1 := by
        rw [Nat.add_mul, Nat.mul_add]; omega
      omega
  have h1 := this l
  have h2 : l.length * l.length ≤ 5 * 5 := Nat.mul_le_mul hl hl
  omega
theorem HsOk.npw {h : Hs} (kh : HsOk h) : h.names.Pairwise fun a b => ltSS a b = true := by
  have := rising_pw kh.ris
  have h2 := List.pairwise_map.mp this
  exact List.Pairwise.imp (fun {a b} (x : PySem.W.dataLt (dstr a) (dstr b) = true) => by rw [← lt_ss]; exact x) h2
theorem wide_key (gs : List (Str × Str × Int)) : (gs.map wideG).map gKey = gs.map gKey := by
  rw [List.map_map]
  rfl
theorem wide_more : ∀ (gs : List (Str × Str × Int)) (x y : Str), (∀ g ∈ gs, g.2.2 ≤ 9) → moreL gs x y ≤ moreL (gs.map wideG) x y
  | [], _, _, _ => Int.le_refl _
  | g :: gs, x, y, h => by
    have ih := wide_more gs x y fun q hq => h q (by simp [hq])
    have h9 := h g (by simp)
    rw [List.map_cons, more_cons, more_cons]
    have hk : gKey (wideG g) = gKey g := rfl
    rw [hk]
    have hw : g.2.2 ≤ (wideG g).2.2 := by
      show g.2.2 ≤ mn 9 (g.2.2 + 1)
      unfold mn
      split <;> omega
    split <;> omega
/-- an eased house -/
theorem eased_ok {h : Hs} (kh : HsOk h) {rs' : List (Str × Int × Int)} (hs : Al2 softR h.rooms rs') {ds' : List (Str × Str)} (hd : ds' = h.doors ∨ ds' = fpL h.names) {gs' : List (Str × Str × Int)} (hg : gs' = h.gains ∨ gs' = h.gains.map wideG) :
    HsOk ⟨rs', ds', gs'⟩ ∧ ∀ {bs bs' : List Int}, bs'.length = bs.length → (∀ k : Nat, (bs'[k]?).getD 0 ≤ (bs[k]?).getD 0) → Eas h ⟨rs', ds', gs'⟩ bs bs' := by
  obtain ⟨hn, hc⟩ := soft_names hs
  have hlen : rs'.length = h.rooms.length := hs.len.symm
  have hnm : (⟨rs', ds', gs'⟩ : Hs).names = h.names := hn
  have hcp : (⟨rs', ds', gs'⟩ : Hs).caps = h.caps := hc
  have hdoor : ∀ p ∈ ds', p.1 ∈ h.names ∧ p.2 ∈ h.names ∧ PySem.W.dataLt (.str p.1) (.str p.2) = true := by
    rcases hd with rfl | rfl
    · exact kh.door
    · intro p hp
      obtain ⟨h1, h2⟩ := fpL_mem hp
      exact ⟨h1, h2, by rw [lt_ss]; exact fpL_lt kh.npw p hp⟩
  have hgain : ∀ g ∈ gs', g.1 ∈ h.names ∧ g.2.1 ∈ h.names ∧ 1 ≤ g.2.2 ∧ g.2.2 ≤ 9 := by
    rcases hg with rfl | rfl
    · exact kh.gain
    · intro g hg
      obtain ⟨q, hq, rfl⟩ := List.mem_map.mp hg
      obtain ⟨h1, h2, h3, h4⟩ := kh.gain q hq
      refine ⟨h1, h2, ?_, ?_⟩
      · show 1 ≤ mn 9 (q.2.2 + 1)
        unfold mn
        split <;> omega
      · exact mn_le _ _
  refine ⟨⟨?_, ?_, ?_, ?_, ?_, ?_, ?_, ?_, ?_, ?_⟩, fun hb1 hb2 => ⟨hnm, fun y => ?_, fun y hy => ?_, fun x z hx => ?_, fun x y => ?_, hb1, hb2⟩⟩
  · intro e
    have : h.rooms.length = 0 := by rw [← hlen]; show rs'.length = 0; rw [show rs' = [] from e]; rfl
    exact kh.n1 (List.length_eq_zero_iff.mp this)
  · show rs'.length ≤ 5
    rw [hlen]; exact kh.n5
  · intro r' hr'
    obtain ⟨r, hr, h1, h2, h3, h4⟩ := hs.right r' hr'
    obtain ⟨k1, k2, k3, k4, k5⟩ := kh.room r hr
    rw [h1, h2]
    exact ⟨k1, k2, k3, h3, by omega⟩
  · rw [hnm]; exact kh.ris
  · intro p hp
    rw [hnm]
    exact hdoor p hp
  · rcases hd with rfl | rfl
    · exact kh.dris
    · exact rising_of (List.pairwise_map.mpr (fpL_pw kh.npw))
  · rcases hd with rfl | rfl
    · exact kh.d25
    · exact fpL_len _ (by rw [names_len]; exact kh.n5)
  · intro g hgm
    rw [hnm]
    exact hgain g hgm
  · rcases hg with rfl | rfl
    · exact kh.gris
    · have : (h.gains.map wideG).map (fun g => eDoor (g.1, g.2.1)) = h.gains.map fun g => eDoor (g.1, g.2.1) := by
        rw [List.map_map]
        rfl
      show rising ((h.gains.map wideG).map fun g => eDoor (g.1, g.2.1)) = true
      rw [this]
      exact kh.gris
  · rcases hg with rfl | rfl
    · exact kh.g10
    · show (h.gains.map wideG).length ≤ 10
      rw [List.length_map]; exact kh.g10
  · unfold capAt
    rw [hcp, hnm]
  · unfold lossAt
    rw [hnm]
    have hlt := at_lt hy
    rw [names_len] at hlt
    have e1 : h.rooms[at' h.names y]? = some h.rooms[at' h.names y] := List.getElem?_eq_getElem hlt
    have e2 : rs'[at' h.names y]? = some rs'[at' h.names y] := List.getElem?_eq_getElem (by omega)
    have := hs.get e1 e2
    show (rs'[at' h.names y]?.map (·.2.2)).getD 0 ≤ _
    rw [e1, e2]
    exact this.2.2.2
  · unfold nearB at hx ⊢
    have hx' := of_decide_eq_true hx
    refine decide_eq_true ?_
    rcases hd with rfl | rfl
    · exact hx'
    · obtain ⟨k1, k2, k3⟩ := kh.door _ hx'
      exact fpL_in kh.npw k1 k2 (by rw [← lt_ss]; exact k3)
  · rcases hg with rfl | rfl
    · exact Int.le_refl _
    · exact wide_more _ _ _ fun g hg => (kh.gain g hg).2.2.2
end Mi
set_option Elab.async false
set_option linter.all false
set_option maxRecDepth 100000
set_option autoImplicit false
/-! eased halls, drawn -/
namespace Mi
open PySem PySem.Spec PyProof.Rows L2 Sh

/-- a comprehension that draws, item by item -/
theorem lcL_draw {ι β : Type} {enc : ι → Da} {out : β → Da} {os : List Op} {ds : List Da} {t : Tg} {elt : ME} {vs : List Nat} (P : ι → β → Prop) (c : Nat) (mk : List Da → En) (hres : ∀ dk, resAll (mk dk) os = some ds) :
    ∀ (xs : List ι) (acc : List Da) (n : Nat) (dk : List Da), (∀ x ∈ xs, ∀ (n : Nat) (dk : List Da), n + c ≤ 100000000 → DkOk n dk → ∃ e1 s e2 y dk', asg t (enc x) (mk dk) = some e1 ∧ elt e1 = .ok (s, e2) ∧ s.dat = some (out y) ∧ P x y ∧ wipeE e2 vs = mk dk' ∧ DkOk (n + c) dk') →
      n + c * xs.length ≤ 100000000 → DkOk n dk → acc.length + xs.length ≤ 1000 → ∃ ys dk', lcL os ds t mYes elt vs (xs.map enc) acc (mk dk) = .ok (acc ++ List.map out ys, mk dk') ∧ Al2 P xs ys ∧ DkOk (n + c * xs.length) dk'
  | [], acc, n, dk, _, _, hk, _ => ⟨[], dk, by rw [List.map_nil, lcL, if_pos (hres dk)]; simp, .nil, by simpa using hk⟩
  | x :: xs, acc, n, dk, hs, hn, hk, hl => by
    have hn' : n + c * (xs.length + 1) ≤ 100000000 := hn
    have hl' : acc.length + (xs.length + 1) ≤ 1000 := hl
    rw [Nat.mul_add, Nat.mul_one] at hn'
    obtain ⟨e1, s, e2, y, dk1, h1, h2, h3, h4, h5, h6⟩ := hs x (by simp) n dk (by omega) hk
    obtain ⟨ys, dk2, h7, h8, h9⟩ := lcL_draw P c mk hres xs (acc ++ [out y]) (n + c) dk1 (fun q hq => hs q (by simp [hq])) (by omega) h6 (by simp; omega)
    refine ⟨y :: ys, dk2, ?_, .cons h4 h8, ?_⟩
    · have hlt : acc.length < 1000000 := by omega
      rw [List.map_cons, lcL, if_pos (hres dk), h1]
      simp only [ev_yes, ev_nx, ev_bok, if_true, h2, h3, hlt, h5]
      rw [h7]
      simp
    · rw [List.length_cons, Nat.mul_add, Nat.mul_one]
      have : n + c + c * xs.length = n + (c * xs.length + c) := by omega
      rw [← this]
      exact h9
def eaE (h : Hs) (bs : List Int) (t : Sn) (dk : List Da) (n m l s w e f s15 s16 : Sl) : En := [.ow (.list dk), .fz (.tuple [h.enc, eBs bs, t.enc]), n, m, l, s, w, e, f, .fz h.enc, .fz (eBs bs), .fz t.enc, .fz (.tuple (h.rooms.map eRoom)), .fz (.tuple (h.doors.map eDoor)), .fz (.tuple (h.gains.map eGain)), s15, s16, .no, .no, .no, .no, .no, .no, .no, .no]
noncomputable def ea3 : MS := mSet 2 (mLc ⟨[.sl 12], itSeq⟩ (.nm 17) (mYes) (mPure opIx [.sl 17, .ex (mK (.int 0))]) [17])
noncomputable def el4 : ME := mLc ⟨[.sl 12, .ex (mPure opIx [.sl 11, .ex (mK (.int 1))])], itZip⟩ (.tp [.nm 17, .nm 18]) (mYes) (mPure opMin2 [.ex (mPure opIx [.sl 17, .ex (mK (.int 1))]), .ex (mPure opAdd [.sl 18, .ex (mCallD (f_law_pick) 0 [.ex (mK (.int 3))])])]) [17, 18]
noncomputable def ea4 : MS := mSet 3 (mPure opTuple [.ex el4])
noncomputable def el5 : ME := mLc ⟨[.sl 10], itSeq⟩ (.nm 18) (mYes) (mPure opMax2 [.ex (mK (.int 0)), .ex (mPure opSub [.sl 18, .ex (mCallD (f_law_pick) 0 [.ex (mK (.int 2))])])]) [18]
noncomputable def ea5 : MS := mSet 4 (mPure opTuple [.ex el5])
noncomputable def el6 : ME := mLc ⟨[.sl 12], itSeq⟩ (.tp [.nm 19, .nm 20, .nm 21]) (mYes) (mPure opTup (exs [mVar 19, mVar 20, mPure opMax2 [.ex (mK (.int 0)), .ex (mPure opSub [.sl 21, .ex (mCallD (f_law_pick) 0 [.ex (mK (.int 2))])])]])) [19, 20, 21]
noncomputable def ea6 : MS := mSet 5 (mPure opTuple [.ex el6])
noncomputable def el7 : ME := mLc ⟨[.sl 14], itSeq⟩ (.tp [.nm 22, .nm 19, .nm 23]) (mYes) (mPure opTup (exs [mVar 22, mVar 19, mPure opMin2 [.ex (mK (.int 9)), .ex (mPure opAdd [.sl 23, .ex (mK (.int 1))])]])) [22, 19, 23]
noncomputable def ea7 : MS := mSet 6 (mPure opTuple [.ex el7])
noncomputable def el9 : ME := mLc ⟨[.ex (mPure opSlLo [.sl 2, .ex (mPure opAdd [.sl 15, .ex (mK (.int 1))])])], itSeq⟩ (.nm 24) (mYes) (mPure opTup (exs [mVar 16, mVar 24])) [24]
noncomputable def eb9 : MS := mSet 7 (mPure opAdd [.sl 7, .ex el9])
noncomputable def ea9 : MS := mFor ⟨[.ex (mVar 2)], itEnum⟩ (.tp [.nm 15, .nm 16]) eb9
noncomputable def ea10 : MS := mSet 8 (mPure opLst (exs [mPure opTup (exs [mVar 9, mVar 10, mPure opTup (exs [mPure opIx [.sl 11, .ex (mK (.int 0))], mVar 3])]), mPure opTup (exs [mVar 9, mVar 4, mVar 11]), mPure opTup (exs [mPure opTup (exs [mVar 5, mVar 13, mVar 14]), mVar 10, mVar 11])]))
noncomputable def ea11 : MS := mSet 8 (mPure opAdd [.sl 8, .ex (mPure opLst (exs [mPure opTup (exs [mPure opTup (exs [mVar 12, mVar 13, mVar 6]), mVar 10, mVar 11]), mPure opTup (exs [mPure opTup (exs [mVar 12, mPure opTuple [.sl 7], mVar 14]), mVar 10, mVar 11])]))])
noncomputable def ea12 : MS := mRet (mPure opAdd [.sl 8, .ex (mPure opLst (exs [mPure opTup (exs [mPure opTup (exs [mVar 5, mPure opTuple [.sl 7], mVar 6]), mVar 4, mPure opTup (exs [mPure opIx [.sl 11, .ex (mK (.int 0))], mVar 3])])]))])
theorem ea_split : m_law_eased = mSeq (mAsg (.tp [.nm 9, .nm 10, .nm 11]) (mVar 1)) (mSeq (mAsg (.tp [.nm 12, .nm 13, .nm 14]) (mVar 9)) (mSeq ea3 (mSeq ea4 (mSeq ea5 (mSeq ea6 (mSeq ea7 (mSeq (mSet 7 (mPure opLst (exs []))) (mSeq ea9 (mSeq ea10 (mSeq ea11 ea12)))))))))) := rfl
def moreP (q : (Str × Int × Int) × Int) (x : Int) : Prop := (q.2 ≤ q.1.2.1 → q.2 ≤ x) ∧ x ≤ q.1.2.1
def lessP (b x : Int) : Prop := 0 ≤ x ∧ (0 ≤ b → x ≤ b)
def eRS (q : (Str × Int × Int) × Int) : Da := .tuple [eRoom q.1, dint q.2]
theorem zip_eRS : ∀ (rs : List (Str × Int × Int)) (ss : List Int), zipD (rs.map eRoom) (ss.map dint) = (rs.zip ss).map eRS
  | [], _ => by simp [zipD]
  | _ :: _, [] => by simp [zipD]
  | r :: rs, s :: ss => by
    rw [List.map_cons, List.map_cons, zipD, List.zip_cons_cons, List.map_cons, zip_eRS rs ss]
    rfl
section
variable {h : Hs} (kh : HsOk h) {bs : List Int} (kb : BsOk bs) {t : Sn} (kt : SnOk h bs.length t)
include kh kb kt
theorem ea3_ok (dk : List Da) : ea3 (eaE h bs t dk .no .no .no .no .no .no .no .no .no) = .ok (.nx, eaE h bs t dk (.ow (.list (h.names.map dstr))) .no .no .no .no .no .no .no .no) := by
  have h5 := kh.n5
  have hlc : mLc ⟨[.sl 12], itSeq⟩ (.nm 17) (mYes) (mPure opIx [.sl 17, .ex (mK (.int 0))]) [17] (eaE h bs t dk .no .no .no .no .no .no .no .no .no) = .ok (.ow (.list (h.names.map dstr)), eaE h bs t dk .no .no .no .no .no .no .no .no .no) := by
    rw [← map_fst]
    refine Sh.lc_mapS (os := [.at 12]) (ds := [.tuple (h.rooms.map eRoom)]) fstD rfl rfl rfl rfl rfl rfl rfl (by simp; omega) fun d hd => ?_
    obtain ⟨r, _, rfl⟩ := List.mem_map.mp hd
    exact ⟨_, .fz (fstD (eRoom r)), rfl, rfl, rfl, rfl⟩
  unfold ea3
  rw [ev_mset, hlc]
  rfl
theorem ea4_ok (N : Sl) (n : Nat) (dk : List Da) (hn : n + 5 ≤ 100000000) (hk : DkOk n dk) : ∃ (sz : List Int) (dk' : List Da), ea4 (eaE h bs t dk N .no .no .no .no .no .no .no .no) = .ok (.nx, eaE h bs t dk' N (.fz (.tuple (sz.map dint))) .no .no .no .no .no .no .no) ∧ Al2 moreP (h.rooms.zip t.sizes) sz ∧ DkOk (n + 5) dk' := by
  have h5 := kh.n5
  have hlen : (h.rooms.zip t.sizes).length ≤ 5 := by rw [List.length_zip]; omega
  obtain ⟨sz, dk', e, ha, k⟩ := lcL_draw (ι := (Str × Int × Int) × Int) (β := Int) (enc := eRS) (out := dint) (os := [.at 12, .va (.tuple (t.sizes.map dint))]) (ds := [.tuple (h.rooms.map eRoom), .tuple (t.sizes.map dint)]) (t := .tp [.nm 17, .nm 18]) (elt := mPure opMin2 [.ex (mPure opIx [.sl 17, .ex (mK (.int 1))]), .ex (mPure opAdd [.sl 18, .ex (mCallD (f_law_pick) 0 [.ex (mK (.int 3))])])]) (vs := [17, 18]) moreP 1
    (fun dk => eaE h bs t dk N .no .no .no .no .no .no .no .no) (fun _ => rfl) (h.rooms.zip t.sizes) [] n dk (fun q _ n dk hn hk => by
      obtain ⟨s, dk', e, ⟨v, rfl, v0, v1⟩, k⟩ := e_pick 3 (by decide) (by decide) n dk hn hk
      refine ⟨[.ow (.list dk), .fz (.tuple [h.enc, eBs bs, t.enc]), N, .no, .no, .no, .no, .no, .no, .fz h.enc, .fz (eBs bs), .fz t.enc, .fz (.tuple (h.rooms.map eRoom)), .fz (.tuple (h.doors.map eDoor)), .fz (.tuple (h.gains.map eGain)), .no, .no, .fz (eRoom q.1), .fz (.int q.2), .no, .no, .no, .no, .no, .no], .fz (.int (mn q.1.2.1 (q.2 + v))), [.ow (.list dk'), .fz (.tuple [h.enc, eBs bs, t.enc]), N, .no, .no, .no, .no, .no, .no, .fz h.enc, .fz (eBs bs), .fz t.enc, .fz (.tuple (h.rooms.map eRoom)), .fz (.tuple (h.doors.map eDoor)), .fz (.tuple (h.gains.map eGain)), .no, .no, .fz (eRoom q.1), .fz (.int q.2), .no, .no, .no, .no, .no, .no], mn q.1.2.1 (q.2 + v), dk', rfl, ?_, rfl, ⟨fun hq => ?_, mn_le _ _⟩, rfl, k⟩
      · have hm : opMin2 [.int q.1.2.1, .int (q.2 + v)] = some (.fz (.int (mn q.1.2.1 (q.2 + v)))) := rfl
        simp [eRoom, e, hm, -op_min_ii]
      · unfold mn
        split <;> omega) (by omega) hk (by simp; omega)
  refine ⟨sz, dk', ?_, ha, k.mono (by omega)⟩
  rw [← zip_eRS, List.nil_append] at e
  have hlc : el4 (eaE h bs t dk N .no .no .no .no .no .no .no .no) = .ok (.ow (.list (sz.map dint)), eaE h bs t dk' N .no .no .no .no .no .no .no .no) := by
    unfold el4
    rw [lc_of (it := ⟨[.sl 12, .ex (mPure opIx [.sl 11, .ex (mK (.int 1))])], itZip⟩) (en1 := eaE h bs t dk N .no .no .no .no .no .no .no .no) (os := [.at 12, .va (.tuple (t.sizes.map dint))]) (ds := [.tuple (h.rooms.map eRoom), .tuple (t.sizes.map dint)]) (items := zipD (h.rooms.map eRoom) (t.sizes.map dint)) rfl rfl rfl rfl e]
    rfl
  unfold ea4
  generalize sz.map dint = Z at hlc
  generalize hE : eaE h bs t dk N .no .no .no .no .no .no .no .no = E0 at hlc
  simp [hlc, opTuple]
  rfl
theorem ea5_ok (N M : Sl) (n : Nat) (dk : List Da) (hn : n + 3 ≤ 100000000) (hk : DkOk n dk) : ∃ (bs' : List Int) (dk' : List Da), ea5 (eaE h bs t dk N M .no .no .no .no .no .no .no) = .ok (.nx, eaE h bs t dk' N M (.fz (eBs bs')) .no .no .no .no .no .no) ∧ Al2 lessP bs bs' ∧ DkOk (n + 3) dk' := by
  have b3 := kb.n3
  obtain ⟨bs', dk', e, ha, k⟩ := lcL_draw (ι := Int) (β := Int) (enc := dint) (out := dint) (os := [.at 10]) (ds := [eBs bs]) (t := .nm 18) (elt := mPure opMax2 [.ex (mK (.int 0)), .ex (mPure opSub [.sl 18, .ex (mCallD (f_law_pick) 0 [.ex (mK (.int 2))])])]) (vs := [18]) lessP 1
    (fun dk => eaE h bs t dk N M .no .no .no .no .no .no .no) (fun _ => rfl) bs [] n dk (fun q _ n dk hn hk => by
      obtain ⟨s, dk', e, ⟨v, rfl, v0, v1⟩, k⟩ := e_pick 2 (by decide) (by decide) n dk hn hk
      refine ⟨[.ow (.list dk), .fz (.tuple [h.enc, eBs bs, t.enc]), N, M, .no, .no, .no, .no, .no, .fz h.enc, .fz (eBs bs), .fz t.enc, .fz (.tuple (h.rooms.map eRoom)), .fz (.tuple (h.doors.map eDoor)), .fz (.tuple (h.gains.map eGain)), .no, .no, .no, .fz (.int q), .no, .no, .no, .no, .no, .no], .fz (.int (mx0 (q - v))), [.ow (.list dk'), .fz (.tuple [h.enc, eBs bs, t.enc]), N, M, .no, .no, .no, .no, .no, .fz h.enc, .fz (eBs bs), .fz t.enc, .fz (.tuple (h.rooms.map eRoom)), .fz (.tuple (h.doors.map eDoor)), .fz (.tuple (h.gains.map eGain)), .no, .no, .no, .fz (.int q), .no, .no, .no, .no, .no, .no], mx0 (q - v), dk', rfl, ?_, rfl, ⟨mx0_nonneg _, fun hq => mx0_le (by omega) hq⟩, rfl, k⟩
      have hm : opMax2 [.int 0, .int (q - v)] = some (.fz (.int (mx0 (q - v)))) := rfl
      simp [e, hm, -op_max_ii]) (by omega) hk (by simp; omega)
  refine ⟨bs', dk', ?_, ha, k.mono (by omega)⟩
  rw [List.nil_append] at e
  have hlc : el5 (eaE h bs t dk N M .no .no .no .no .no .no .no) = .ok (.ow (.list (bs'.map dint)), eaE h bs t dk' N M .no .no .no .no .no .no .no) := by
    unfold el5
    rw [lc_of (it := ⟨[.sl 10], itSeq⟩) (en1 := eaE h bs t dk N M .no .no .no .no .no .no .no) (os := [.at 10]) (ds := [eBs bs]) (items := bs.map dint) rfl rfl rfl rfl e]
    rfl
  unfold ea5 eBs
  generalize hE : eaE h bs t dk N M .no .no .no .no .no .no .no = E0 at hlc
  simp [hlc, opTuple]
  rfl
theorem ea6_ok (N M L : Sl) (n : Nat) (dk : List Da) (hn : n + 5 ≤ 100000000) (hk : DkOk n dk) : ∃ (rs' : List (Str × Int × Int)) (dk' : List Da), ea6 (eaE h bs t dk N M L .no .no .no .no .no .no) = .ok (.nx, eaE h bs t dk' N M L (.fz (.tuple (rs'.map eRoom))) .no .no .no .no .no) ∧ Al2 softR h.rooms rs' ∧ DkOk (n + 5) dk' := by
  have h5 := kh.n5
  obtain ⟨rs', dk', e, ha, k⟩ := lcL_draw (ι := Str × Int × Int) (β := Str × Int × Int) (enc := eRoom) (out := eRoom) (os := [.at 12]) (ds := [.tuple (h.rooms.map eRoom)]) (t := .tp [.nm 19, .nm 20, .nm 21]) (elt := mPure opTup (exs [mVar 19, mVar 20, mPure opMax2 [.ex (mK (.int 0)), .ex (mPure opSub [.sl 21, .ex (mCallD (f_law_pick) 0 [.ex (mK (.int 2))])])]])) (vs := [19, 20, 21]) softR 1
    (fun dk => eaE h bs t dk N M L .no .no .no .no .no .no) (fun _ => rfl) h.rooms [] n dk (fun q hq n dk hn hk => by
      obtain ⟨s, dk', e, ⟨v, rfl, v0, v1⟩, k⟩ := e_pick 2 (by decide) (by decide) n dk hn hk
      have h0 := (kh.room q hq).2.2.2.1
      refine ⟨[.ow (.list dk), .fz (.tuple [h.enc, eBs bs, t.enc]), N, M, L, .no, .no, .no, .no, .fz h.enc, .fz (eBs bs), .fz t.enc, .fz (.tuple (h.rooms.map eRoom)), .fz (.tuple (h.doors.map eDoor)), .fz (.tuple (h.gains.map eGain)), .no, .no, .no, .no, .fz (.str q.1), .fz (.int q.2.1), .fz (.int q.2.2), .no, .no, .no], .fz (eRoom (q.1, q.2.1, mx0 (q.2.2 - v))), [.ow (.list dk'), .fz (.tuple [h.enc, eBs bs, t.enc]), N, M, L, .no, .no, .no, .no, .fz h.enc, .fz (eBs bs), .fz t.enc, .fz (.tuple (h.rooms.map eRoom)), .fz (.tuple (h.doors.map eDoor)), .fz (.tuple (h.gains.map eGain)), .no, .no, .no, .no, .fz (.str q.1), .fz (.int q.2.1), .fz (.int q.2.2), .no, .no, .no], (q.1, q.2.1, mx0 (q.2.2 - v)), dk', rfl, ?_, rfl, ⟨rfl, rfl, mx0_nonneg _, mx0_le (by omega) h0⟩, rfl, k⟩
      have hm : opMax2 [.int 0, .int (q.2.2 - v)] = some (.fz (.int (mx0 (q.2.2 - v)))) := rfl
      simp [e, hm, -op_max_ii, eRoom]) (by omega) hk (by simp; omega)
  refine ⟨rs', dk', ?_, ha, k.mono (by omega)⟩
  rw [List.nil_append] at e
  have hlc : el6 (eaE h bs t dk N M L .no .no .no .no .no .no) = .ok (.ow (.list (rs'.map eRoom)), eaE h bs t dk' N M L .no .no .no .no .no .no) := by
    unfold el6
    rw [lc_of (it := ⟨[.sl 12], itSeq⟩) (en1 := eaE h bs t dk N M L .no .no .no .no .no .no) (os := [.at 12]) (ds := [.tuple (h.rooms.map eRoom)]) (items := h.rooms.map eRoom) rfl rfl rfl rfl e]
    rfl
  unfold ea6
  generalize rs'.map eRoom = Z at hlc
  generalize hE : eaE h bs t dk N M L .no .no .no .no .no .no = E0 at hlc
  simp [hlc, opTuple]
  rfl
theorem ea7_ok (N M L S : Sl) (dk : List Da) : ea7 (eaE h bs t dk N M L S .no .no .no .no .no) = .ok (.nx, eaE h bs t dk N M L S (.fz (.tuple ((h.gains.map wideG).map eGain))) .no .no .no .no) := by
  have h10 := kh.g10
  have hm : (h.gains.map eGain).map (fun d => eGain (wideG (dGain d))) = (h.gains.map wideG).map eGain := by
    rw [List.map_map, List.map_map]
    rfl
  have hlc : el7 (eaE h bs t dk N M L S .no .no .no .no .no) = .ok (.ow (.list ((h.gains.map wideG).map eGain)), eaE h bs t dk N M L S .no .no .no .no .no) := by
    rw [← hm]
    unfold el7
    refine Sh.lc_mapS (os := [.at 14]) (ds := [.tuple (h.gains.map eGain)]) (fun d => eGain (wideG (dGain d))) rfl rfl rfl rfl rfl rfl rfl (by simp; omega) fun d hd => ?_
    obtain ⟨g, _, rfl⟩ := List.mem_map.mp hd
    refine ⟨_, .fz (eGain (wideG g)), rfl, ?_, rfl, rfl⟩
    have hmn : opMin2 [.int 9, .int (g.2.2 + 1)] = some (.fz (.int (mn 9 (g.2.2 + 1)))) := rfl
    simp [eaE, hmn, -op_min_ii, eGain, wideG]
  unfold ea7
  generalize (h.gains.map wideG).map eGain = Z at hlc
  generalize hE : eaE h bs t dk N M L S .no .no .no .no .no = E0 at hlc
  simp [hlc, opTuple]
  rw [← hE]
  rfl
theorem el9_ok (M L S W V : Sl) (dk : List Da) (pre r : List Str) (a : Str) (hr : r.length ≤ 5) (N : Sl) (hN : N = .fz (.list ((pre ++ a :: r).map dstr))) : el9 (eaE h bs t dk N M L S W V .no (.fz (.int (pre.length : Int))) (.fz (.str a))) = .ok (.ow (.list (r.map fun o => eDoor (a, o))), eaE h bs t dk N M L S W V .no (.fz (.int (pre.length : Int))) (.fz (.str a))) := by
  have sl : opSlLo [.list ((pre ++ a :: r).map dstr), .int ((pre.length : Int) + 1)] = some (.ow (.list (r.map dstr))) := by
    show some (Sl.ow (.list (cutD ((pre ++ a :: r).map dstr) (some ((pre.length : Int) + 1)) none))) = _
    rw [show ((pre.length : Int) + 1) = ((pre.length + 1 : Nat) : Int) from by omega, Sh.cutD_lo, ← List.map_drop]
    have : (pre ++ a :: r).drop (pre.length + 1) = r := by simp
    rw [this]
  have hm : (r.map dstr).map (fun d => PyData.tuple [.str a, d]) = r.map fun o => eDoor (a, o) := by
    rw [List.map_map]
    rfl
  rw [← hm]
  unfold el9
  refine Sh.lc_mapS (os := [.va (.list (r.map dstr))]) (ds := [.list (r.map dstr)]) (fun d => PyData.tuple [.str a, d]) ?_ rfl rfl rfl rfl rfl rfl (by simp; omega) fun d hd => ?_
  · rw [hN]
    unfold eaE
    generalize (pre ++ a :: r).map dstr = Q at sl
    simp [sl]
  · obtain ⟨o, _, rfl⟩ := List.mem_map.mp hd
    exact ⟨_, .fz (.tuple [.str a, .str o]), rfl, rfl, rfl, rfl⟩
theorem ea9_loop (D : Da) (M L S W : Sl) (dk : List Da) (NL : List Str) : ∀ (todo pre : List Str) (acc : List (Str × Str)) (s15 s16 : Sl), NL = pre ++ todo → todo.length ≤ 5 → acc.length + 5 * todo.length ≤ 100 →
    ∃ s15' s16', forL [.va D] [D] (.tp [.nm 15, .nm 16]) eb9 (enumD pre.length (todo.map dstr)) (eaE h bs t dk (.fz (.list (NL.map dstr))) M L S W (.ow (.list (acc.map eDoor))) .no s15 s16) = .ok (.nx, eaE h bs t dk (.fz (.list (NL.map dstr))) M L S W (.ow (.list ((acc ++ fpL todo).map eDoor))) .no s15' s16')
  | [], pre, acc, s15, s16, _, _, _ => ⟨s15, s16, by rw [List.map_nil, enumD, forL, if_pos (res_va _ _)]; simp [fpL]⟩
  | a :: r, pre, acc, s15, s16, hN, hl, hac => by
    have hl' : r.length + 1 ≤ 5 := hl
    have hac' : acc.length + 5 * (r.length + 1) ≤ 100 := hac
    obtain ⟨x, y, e⟩ := ea9_loop D M L S W dk NL r (pre ++ [a]) (acc ++ r.map fun o => (a, o)) (.fz (.int (pre.length : Int))) (.fz (.str a)) (by rw [hN]; simp) (by omega) (by simp; omega)
    refine ⟨x, y, ?_⟩
    have ha : asg (.tp [.nm 15, .nm 16]) (.tuple [.int (pre.length : Int), dstr a]) (eaE h bs t dk (.fz (.list (NL.map dstr))) M L S W (.ow (.list (acc.map eDoor))) .no s15 s16) = some (eaE h bs t dk (.fz (.list (NL.map dstr))) M L S W (.ow (.list (acc.map eDoor))) .no (.fz (.int (pre.length : Int))) (.fz (.str a))) := by simp [eaE, dstr]
    have e9 := el9_ok kh kb kt M L S W (.ow (.list (acc.map eDoor))) dk pre r a (by omega) (.fz (.list (NL.map dstr))) (by rw [hN])
    have had := add_LL (a := acc.map eDoor) (b := r.map fun o => eDoor (a, o)) (by simp; omega)
    have hmm : (acc ++ r.map fun o => (a, o)).map eDoor = acc.map eDoor ++ r.map fun o => eDoor (a, o) := by simp
    have hb : eb9 (eaE h bs t dk (.fz (.list (NL.map dstr))) M L S W (.ow (.list (acc.map eDoor))) .no (.fz (.int (pre.length : Int))) (.fz (.str a))) = .ok (.nx, eaE h bs t dk (.fz (.list (NL.map dstr))) M L S W (.ow (.list ((acc ++ r.map fun o => (a, o)).map eDoor))) .no (.fz (.int (pre.length : Int))) (.fz (.str a))) := by
      rw [hmm]
      unfold eb9
      generalize r.map (fun o => eDoor (a, o)) = Y at e9 had
      generalize acc.map eDoor = A at e9 had
      generalize NL.map dstr = Q at e9
      have hop : evalOps [.sl 7, .ex el9] (eaE h bs t dk (.fz (.list Q)) M L S W (.ow (.list A)) .no (.fz (.int (pre.length : Int))) (.fz (.str a))) = .ok ([.at 7, .va (.list Y)], eaE h bs t dk (.fz (.list Q)) M L S W (.ow (.list A)) .no (.fz (.int (pre.length : Int))) (.fz (.str a))) := by
        rw [ev_osl, ev_oex, e9]
        rfl
      rw [ev_mset, ev_pure, hop]
      simp [eaE, had]
    rw [List.map_cons, enumD, forL, if_pos (res_va _ _), ha]
    simp only [hb, ev_bok]
    have hpl : (pre ++ [a]).length = pre.length + 1 := by simp
    rw [hpl] at e
    rw [e, fpL]
    simp
end
end Mi
set_option Elab.async false
set_option linter.all false
set_option maxRecDepth 100000
set_option autoImplicit false
/-! eased halls, drawn: whole -/
namespace Mi
open PySem PySem.Spec PyProof.Rows L2 Sh

theorem Eas.szOk {h h' : Hs} {bs bs' : List Int} (E : Eas h h' bs bs') {l : List Int} (kl : SzOk h l) : SzOk h' l := by
  refine ⟨?_, fun y hy => ?_, fun y hy => ?_⟩
  · rw [kl.len, ← names_len, ← names_len, E.names]
  · rw [E.szAt]; exact kl.lo y (by rw [← E.names]; exact hy)
  · rw [E.szAt, E.caps]; exact kl.hi y (by rw [← E.names]; exact hy)
theorem Eas.snOk {h h' : Hs} (kh' : HsOk h') {bs bs' : List Int} (E : Eas h h' bs bs') {ps : List Str} (pn : ps.length = bs.length) (pl : ∀ p ∈ ps, p ∈ h.names) {l : List Int} (kl : SzOk h l) : SnOk h' bs'.length ⟨ps, l⟩ :=
  snOk_of kh' (t := ⟨ps, l⟩) (by rw [E.blen]; exact pn) (fun p hp => by rw [E.names]; exact pl p hp) (E.szOk kl)
theorem more_ok {h : Hs} (kh : HsOk h) {nb : Nat} {t : Sn} (kt : SnOk h nb t) {sz : List Int} (ha : Al2 moreP (h.rooms.zip t.sizes) sz) : SzOk h sz ∧ leS h t.sizes sz := by
  have hlen : sz.length = h.rooms.length := by rw [← ha.len, List.length_zip, kt.sn]; omega
  have ks := szOk_of kh kt
  have key : ∀ y ∈ h.names, szAt h t.sizes y ≤ szAt h sz y ∧ szAt h sz y ≤ capAt h y := fun y hy => by
    have hlt := at_lt hy
    have hlr : at' h.names y < h.rooms.length := by rw [← names_len]; exact hlt
    have hny : h.names[at' h.names y] = y := by
      have := at_get hy
      rw [List.getElem?_eq_getElem hlt] at this
      exact Option.some.inj this
    have e1 := szAt_get kh kt.sn hlt
    have e2 := szAt_get kh hlen hlt
    have e3 := capAt_get kh hlt
    rw [hny] at e1 e2 e3
    have e4 : (h.rooms.zip t.sizes)[at' h.names y]? = some (h.rooms[at' h.names y], szAt h t.sizes y) := by
      rw [List.getElem?_zip_eq_some]
      exact ⟨List.getElem?_eq_getElem hlr, e1⟩
    have hm := ha.get e4 e2
    have hc : capAt h y = (h.rooms[at' h.names y]).2.1 := by
      rw [caps_get (List.getElem?_eq_getElem hlr)] at e3
      exact (Option.some.inj e3).symm
    have hhi := ks.hi y hy
    unfold moreP at hm
    simp only at hm
    rw [← hc] at hm
    exact ⟨hm.1 hhi, hm.2⟩
  exact ⟨⟨hlen, fun y hy => by have := (key y hy).1; have := ks.lo y hy; omega, fun y hy => (key y hy).2⟩, fun y hy => (key y hy).1⟩
theorem less_bs {bs bs' : List Int} (kb : BsOk bs) (ha : Al2 lessP bs bs') : BsOk bs' ∧ bs'.length = bs.length ∧ ∀ k : Nat, (bs'[k]?).getD 0 ≤ (bs[k]?).getD 0 := by
  have hl := ha.len
  have hb1 := kb.n1
  have hb3 := kb.n3
  refine ⟨⟨by omega, by omega, fun b' hb' => ?_⟩, hl.symm, fun k => ?_⟩
  · obtain ⟨b, hb, h1, h2⟩ := ha.right b' hb'
    obtain ⟨k1, k2⟩ := kb.size b hb
    exact ⟨h1, by have := h2 k1; omega⟩
  · cases e : bs[k]? with
    | none =>
      have : bs'[k]? = none := List.getElem?_eq_none_iff.mpr (by have := List.getElem?_eq_none_iff.mp e; omega)
      rw [this]
      exact Int.le_refl _
    | some b =>
      have hk := (List.getElem?_eq_some_iff.mp e).1
      have e' : bs'[k]? = some bs'[k] := List.getElem?_eq_getElem (by omega)
      rw [e']
      have := ha.get e e'
      have h0 := (kb.size b (List.mem_of_getElem? e)).1
      exact this.2 h0
theorem leS_get {h : Hs} (kh : HsOk h) {l sz : List Int} (hl : l.length = h.rooms.length) (hs : sz.length = h.rooms.length) (hle : leS h l sz) : ∀ (k : Nat) (hk : k < sz.length), l[k]'(by omega) ≤ sz[k] := fun k hk => by
  have hk' : k < h.names.length := by rw [names_len]; omega
  have := hle _ (List.getElem_mem hk')
  have a1 := szAt_get kh hl hk'
  have a2 := szAt_get kh hs hk'
  rw [List.getElem?_eq_getElem (by omega)] at a1 a2
  have b1 := Option.some.inj a1
  have b2 := Option.some.inj a2
  omega
theorem can_take (h : Hs) (bs : List Int) : ∀ (row : List (Nat × Str)) (t : Sn), canP h bs t (row.take (walkP h bs t row).length) = true
  | [], _ => rfl
  | p :: row, t => by
    rw [walkP]
    cases e : comeP h bs t p.1 p.2 with
    | none => rfl
    | some u =>
      rw [List.length_cons, List.take_succ_cons, canP_cons, e]
      exact can_take h bs row u
def eHall (q : Hs × List Int × Sn) : Da := .tuple [q.1.enc, eBs q.2.1, q.2.2.enc]
structure EasedOk (h : Hs) (bs : List Int) (t : Sn) (q : Hs × List Int × Sn) : Prop where
  kh : HsOk q.1
  kb : BsOk q.2.1
  kt : SnOk q.1 q.2.1.length q.2.2
  ea : Eas h q.1 bs q.2.1
  pl : q.2.2.places = t.places
  le : leS h t.sizes q.2.2.sizes
theorem e_eased {h : Hs} (kh : HsOk h) {bs : List Int} (kb : BsOk bs) {t : Sn} (kt : SnOk h bs.length t) : Dr f_law_eased [.tuple [h.enc, eBs bs, t.enc]] 13 fun s => ∃ L : List (Hs × List Int × Sn), s = .ow (.list (L.map eHall)) ∧ (∀ q ∈ L, EasedOk h bs t q) ∧ L.length = 6 := by
  intro n dk hn hk
  obtain ⟨sz, dk1, f4, a4, k1⟩ := ea4_ok kh kb kt (.ow (.list (h.names.map dstr))) n dk (by omega) hk
  obtain ⟨bs', dk2, f5, a5, k2⟩ := ea5_ok kh kb kt (.ow (.list (h.names.map dstr))) (.fz (.tuple (sz.map dint))) (n + 5) dk1 (by omega) k1
  obtain ⟨rs', dk3, f6, a6, k3⟩ := ea6_ok kh kb kt (.ow (.list (h.names.map dstr))) (.fz (.tuple (sz.map dint))) (.fz (eBs bs')) (n + 8) dk2 (by omega) k2
  have f7 := ea7_ok kh kb kt (.ow (.list (h.names.map dstr))) (.fz (.tuple (sz.map dint))) (.fz (eBs bs')) (.fz (.tuple (rs'.map eRoom))) dk3
  have h5 := kh.n5
  obtain ⟨s15, s16, f9⟩ := ea9_loop kh kb kt (.list (h.names.map dstr)) (.fz (.tuple (sz.map dint))) (.fz (eBs bs')) (.fz (.tuple (rs'.map eRoom))) (.fz (.tuple ((h.gains.map wideG).map eGain))) dk3 h.names h.names [] [] .no .no rfl (by rw [names_len]; exact h5) (by simp [names_len]; omega)
  obtain ⟨kb', hbl, hbs⟩ := less_bs kb a5
  obtain ⟨ksz, hle⟩ := more_ok kh kt a4
  have rfl0 : Al2 softR h.rooms h.rooms := soft_refl fun r hr => (kh.room r hr).2.2.2.1
  have b0 : ∀ k : Nat, (bs[k]?).getD 0 ≤ (bs[k]?).getD 0 := fun _ => Int.le_refl _
  have lrf : leS h t.sizes t.sizes := fun _ _ => Int.le_refl _
  have ks := szOk_of kh kt
  obtain ⟨c1, d1⟩ := eased_ok kh rfl0 (.inl rfl) (.inl rfl)
  obtain ⟨c3, d3⟩ := eased_ok kh a6 (.inl rfl) (.inl rfl)
  obtain ⟨c4, d4⟩ := eased_ok kh rfl0 (.inl rfl) (.inr rfl)
  obtain ⟨c5, d5⟩ := eased_ok kh rfl0 (.inr rfl) (.inl rfl)
  obtain ⟨c6, d6⟩ := eased_ok kh a6 (.inr rfl) (.inr rfl)
  have e0 : (⟨h.rooms, h.doors, h.gains⟩ : Hs) = h := rfl
  refine ⟨.ow (.list (([(h, bs, ⟨t.places, sz⟩), (h, bs', t), (⟨rs', h.doors, h.gains⟩, bs, t), (⟨h.rooms, h.doors, h.gains.map wideG⟩, bs, t), (⟨h.rooms, fpL h.names, h.gains⟩, bs, t), (⟨rs', fpL h.names, h.gains.map wideG⟩, bs', ⟨t.places, sz⟩)] : List (Hs × List Int × Sn)).map eHall)), dk3, ?_, ⟨_, rfl, fun q hq => ?_, rfl⟩, k3⟩
  · unfold f_law_eased
    rw [ea_split, fnD_eq]
    have g1 : mAsg (.tp [.nm 9, .nm 10, .nm 11]) (mVar 1) (.ow (.list dk) :: ([.tuple [h.enc, eBs bs, t.enc]] : List Da).map .fz ++ List.replicate 23 .no) = .ok (.nx, [.ow (.list dk), .fz (.tuple [h.enc, eBs bs, t.enc]), .no, .no, .no, .no, .no, .no, .no, .fz h.enc, .fz (eBs bs), .fz t.enc, .no, .no, .no, .no, .no, .no, .no, .no, .no, .no, .no, .no, .no]) := rfl
    have g2 : mAsg (.tp [.nm 12, .nm 13, .nm 14]) (mVar 9) [.ow (.list dk), .fz (.tuple [h.enc, eBs bs, t.enc]), .no, .no, .no, .no, .no, .no, .no, .fz h.enc, .fz (eBs bs), .fz t.enc, .no, .no, .no, .no, .no, .no, .no, .no, .no, .no, .no, .no, .no] = .ok (.nx, eaE h bs t dk .no .no .no .no .no .no .no .no .no) := rfl
    rw [ev_seq, g1]
    simp only [ev_bok]
    rw [ev_seq, g2]
    simp only [ev_bok]
    rw [ev_seq, ea3_ok kh kb kt]
    simp only [ev_bok]
    rw [ev_seq, f4]
    simp only [ev_bok]
    rw [ev_seq, f5]
    simp only [ev_bok]
    rw [ev_seq, f6]
    simp only [ev_bok]
    rw [ev_seq, f7]
    simp only [ev_bok]
    have g8 : mSet 7 (mPure opLst (exs [])) (eaE h bs t dk3 (.ow (.list (h.names.map dstr))) (.fz (.tuple (sz.map dint))) (.fz (eBs bs')) (.fz (.tuple (rs'.map eRoom))) (.fz (.tuple ((h.gains.map wideG).map eGain))) .no .no .no .no) = .ok (.nx, eaE h bs t dk3 (.ow (.list (h.names.map dstr))) (.fz (.tuple (sz.map dint))) (.fz (eBs bs')) (.fz (.tuple (rs'.map eRoom))) (.fz (.tuple ((h.gains.map wideG).map eGain))) (.ow (.list [])) .no .no .no) := rfl
    rw [ev_seq, g8]
    simp only [ev_bok]
    have f9' : forL [.va (.list (h.names.map dstr))] [.list (h.names.map dstr)] (.tp [.nm 15, .nm 16]) eb9 (enumD 0 (h.names.map dstr)) (eaE h bs t dk3 (.fz (.list (h.names.map dstr))) (.fz (.tuple (sz.map dint))) (.fz (eBs bs')) (.fz (.tuple (rs'.map eRoom))) (.fz (.tuple ((h.gains.map wideG).map eGain))) (.ow (.list [])) .no .no .no) = .ok (.nx, eaE h bs t dk3 (.fz (.list (h.names.map dstr))) (.fz (.tuple (sz.map dint))) (.fz (eBs bs')) (.fz (.tuple (rs'.map eRoom))) (.fz (.tuple ((h.gains.map wideG).map eGain))) (.ow (.list ((fpL h.names).map eDoor))) .no s15 s16) := f9
    have g9 : ea9 (eaE h bs t dk3 (.ow (.list (h.names.map dstr))) (.fz (.tuple (sz.map dint))) (.fz (eBs bs')) (.fz (.tuple (rs'.map eRoom))) (.fz (.tuple ((h.gains.map wideG).map eGain))) (.ow (.list [])) .no .no .no) = .ok (.nx, eaE h bs t dk3 (.fz (.list (h.names.map dstr))) (.fz (.tuple (sz.map dint))) (.fz (eBs bs')) (.fz (.tuple (rs'.map eRoom))) (.fz (.tuple ((h.gains.map wideG).map eGain))) (.ow (.list ((fpL h.names).map eDoor))) .no s15 s16) := mfor_of (it := ⟨[.ex (mVar 2)], itEnum⟩) rfl rfl rfl f9'
    rw [ev_seq, g9]
    simp only [ev_bok]
    simp only [List.map_cons, List.map_nil, eHall, Hs.enc, Sn.enc]
    unfold eaE
    generalize (fpL h.names).map eDoor = A1
    generalize (h.gains.map wideG).map eGain = A2
    generalize rs'.map eRoom = A3
    generalize eBs bs' = A4
    generalize sz.map dint = A5
    generalize h.names.map dstr = A6
    have l1 : ∀ a b c : Da, opAdd [.list [a, b, c], .list [b, c]] = some (.ow (.list [a, b, c, b, c])) := fun _ _ _ => rfl
    have l2 : ∀ a b c d e : Da, opAdd [.list [a, b, c], .list [d, e]] = some (.ow (.list [a, b, c, d, e])) := fun _ _ _ _ _ => rfl
    have l3 : ∀ a b c d e f : Da, opAdd [.list [a, b, c, d, e], .list [f]] = some (.ow (.list [a, b, c, d, e, f])) := fun _ _ _ _ _ _ => rfl
    have ot : ∀ l : List Da, opTuple [.list l] = some (.fz (.tuple l)) := fun _ => rfl
    simp [ea10, ea11, ea12, l2, l3, ot, Hs.enc, Sn.enc]
  · simp only [List.mem_cons, List.not_mem_nil, or_false] at hq
    rcases hq with rfl | rfl | rfl | rfl | rfl | rfl
    · have E := d1 rfl b0
      exact ⟨kh, kb, E.snOk kh kt.pn kt.pl ksz, E, rfl, hle⟩
    · have E := d1 hbl hbs
      exact ⟨kh, kb', E.snOk kh kt.pn kt.pl ks, E, rfl, lrf⟩
    · have E := d3 rfl b0
      exact ⟨c3, kb, E.snOk c3 kt.pn kt.pl ks, E, rfl, lrf⟩
    · have E := d4 rfl b0
      exact ⟨c4, kb, E.snOk c4 kt.pn kt.pl ks, E, rfl, lrf⟩
    · have E := d5 rfl b0
      exact ⟨c5, kb, E.snOk c5 kt.pn kt.pl ks, E, rfl, lrf⟩
    · have E := d6 hbl hbs
      exact ⟨c6, kb', E.snOk c6 kt.pn kt.pl ksz, E, rfl, hle⟩
end Mi
set_option Elab.async false
set_option linter.all false
set_option maxRecDepth 100000
set_option autoImplicit false
set_option maxHeartbeats 4000000
namespace K05
open PySem PySem.Spec PyProof.Rows L2 Sh Mi
noncomputable def mb_law : MS := mSeq (mSet 2 (mCall (f_law_deck) [.sl 1, .ex (mK (.int 5))]))
    (mSeq (mSet 3 (mCallD (f_law_hall) 2 [.ex (mK (.int 5)), .ex (mK (.int 9)), .ex (mK (.int 3))]))
    (mSeq (mSet 4 (mCallD (f_law_row) 2 [.ex (mPure opIx [.sl 3, .ex (mK (.int 0))]), .ex (mPure opIx [.sl 3, .ex (mK (.int 1))]), .ex (mPure opIx [.sl 3, .ex (mK (.int 2))]), .ex (mK (.int 25))]))
    (mSeq (mSet 5 (mCall (f_law_gone) [.ex (mPure opIx [.sl 3, .ex (mK (.int 0))]), .ex (mPure opIx [.sl 3, .ex (mK (.int 1))]), .ex (mPure opIx [.sl 3, .ex (mK (.int 2))]), .sl 4]))
    (mSeq (mSet 4 (mIf (mTE (mPure (opIsi "int") [.sl 5])) (mPure opSlHi [.sl 4, .sl 5]) (mVar 4)))
    (mSeq (mSet 6 (mCall (f_gone) [.ex (mPure opIx [.sl 3, .ex (mK (.int 0))]), .ex (mPure opIx [.sl 3, .ex (mK (.int 1))]), .ex (mPure opIx [.sl 3, .ex (mK (.int 2))]), .sl 4]))
    (mSeq (mSet 7 (mCall (f_needs) [.ex (mPure opIx [.sl 3, .ex (mK (.int 0))]), .ex (mPure opIx [.sl 3, .ex (mK (.int 1))]), .ex (mPure opIx [.ex (mPure opIx [.sl 3, .ex (mK (.int 2))]), .ex (mK (.int 0))]), .sl 4]))
    (mSeq (mCond (mOr (mTE (mPure opIs [.sl 6, .ex (mK (.none))])) (mTE (mPure opIs [.sl 7, .ex (mK (.none))]))) (mRet (mK (.bool false))) (mSkip))
    (mFor ⟨[.ex (mCallD (f_law_eased) 2 [.sl 3])], itSeq⟩ (.tp [.nm 8, .nm 9, .nm 10]) (mSeq (mSet 11 (mCall (f_gone) [.sl 8, .sl 9, .sl 10, .sl 4]))
    (mSeq (mCond (mOr (mTE (mPure opIs [.sl 11, .ex (mK (.none))])) (mTE (mPure opNe [.ex (mPure opIx [.sl 11, .ex (mK (.int 0))]), .ex (mPure opIx [.sl 6, .ex (mK (.int 0))])]))) (mRet (mK (.bool false))) (mSkip))
    (mSeq (mCond (mTE (mPure opNe [.ex (mLc ⟨[.ex (mPure opIx [.sl 11, .ex (mK (.int 1))])], itEnum⟩ (.tp [.nm 13, .nm 14]) (mTE (mPure opLt [.sl 14, .ex (mPure opIx [.ex (mPure opIx [.sl 6, .ex (mK (.int 1))]), .sl 13])])) (mVar 13) [13, 14]), .ex (mPure opLst (exs []))])) (mRet (mK (.bool false))) (mSkip))
    (mSeq (mSet 12 (mCall (f_needs) [.sl 8, .sl 9, .ex (mPure opIx [.sl 10, .ex (mK (.int 0))]), .sl 4]))
    (mCond (mOr (mTE (mPure opIs [.sl 12, .ex (mK (.none))])) (mTE (mPure opNe [.ex (mLc ⟨[.sl 12], itEnum⟩ (.tp [.nm 13, .nm 14]) (mTE (mPure opGt [.sl 14, .ex (mPure opIx [.sl 7, .sl 13])])) (mVar 13) [13, 14]), .ex (mPure opLst (exs []))]))) (mRet (mK (.bool false))) (mSkip))))))))))))))
noncomputable def me_law : MS := mRet (mK (.bool true))
noncomputable def m_law (ns : List Int) : MS := mSeq (mFor ⟨[.ex (mScr (cutD ((0 :: ns).map PyData.int) none (some 12)))], itSeq⟩ (.nm 1) (mb_law)) (me_law)

end K05
set_option Elab.async false
set_option linter.all false
set_option maxRecDepth 100000
set_option autoImplicit false
set_option maxHeartbeats 4000000
namespace K05
open PySem PySem.Spec PyProof.Rows L2 Sh Mi
def topS (i : Nat) : Stmt := PySem.Challenge.pw_shrinkhall_k05_whole_more_room_lets_more.main.body.getD i (.Pass ⟨0, 0, 0, 0⟩)
structure Tops (K : PySem.W.Frag) (mg : Str → Option Value) : Prop where
  b_all : mg "all" = none
  b_bool : mg "bool" = none
  b_dict : mg "dict" = none
  b_enumerate : mg "enumerate" = none
  b_int : mg "int" = none
  b_isinstance : mg "isinstance" = none
  b_len : mg "len" = none
  b_list : mg "list" = none
  b_max : mg "max" = none
  b_min : mg "min" = none
  b_range : mg "range" = none
  b_sorted : mg "sorted" = none
  b_str : mg "str" = none
  b_sum : mg "sum" = none
  b_tuple : mg "tuple" = none
  b_zip : mg "zip" = none
  c_LETTERS : ∃ t, mg "LETTERS" = some (.str "abcdefghijklmnopqrstuvwxyz" t)
  c_MOST : ∃ t, mg "MOST" = some (.int 9 t)
  c_MOST_BEARERS : ∃ t, mg "MOST_BEARERS" = some (.int 3 t)
  c_MOST_COMINGS : ∃ t, mg "MOST_COMINGS" = some (.int 60 t)
  c_MOST_GAINS : ∃ t, mg "MOST_GAINS" = some (.int 10 t)
  c_MOST_ROOMS : ∃ t, mg "MOST_ROOMS" = some (.int 5 t)
  d_is_from : Dst K mg "is_from" (topS 13)
  d_is_name : Dst K mg "is_name" (topS 14)
  d_is_rising : Dst K mg "is_rising" (topS 15)
  d_are_rows : Dst K mg "are_rows" (topS 16)
  d_are_rooms : Dst K mg "are_rooms" (topS 17)
  d_is_one_of : Dst K mg "is_one_of" (topS 18)
  d_is_house : Dst K mg "is_house" (topS 19)
  d_are_bearers : Dst K mg "are_bearers" (topS 20)
  d_names_of : Dst K mg "names_of" (topS 21)
  d_are_places : Dst K mg "are_places" (topS 22)
  d_is_standing : Dst K mg "is_standing" (topS 23)
  d_need_house : Dst K mg "need_house" (topS 24)
  d_need_bearers : Dst K mg "need_bearers" (topS 25)
  d_need_stand : Dst K mg "need_stand" (topS 26)
  d_need_places : Dst K mg "need_places" (topS 27)
  d_are_near : Dst K mg "are_near" (topS 30)
  d_gained : Dst K mg "gained" (topS 31)
  d_come : Dst K mg "come" (topS 32)
  d_is_coming : Dst K mg "is_coming" (topS 33)
  d_is_row : Dst K mg "is_row" (topS 34)
  d_need_row : Dst K mg "need_row" (topS 35)
  d_walked : Dst K mg "walked" (topS 36)
  d_gone : Dst K mg "gone" (topS 37)
  d_along : Dst K mg "along" (topS 38)
  d_needs : Dst K mg "needs" (topS 39)
  d_law_deck : Dst K mg "_law_deck" (topS 41)
  d_law_pick : Dst K mg "_law_pick" (topS 42)
  d_law_one : Dst K mg "_law_one" (topS 43)
  d_law_house : Dst K mg "_law_house" (topS 44)
  d_law_bearers : Dst K mg "_law_bearers" (topS 45)
  d_law_places : Dst K mg "_law_places" (topS 46)
  d_law_stand : Dst K mg "_law_stand" (topS 47)
  d_law_hall : Dst K mg "_law_hall" (topS 48)
  d_law_come : Dst K mg "_law_come" (topS 49)
  d_law_nexts : Dst K mg "_law_nexts" (topS 50)
  d_law_gone : Dst K mg "_law_gone" (topS 51)
  d_law_row : Dst K mg "_law_row" (topS 52)
  d_law_eased : Dst K mg "_law_eased" (topS 53)
section
variable {P : Program} {K : PySem.W.Frag} {mg : Str → Option Value} {base : Heap} {c : Gc}

abbrev s_is_from : Stmt := topS 13
abbrev N_is_from : List Str := ["thing", "low", "high"]
theorem sc_is_from : FnScope N_is_from ["thing", "low", "high"] (defScope s_is_from) := ⟨rfl, rfl, rfl, by decide +kernel, rfl, by decide +kernel, by decide +kernel⟩
theorem d_is_from (T : Tops K mg) : Dfn P c.w K mg base "is_from" (1) ["thing", "low", "high"] (spP c 3 (f_is_from)) := by
  refine mk_P (k := 0) (n := 0) (m := m_is_from) T.d_is_from sc_is_from rfl (fun _ _ _ _ _ _ us hl => match us, hl with | [_, _, _], _ => rfl) (fun f cdv A outer s H hr => ?_)
  have hu := hr.units
  exact ss_one (ss_ret (s_and (s_isi rfl T.b_isinstance (so_sl (pv 0)) rfl T.b_int bt_int) (s_and (s_not (s_isi rfl T.b_isinstance (so_sl (pv 0)) rfl T.b_bool bt_bool)) (s_one (s_chain (z_le hu) (z_le hu) (so_sl (pv 1)) (so_sl (pv 0)) (so_sl (pv 2)))))))

abbrev s_is_name : Stmt := topS 14
abbrev N_is_name : List Str := ["thing", "sign"]
theorem sc_is_name : FnScope N_is_name ["thing"] (defScope s_is_name) := ⟨rfl, rfl, rfl, by decide +kernel, rfl, by decide +kernel, by decide +kernel⟩
theorem d_is_name (T : Tops K mg) : Dfn P c.w K mg base "is_name" (1) ["thing"] (spP c 1 (f_is_name)) := by
  refine mk_P (k := 0) (n := 1) (m := m_is_name) T.d_is_name sc_is_name rfl (fun _ _ _ _ _ _ us hl => match us, hl with | [_], _ => rfl) (fun f cdv A outer s H hr => ?_)
  have hu := hr.units
  exact ss_one (ss_ret (s_and (s_isi rfl T.b_isinstance (so_sl (pv 0)) rfl T.b_str bt_str) (s_and (s_chain (z_le hu) (z_le hu) (so_ex (s_int)) (so_ex (b_len T.b_len (sa_cons (so_sl (pv 0)) (sa_nil)))) (so_ex (s_int))) (s_one (b_all rfl T.b_all (sa_cons (so_ex (s_lc (own := [("sign", 1)]) rfl sc_is_name.nd (i_seq (so_sl (pv 0))) (blkOk_by (own := [("sign", 1)]) (N := N_is_name) (sc := defScope s_is_name) (by decide +kernel)) (fun _ _ _ _ _ => g_nm (i := 1) sc_is_name.nd rfl (by first | exact Or.inl rfl | exact Or.inr rfl)) (fun _ _ _ _ _ => ts_nil) (fun _ _ _ _ _ => s_cmp (z_in hu) (so_sl (pv 1)) (so_ex (g_str T.c_LETTERS)) (by rfl)))) (sa_nil)))))))

abbrev s_is_rising : Stmt := topS 15
abbrev N_is_rising : List Str := ["things", "one", "other"]
theorem sc_is_rising : FnScope N_is_rising ["things"] (defScope s_is_rising) := ⟨rfl, rfl, rfl, by decide +kernel, rfl, by decide +kernel, by decide +kernel⟩
theorem d_is_rising (T : Tops K mg) : Dfn P c.w K mg base "is_rising" (1) ["things"] (spP c 1 (f_is_rising)) := by
  refine mk_P (k := 0) (n := 2) (m := m_is_rising) T.d_is_rising sc_is_rising rfl (fun _ _ _ _ _ _ us hl => match us, hl with | [_], _ => rfl) (fun f cdv A outer s H hr => ?_)
  have hu := hr.units
  exact ss_one (ss_ret (b_all rfl T.b_all (sa_cons (so_ex (s_lc (own := [("one", 1), ("other", 2)]) rfl sc_is_rising.nd (i_zip rfl T.b_zip (sa_cons (so_sl (pv 0)) (sa_cons (so_ex (s_slLo (so_sl (pv 0)) (so_ex (s_int)))) (sa_nil)))) (blkOk_by (own := [("one", 1), ("other", 2)]) (N := N_is_rising) (sc := defScope s_is_rising) (by decide +kernel)) (fun _ _ _ _ _ => g_tp rfl (gs_cons (g_nm (i := 1) sc_is_rising.nd rfl (by first | exact Or.inl rfl | exact Or.inr rfl)) (gs_cons (g_nm (i := 2) sc_is_rising.nd rfl (by first | exact Or.inl rfl | exact Or.inr rfl)) (gs_nil))) rfl) (fun _ _ _ _ _ => ts_nil) (fun _ _ _ _ _ => s_cmp (z_lt hu) (so_sl (pv 1)) (so_sl (pv 2)) (by rfl)))) (sa_nil))))

abbrev s_are_rows : Stmt := topS 16
abbrev N_are_rows : List Str := ["thing", "size", "most", "row"]
theorem sc_are_rows : FnScope N_are_rows ["thing", "size", "most"] (defScope s_are_rows) := ⟨rfl, rfl, rfl, by decide +kernel, rfl, by decide +kernel, by decide +kernel⟩
theorem d_are_rows (T : Tops K mg) : Dfn P c.w K mg base "are_rows" (1) ["thing", "size", "most"] (spP c 3 (f_are_rows)) := by
  refine mk_P (k := 0) (n := 1) (m := m_are_rows) T.d_are_rows sc_are_rows rfl (fun _ _ _ _ _ _ us hl => match us, hl with | [_, _, _], _ => rfl) (fun f cdv A outer s H hr => ?_)
  have hu := hr.units
  exact ss_cons (ss_if (PW.pt (w_or (t_not (t_val (s_isi rfl T.b_isinstance (so_sl (pv 0)) rfl T.b_tuple bt_tuple))) (w_or1 (t_cmp (z_gt hu) (so_ex (b_len T.b_len (sa_cons (so_sl (pv 0)) (sa_nil)))) (so_sl (pv 2)) (by rfl))))) (ss_one (ss_ret (s_bool))) (ss_nil))
    (ss_one (ss_ret (b_all rfl T.b_all (sa_cons (so_ex (s_lc (own := [("row", 3)]) rfl sc_are_rows.nd (i_seq (so_sl (pv 0))) (blkOk_by (own := [("row", 3)]) (N := N_are_rows) (sc := defScope s_are_rows) (by decide +kernel)) (fun _ _ _ _ _ => g_nm (i := 3) sc_are_rows.nd rfl (by first | exact Or.inl rfl | exact Or.inr rfl)) (fun _ _ _ _ _ => ts_nil) (fun _ _ _ _ _ => s_and (s_isi rfl T.b_isinstance (so_sl (pv 3)) rfl T.b_tuple bt_tuple) (s_one (s_cmp (z_eq hu) (so_ex (b_len T.b_len (sa_cons (so_sl (pv 3)) (sa_nil)))) (so_sl (pv 1)) (by rfl)))))) (sa_nil)))))

abbrev s_are_rooms : Stmt := topS 17
abbrev N_are_rooms : List Str := ["thing", "row"]
theorem sc_are_rooms : FnScope N_are_rooms ["thing"] (defScope s_are_rooms) := ⟨rfl, rfl, rfl, by decide +kernel, rfl, by decide +kernel, by decide +kernel⟩
theorem d_are_rooms (T : Tops K mg) (h_are_rows : Dfn P c.w K mg base "are_rows" (1) ["thing", "size", "most"] (spP c 3 (f_are_rows))) (h_is_from : Dfn P c.w K mg base "is_from" (1) ["thing", "low", "high"] (spP c 3 (f_is_from))) (h_is_name : Dfn P c.w K mg base "is_name" (1) ["thing"] (spP c 1 (f_is_name))) (h_is_rising : Dfn P c.w K mg base "is_rising" (1) ["things"] (spP c 1 (f_is_rising))) : Dfn P c.w K mg base "are_rooms" (2) ["thing"] (spP c 1 (f_are_rooms)) := by
  refine mk_P (k := 1) (n := 1) (m := m_are_rooms) T.d_are_rooms sc_are_rooms rfl (fun _ _ _ _ _ _ us hl => match us, hl with | [_], _ => rfl) (fun f cdv A outer s H hr => ?_)
  have hu := hr.units
  exact ss_cons (ss_if (PW.pt (w_or (t_not (t_val (s_fn h_are_rows (hr.mono (by decide)) (sa_cons (so_sl (pv 0)) (sa_cons (so_ex (s_int)) (sa_cons (so_ex (g_int T.c_MOST_ROOMS)) (sa_nil))))))) (w_or1 (t_cmp (z_eq hu) (so_sl (pv 0)) (so_ex (s_tup (sa_nil))) (by rfl))))) (ss_one (ss_ret (s_bool))) (ss_nil))
    (ss_cons (ss_if (t_not (t_val (b_all rfl T.b_all (sa_cons (so_ex (s_lc (own := [("row", 1)]) rfl sc_are_rooms.nd (i_seq (so_sl (pv 0))) (blkOk_by (own := [("row", 1)]) (N := N_are_rooms) (sc := defScope s_are_rooms) (by decide +kernel)) (fun _ _ _ _ _ => g_nm (i := 1) sc_are_rooms.nd rfl (by first | exact Or.inl rfl | exact Or.inr rfl)) (fun _ _ _ _ _ => ts_nil) (fun _ _ _ _ _ => s_and (s_fn h_is_name (hr.mono (by decide)) (sa_cons (so_ex (s_ix (so_sl (pv 1)) (so_ex (s_int)) (fun _ _ => rfl))) (sa_nil))) (s_and (s_fn h_is_from (hr.mono (by decide)) (sa_cons (so_ex (s_ix (so_sl (pv 1)) (so_ex (s_int)) (fun _ _ => rfl))) (sa_cons (so_ex (s_int)) (sa_cons (so_ex (g_int T.c_MOST)) (sa_nil))))) (s_one (s_fn h_is_from (hr.mono (by decide)) (sa_cons (so_ex (s_ix (so_sl (pv 1)) (so_ex (s_int)) (fun _ _ => rfl))) (sa_cons (so_ex (s_int)) (sa_cons (so_ex (g_int T.c_MOST)) (sa_nil)))))))))) (sa_nil))))) (ss_one (ss_ret (s_bool))) (ss_nil))
    (ss_one (ss_ret (s_fn h_is_rising (hr.mono (by decide)) (sa_cons (so_ex (s_lc (own := [("row", 1)]) rfl sc_are_rooms.nd (i_seq (so_sl (pv 0))) (blkOk_by (own := [("row", 1)]) (N := N_are_rooms) (sc := defScope s_are_rooms) (by decide +kernel)) (fun _ _ _ _ _ => g_nm (i := 1) sc_are_rooms.nd rfl (by first | exact Or.inl rfl | exact Or.inr rfl)) (fun _ _ _ _ _ => ts_nil) (fun _ _ _ _ _ => s_ix (so_sl (pv 1)) (so_ex (s_int)) (fun _ _ => rfl)))) (sa_nil))))))

abbrev s_is_one_of : Stmt := topS 18
abbrev N_is_one_of : List Str := ["thing", "names"]
theorem sc_is_one_of : FnScope N_is_one_of ["thing", "names"] (defScope s_is_one_of) := ⟨rfl, rfl, rfl, by decide +kernel, rfl, by decide +kernel, by decide +kernel⟩
theorem d_is_one_of (T : Tops K mg) : Dfn P c.w K mg base "is_one_of" (1) ["thing", "names"] (spP c 2 (f_is_one_of)) := by
  refine mk_P (k := 0) (n := 0) (m := m_is_one_of) T.d_is_one_of sc_is_one_of rfl (fun _ _ _ _ _ _ us hl => match us, hl with | [_, _], _ => rfl) (fun f cdv A outer s H hr => ?_)
  have hu := hr.units
  exact ss_one (ss_ret (s_and (s_isi rfl T.b_isinstance (so_sl (pv 0)) rfl T.b_str bt_str) (s_one (s_cmp (z_in hu) (so_sl (pv 0)) (so_sl (pv 1)) (by rfl)))))

abbrev s_is_house : Stmt := topS 19
abbrev N_is_house : List Str := ["thing", "names", "rooms", "doors", "gains", "room", "row"]
theorem sc_is_house : FnScope N_is_house ["thing"] (defScope s_is_house) := ⟨rfl, rfl, rfl, by decide +kernel, rfl, by decide +kernel, by decide +kernel⟩
theorem d_is_house (T : Tops K mg) (h_are_rooms : Dfn P c.w K mg base "are_rooms" (2) ["thing"] (spP c 1 (f_are_rooms))) (h_are_rows : Dfn P c.w K mg base "are_rows" (1) ["thing", "size", "most"] (spP c 3 (f_are_rows))) (h_is_from : Dfn P c.w K mg base "is_from" (1) ["thing", "low", "high"] (spP c 3 (f_is_from))) (h_is_one_of : Dfn P c.w K mg base "is_one_of" (1) ["thing", "names"] (spP c 2 (f_is_one_of))) (h_is_rising : Dfn P c.w K mg base "is_rising" (1) ["things"] (spP c 1 (f_is_rising))) : Dfn P c.w K mg base "is_house" (3) ["thing"] (spP c 1 (f_is_house)) := by
  refine mk_P (k := 2) (n := 6) (m := m_is_house) T.d_is_house sc_is_house rfl (fun _ _ _ _ _ _ us hl => match us, hl with | [_], _ => rfl) (fun f cdv A outer s H hr => ?_)
  have hu := hr.units
  exact ss_cons (ss_if (PW.pt (w_or (t_not (t_val (s_isi rfl T.b_isinstance (so_sl (pv 0)) rfl T.b_tuple bt_tuple))) (w_or (t_cmp (z_ne hu) (so_ex (b_len T.b_len (sa_cons (so_sl (pv 0)) (sa_nil)))) (so_ex (s_int)) (by rfl)) (w_or1 (t_not (t_val (s_fn h_are_rooms (hr.mono (by decide)) (sa_cons (so_ex (s_ix (so_sl (pv 0)) (so_ex (s_int)) (fun _ _ => rfl))) (sa_nil))))))))) (ss_one (ss_ret (s_bool))) (ss_nil))
    (ss_cons (ss_asg (s_var (pv 0)) (g_tp rfl (gs_cons (g_nm (i := 2) sc_is_house.nd rfl (by first | exact Or.inl rfl | exact Or.inr rfl)) (gs_cons (g_nm (i := 3) sc_is_house.nd rfl (by first | exact Or.inl rfl | exact Or.inr rfl)) (gs_cons (g_nm (i := 4) sc_is_house.nd rfl (by first | exact Or.inl rfl | exact Or.inr rfl)) (gs_nil)))) rfl))
    (ss_cons (ss_set (i := 1) sc_is_house.nd rfl (by first | exact Or.inl rfl | exact Or.inr rfl) (s_lc (own := [("room", 5)]) rfl sc_is_house.nd (i_seq (so_sl (pv 2))) (blkOk_by (own := [("room", 5)]) (N := N_is_house) (sc := defScope s_is_house) (by decide +kernel)) (fun _ _ _ _ _ => g_nm (i := 5) sc_is_house.nd rfl (by first | exact Or.inl rfl | exact Or.inr rfl)) (fun _ _ _ _ _ => ts_nil) (fun _ _ _ _ _ => s_ix (so_sl (pv 5)) (so_ex (s_int)) (fun _ _ => rfl))))
    (ss_cons (ss_if (PW.pt (w_or (t_not (t_val (s_fn h_are_rows (hr.mono (by decide)) (sa_cons (so_sl (pv 3)) (sa_cons (so_ex (s_int)) (sa_cons (so_ex (s_op z_mul (so_ex (g_int T.c_MOST_ROOMS)) (so_ex (g_int T.c_MOST_ROOMS)))) (sa_nil))))))) (w_or1 (t_not (t_val (s_fn h_are_rows (hr.mono (by decide)) (sa_cons (so_sl (pv 4)) (sa_cons (so_ex (s_int)) (sa_cons (so_ex (g_int T.c_MOST_GAINS)) (sa_nil)))))))))) (ss_one (ss_ret (s_bool))) (ss_nil))
    (ss_cons (ss_if (t_not (t_val (b_all rfl T.b_all (sa_cons (so_ex (s_lc (own := [("row", 6)]) rfl sc_is_house.nd (i_seq (so_sl (pv 3))) (blkOk_by (own := [("row", 6)]) (N := N_is_house) (sc := defScope s_is_house) (by decide +kernel)) (fun _ _ _ _ _ => g_nm (i := 6) sc_is_house.nd rfl (by first | exact Or.inl rfl | exact Or.inr rfl)) (fun _ _ _ _ _ => ts_nil) (fun _ _ _ _ _ => s_and (s_fn h_is_one_of (hr.mono (by decide)) (sa_cons (so_ex (s_ix (so_sl (pv 6)) (so_ex (s_int)) (fun _ _ => rfl))) (sa_cons (so_sl (pv 1)) (sa_nil)))) (s_and (s_fn h_is_one_of (hr.mono (by decide)) (sa_cons (so_ex (s_ix (so_sl (pv 6)) (so_ex (s_int)) (fun _ _ => rfl))) (sa_cons (so_sl (pv 1)) (sa_nil)))) (s_one (s_cmp (z_lt hu) (so_ex (s_ix (so_sl (pv 6)) (so_ex (s_int)) (fun _ _ => rfl))) (so_ex (s_ix (so_sl (pv 6)) (so_ex (s_int)) (fun _ _ => rfl))) (by rfl))))))) (sa_nil))))) (ss_one (ss_ret (s_bool))) (ss_nil))
    (ss_cons (ss_if (t_not (t_val (b_all rfl T.b_all (sa_cons (so_ex (s_lc (own := [("row", 6)]) rfl sc_is_house.nd (i_seq (so_sl (pv 4))) (blkOk_by (own := [("row", 6)]) (N := N_is_house) (sc := defScope s_is_house) (by decide +kernel)) (fun _ _ _ _ _ => g_nm (i := 6) sc_is_house.nd rfl (by first | exact Or.inl rfl | exact Or.inr rfl)) (fun _ _ _ _ _ => ts_nil) (fun _ _ _ _ _ => s_and (s_fn h_is_one_of (hr.mono (by decide)) (sa_cons (so_ex (s_ix (so_sl (pv 6)) (so_ex (s_int)) (fun _ _ => rfl))) (sa_cons (so_sl (pv 1)) (sa_nil)))) (s_and (s_fn h_is_one_of (hr.mono (by decide)) (sa_cons (so_ex (s_ix (so_sl (pv 6)) (so_ex (s_int)) (fun _ _ => rfl))) (sa_cons (so_sl (pv 1)) (sa_nil)))) (s_one (s_fn h_is_from (hr.mono (by decide)) (sa_cons (so_ex (s_ix (so_sl (pv 6)) (so_ex (s_int)) (fun _ _ => rfl))) (sa_cons (so_ex (s_int)) (sa_cons (so_ex (g_int T.c_MOST)) (sa_nil)))))))))) (sa_nil))))) (ss_one (ss_ret (s_bool))) (ss_nil))
    (ss_one (ss_ret (s_and (s_fn h_is_rising (hr.mono (by decide)) (sa_cons (so_sl (pv 3)) (sa_nil))) (s_one (s_fn h_is_rising (hr.mono (by decide)) (sa_cons (so_ex (s_lc (own := [("row", 6)]) rfl sc_is_house.nd (i_seq (so_sl (pv 4))) (blkOk_by (own := [("row", 6)]) (N := N_is_house) (sc := defScope s_is_house) (by decide +kernel)) (fun _ _ _ _ _ => g_nm (i := 6) sc_is_house.nd rfl (by first | exact Or.inl rfl | exact Or.inr rfl)) (fun _ _ _ _ _ => ts_nil) (fun _ _ _ _ _ => s_slHi (so_sl (pv 6)) (so_ex (s_int))))) (sa_nil))))))))))))

abbrev s_are_bearers : Stmt := topS 20
abbrev N_are_bearers : List Str := ["thing", "size"]
theorem sc_are_bearers : FnScope N_are_bearers ["thing"] (defScope s_are_bearers) := ⟨rfl, rfl, rfl, by decide +kernel, rfl, by decide +kernel, by decide +kernel⟩
theorem d_are_bearers (T : Tops K mg) (h_is_from : Dfn P c.w K mg base "is_from" (1) ["thing", "low", "high"] (spP c 3 (f_is_from))) : Dfn P c.w K mg base "are_bearers" (2) ["thing"] (spP c 1 (f_are_bearers)) := by
  refine mk_P (k := 1) (n := 1) (m := m_are_bearers) T.d_are_bearers sc_are_bearers rfl (fun _ _ _ _ _ _ us hl => match us, hl with | [_], _ => rfl) (fun f cdv A outer s H hr => ?_)
  have hu := hr.units
  exact ss_cons (ss_if (PW.pt (w_or (t_not (t_val (s_isi rfl T.b_isinstance (so_sl (pv 0)) rfl T.b_tuple bt_tuple))) (w_or1 (t_not (t_chain (z_le hu) (z_le hu) (so_ex (s_int)) (so_ex (b_len T.b_len (sa_cons (so_sl (pv 0)) (sa_nil)))) (so_ex (g_int T.c_MOST_BEARERS))))))) (ss_one (ss_ret (s_bool))) (ss_nil))
    (ss_one (ss_ret (b_all rfl T.b_all (sa_cons (so_ex (s_lc (own := [("size", 1)]) rfl sc_are_bearers.nd (i_seq (so_sl (pv 0))) (blkOk_by (own := [("size", 1)]) (N := N_are_bearers) (sc := defScope s_are_bearers) (by decide +kernel)) (fun _ _ _ _ _ => g_nm (i := 1) sc_are_bearers.nd rfl (by first | exact Or.inl rfl | exact Or.inr rfl)) (fun _ _ _ _ _ => ts_nil) (fun _ _ _ _ _ => s_fn h_is_from (hr.mono (by decide)) (sa_cons (so_sl (pv 1)) (sa_cons (so_ex (s_int)) (sa_cons (so_ex (g_int T.c_MOST)) (sa_nil))))))) (sa_nil)))))

abbrev s_names_of : Stmt := topS 21
abbrev N_names_of : List Str := ["house", "room"]
theorem sc_names_of : FnScope N_names_of ["house"] (defScope s_names_of) := ⟨rfl, rfl, rfl, by decide +kernel, rfl, by decide +kernel, by decide +kernel⟩
theorem d_names_of (T : Tops K mg) : Dfn P c.w K mg base "names_of" (1) ["house"] (spP c 1 (f_names_of)) := by
  refine mk_P (k := 0) (n := 1) (m := m_names_of) T.d_names_of sc_names_of rfl (fun _ _ _ _ _ _ us hl => match us, hl with | [_], _ => rfl) (fun f cdv A outer s H hr => ?_)
  have hu := hr.units
  exact ss_one (ss_ret (s_lc (own := [("room", 1)]) rfl sc_names_of.nd (i_seq (so_ex (s_ix (so_sl (pv 0)) (so_ex (s_int)) (fun _ _ => rfl)))) (blkOk_by (own := [("room", 1)]) (N := N_names_of) (sc := defScope s_names_of) (by decide +kernel)) (fun _ _ _ _ _ => g_nm (i := 1) sc_names_of.nd rfl (by first | exact Or.inl rfl | exact Or.inr rfl)) (fun _ _ _ _ _ => ts_nil) (fun _ _ _ _ _ => s_ix (so_sl (pv 1)) (so_ex (s_int)) (fun _ _ => rfl))))

abbrev s_are_places : Stmt := topS 22
abbrev N_are_places : List Str := ["house", "bearers", "thing", "place"]
theorem sc_are_places : FnScope N_are_places ["house", "bearers", "thing"] (defScope s_are_places) := ⟨rfl, rfl, rfl, by decide +kernel, rfl, by decide +kernel, by decide +kernel⟩
theorem d_are_places (T : Tops K mg) (h_is_one_of : Dfn P c.w K mg base "is_one_of" (1) ["thing", "names"] (spP c 2 (f_is_one_of))) (h_names_of : Dfn P c.w K mg base "names_of" (1) ["house"] (spP c 1 (f_names_of))) : Dfn P c.w K mg base "are_places" (2) ["house", "bearers", "thing"] (spP c 3 (f_are_places)) := by
  refine mk_P (k := 1) (n := 1) (m := m_are_places) T.d_are_places sc_are_places rfl (fun _ _ _ _ _ _ us hl => match us, hl with | [_, _, _], _ => rfl) (fun f cdv A outer s H hr => ?_)
  have hu := hr.units
  exact ss_cons (ss_if (PW.pt (w_or (t_not (t_val (s_isi rfl T.b_isinstance (so_sl (pv 2)) rfl T.b_tuple bt_tuple))) (w_or1 (t_cmp (z_ne hu) (so_ex (b_len T.b_len (sa_cons (so_sl (pv 2)) (sa_nil)))) (so_ex (b_len T.b_len (sa_cons (so_sl (pv 1)) (sa_nil)))) (by rfl))))) (ss_one (ss_ret (s_bool))) (ss_nil))
    (ss_one (ss_ret (b_all rfl T.b_all (sa_cons (so_ex (s_lc (own := [("place", 3)]) rfl sc_are_places.nd (i_seq (so_sl (pv 2))) (blkOk_by (own := [("place", 3)]) (N := N_are_places) (sc := defScope s_are_places) (by decide +kernel)) (fun _ _ _ _ _ => g_nm (i := 3) sc_are_places.nd rfl (by first | exact Or.inl rfl | exact Or.inr rfl)) (fun _ _ _ _ _ => ts_nil) (fun _ _ _ _ _ => s_fn h_is_one_of (hr.mono (by decide)) (sa_cons (so_sl (pv 3)) (sa_cons (so_ex (s_fn h_names_of (hr.mono (by decide)) (sa_cons (so_sl (pv 0)) (sa_nil)))) (sa_nil)))))) (sa_nil)))))

abbrev s_is_standing : Stmt := topS 23
abbrev N_is_standing : List Str := ["house", "bearers", "thing", "size", "room"]
theorem sc_is_standing : FnScope N_is_standing ["house", "bearers", "thing"] (defScope s_is_standing) := ⟨rfl, rfl, rfl, by decide +kernel, rfl, by decide +kernel, by decide +kernel⟩
theorem d_is_standing (T : Tops K mg) (h_are_places : Dfn P c.w K mg base "are_places" (2) ["house", "bearers", "thing"] (spP c 3 (f_are_places))) (h_is_from : Dfn P c.w K mg base "is_from" (1) ["thing", "low", "high"] (spP c 3 (f_is_from))) : Dfn P c.w K mg base "is_standing" (3) ["house", "bearers", "thing"] (spP c 3 (f_is_standing)) := by
  refine mk_P (k := 2) (n := 2) (m := m_is_standing) T.d_is_standing sc_is_standing rfl (fun _ _ _ _ _ _ us hl => match us, hl with | [_, _, _], _ => rfl) (fun f cdv A outer s H hr => ?_)
  have hu := hr.units
  exact ss_cons (ss_if (PW.pt (w_or (t_not (t_val (s_isi rfl T.b_isinstance (so_sl (pv 2)) rfl T.b_tuple bt_tuple))) (w_or (t_cmp (z_ne hu) (so_ex (b_len T.b_len (sa_cons (so_sl (pv 2)) (sa_nil)))) (so_ex (s_int)) (by rfl)) (w_or1 (t_not (t_val (s_fn h_are_places (hr.mono (by decide)) (sa_cons (so_sl (pv 0)) (sa_cons (so_sl (pv 1)) (sa_cons (so_ex (s_ix (so_sl (pv 2)) (so_ex (s_int)) (fun _ _ => rfl))) (sa_nil))))))))))) (ss_one (ss_ret (s_bool))) (ss_nil))
    (ss_cons (ss_if (PW.pt (w_or (t_not (t_val (s_isi rfl T.b_isinstance (so_ex (s_ix (so_sl (pv 2)) (so_ex (s_int)) (fun _ _ => rfl))) rfl T.b_tuple bt_tuple))) (w_or1 (t_cmp (z_ne hu) (so_ex (b_len T.b_len (sa_cons (so_ex (s_ix (so_sl (pv 2)) (so_ex (s_int)) (fun _ _ => rfl))) (sa_nil)))) (so_ex (b_len T.b_len (sa_cons (so_ex (s_ix (so_sl (pv 0)) (so_ex (s_int)) (fun _ _ => rfl))) (sa_nil)))) (by rfl))))) (ss_one (ss_ret (s_bool))) (ss_nil))
    (ss_one (ss_ret (b_all rfl T.b_all (sa_cons (so_ex (s_lc (own := [("size", 3), ("room", 4)]) rfl sc_is_standing.nd (i_zip rfl T.b_zip (sa_cons (so_ex (s_ix (so_sl (pv 2)) (so_ex (s_int)) (fun _ _ => rfl))) (sa_cons (so_ex (s_ix (so_sl (pv 0)) (so_ex (s_int)) (fun _ _ => rfl))) (sa_nil)))) (blkOk_by (own := [("size", 3), ("room", 4)]) (N := N_is_standing) (sc := defScope s_is_standing) (by decide +kernel)) (fun _ _ _ _ _ => g_tp rfl (gs_cons (g_nm (i := 3) sc_is_standing.nd rfl (by first | exact Or.inl rfl | exact Or.inr rfl)) (gs_cons (g_nm (i := 4) sc_is_standing.nd rfl (by first | exact Or.inl rfl | exact Or.inr rfl)) (gs_nil))) rfl) (fun _ _ _ _ _ => ts_nil) (fun _ _ _ _ _ => s_fn h_is_from (hr.mono (by decide)) (sa_cons (so_sl (pv 3)) (sa_cons (so_ex (s_int)) (sa_cons (so_ex (s_ix (so_sl (pv 4)) (so_ex (s_int)) (fun _ _ => rfl))) (sa_nil))))))) (sa_nil))))))

abbrev s_need_house : Stmt := topS 24
abbrev N_need_house : List Str := ["house"]
theorem sc_need_house : FnScope N_need_house ["house"] (defScope s_need_house) := ⟨rfl, rfl, rfl, by decide +kernel, rfl, by decide +kernel, by decide +kernel⟩
theorem d_need_house (T : Tops K mg) (h_is_house : Dfn P c.w K mg base "is_house" (3) ["thing"] (spP c 1 (f_is_house))) : Dfn P c.w K mg base "need_house" (4) ["house"] (spP c 1 (f_need_house)) := by
  refine mk_P (k := 3) (n := 0) (m := m_need_house) T.d_need_house sc_need_house rfl (fun _ _ _ _ _ _ us hl => match us, hl with | [_], _ => rfl) (fun f cdv A outer s H hr => ?_)
  have hu := hr.units
  exact ss_one (ss_if (t_not (t_val (s_fn h_is_house (hr.mono (by decide)) (sa_cons (so_sl (pv 0)) (sa_nil))))) (ss_one (ss_never)) (ss_nil))

abbrev s_need_bearers : Stmt := topS 25
abbrev N_need_bearers : List Str := ["house", "bearers"]
theorem sc_need_bearers : FnScope N_need_bearers ["house", "bearers"] (defScope s_need_bearers) := ⟨rfl, rfl, rfl, by decide +kernel, rfl, by decide +kernel, by decide +kernel⟩
theorem d_need_bearers (T : Tops K mg) (h_are_bearers : Dfn P c.w K mg base "are_bearers" (2) ["thing"] (spP c 1 (f_are_bearers))) (h_need_house : Dfn P c.w K mg base "need_house" (4) ["house"] (spP c 1 (f_need_house))) : Dfn P c.w K mg base "need_bearers" (5) ["house", "bearers"] (spP c 2 (f_need_bearers)) := by
  refine mk_P (k := 4) (n := 0) (m := m_need_bearers) T.d_need_bearers sc_need_bearers rfl (fun _ _ _ _ _ _ us hl => match us, hl with | [_, _], _ => rfl) (fun f cdv A outer s H hr => ?_)
  have hu := hr.units
  exact ss_cons (ss_do (s_fn h_need_house (hr.mono (by decide)) (sa_cons (so_sl (pv 0)) (sa_nil))))
    (ss_one (ss_if (t_not (t_val (s_fn h_are_bearers (hr.mono (by decide)) (sa_cons (so_sl (pv 1)) (sa_nil))))) (ss_one (ss_never)) (ss_nil)))

abbrev s_need_stand : Stmt := topS 26
abbrev N_need_stand : List Str := ["house", "bearers", "stand"]
theorem sc_need_stand : FnScope N_need_stand ["house", "bearers", "stand"] (defScope s_need_stand) := ⟨rfl, rfl, rfl, by decide +kernel, rfl, by decide +kernel, by decide +kernel⟩
theorem d_need_stand (T : Tops K mg) (h_is_standing : Dfn P c.w K mg base "is_standing" (3) ["house", "bearers", "thing"] (spP c 3 (f_is_standing))) (h_need_bearers : Dfn P c.w K mg base "need_bearers" (5) ["house", "bearers"] (spP c 2 (f_need_bearers))) : Dfn P c.w K mg base "need_stand" (6) ["house", "bearers", "stand"] (spP c 3 (f_need_stand)) := by
  refine mk_P (k := 5) (n := 0) (m := m_need_stand) T.d_need_stand sc_need_stand rfl (fun _ _ _ _ _ _ us hl => match us, hl with | [_, _, _], _ => rfl) (fun f cdv A outer s H hr => ?_)
  have hu := hr.units
  exact ss_cons (ss_do (s_fn h_need_bearers (hr.mono (by decide)) (sa_cons (so_sl (pv 0)) (sa_cons (so_sl (pv 1)) (sa_nil)))))
    (ss_one (ss_if (t_not (t_val (s_fn h_is_standing (hr.mono (by decide)) (sa_cons (so_sl (pv 0)) (sa_cons (so_sl (pv 1)) (sa_cons (so_sl (pv 2)) (sa_nil))))))) (ss_one (ss_never)) (ss_nil)))

abbrev s_need_places : Stmt := topS 27
abbrev N_need_places : List Str := ["house", "bearers", "places"]
theorem sc_need_places : FnScope N_need_places ["house", "bearers", "places"] (defScope s_need_places) := ⟨rfl, rfl, rfl, by decide +kernel, rfl, by decide +kernel, by decide +kernel⟩
theorem d_need_places (T : Tops K mg) (h_are_places : Dfn P c.w K mg base "are_places" (2) ["house", "bearers", "thing"] (spP c 3 (f_are_places))) (h_need_bearers : Dfn P c.w K mg base "need_bearers" (5) ["house", "bearers"] (spP c 2 (f_need_bearers))) : Dfn P c.w K mg base "need_places" (6) ["house", "bearers", "places"] (spP c 3 (f_need_places)) := by
  refine mk_P (k := 5) (n := 0) (m := m_need_places) T.d_need_places sc_need_places rfl (fun _ _ _ _ _ _ us hl => match us, hl with | [_, _, _], _ => rfl) (fun f cdv A outer s H hr => ?_)
  have hu := hr.units
  exact ss_cons (ss_do (s_fn h_need_bearers (hr.mono (by decide)) (sa_cons (so_sl (pv 0)) (sa_cons (so_sl (pv 1)) (sa_nil)))))
    (ss_one (ss_if (t_not (t_val (s_fn h_are_places (hr.mono (by decide)) (sa_cons (so_sl (pv 0)) (sa_cons (so_sl (pv 1)) (sa_cons (so_sl (pv 2)) (sa_nil))))))) (ss_one (ss_never)) (ss_nil)))

abbrev s_are_near : Stmt := topS 30
abbrev N_are_near : List Str := ["house", "one", "other"]
theorem sc_are_near : FnScope N_are_near ["house", "one", "other"] (defScope s_are_near) := ⟨rfl, rfl, rfl, by decide +kernel, rfl, by decide +kernel, by decide +kernel⟩
theorem d_are_near (T : Tops K mg) : Dfn P c.w K mg base "are_near" (1) ["house", "one", "other"] (spP c 3 (f_are_near)) := by
  refine mk_P (k := 0) (n := 0) (m := m_are_near) T.d_are_near sc_are_near rfl (fun _ _ _ _ _ _ us hl => match us, hl with | [_, _, _], _ => rfl) (fun f cdv A outer s H hr => ?_)
  have hu := hr.units
  exact ss_one (ss_ret (s_cmp (z_in hu) (so_ex (s_tup (sa_cons (so_ex (b_min2 rfl T.b_min (sa_cons (so_sl (pv 1)) (sa_cons (so_sl (pv 2)) (sa_nil))))) (sa_cons (so_ex (b_max2 rfl T.b_max (sa_cons (so_sl (pv 1)) (sa_cons (so_sl (pv 2)) (sa_nil))))) (sa_nil))))) (so_ex (s_ix (so_sl (pv 0)) (so_ex (s_int)) (fun _ _ => rfl))) (by rfl)))

abbrev s_gained : Stmt := topS 31
abbrev N_gained : List Str := ["house", "sizes", "left", "found", "caps", "here", "name", "more", "room"]
theorem sc_gained : FnScope N_gained ["house", "sizes", "left"] (defScope s_gained) := ⟨rfl, rfl, rfl, by decide +kernel, rfl, by decide +kernel, by decide +kernel⟩
theorem d_gained (T : Tops K mg) (h_names_of : Dfn P c.w K mg base "names_of" (1) ["house"] (spP c 1 (f_names_of))) : Dfn P c.w K mg base "gained" (2) ["house", "sizes", "left"] (spP c 3 (f_gained)) := by
  refine mk_P (k := 1) (n := 6) (m := m_gained) T.d_gained sc_gained rfl (fun _ _ _ _ _ _ us hl => match us, hl with | [_, _, _], _ => rfl) (fun f cdv A outer s H hr => ?_)
  have hu := hr.units
  exact ss_cons (ss_set (i := 3) sc_gained.nd rfl (by first | exact Or.inl rfl | exact Or.inr rfl) (s_dictzip rfl rfl T.b_dict rfl T.b_zip (sa_cons (so_ex (s_fn h_names_of (hr.mono (by decide)) (sa_cons (so_sl (pv 0)) (sa_nil)))) (sa_cons (so_sl (pv 1)) (sa_nil)))))
    (ss_cons (ss_setDc (i := 4) (own := [("room", 8)]) rfl sc_gained.nd rfl rfl (sw_dict rfl rfl rfl (by decide +kernel)) (i_seq (so_ex (s_ix (so_sl (pv 0)) (so_ex (s_int)) (fun _ _ => rfl)))) (blkOk_by (own := [("room", 8)]) (N := N_gained) (sc := defScope s_gained) (by decide +kernel)) (fun _ _ _ _ _ => g_nm (i := 8) sc_gained.nd rfl (by first | exact Or.inl rfl | exact Or.inr rfl)) (fun _ _ _ _ _ => ts_nil) (fun _ _ _ _ _ => s_ix (so_sl (pv 8)) (so_ex (s_int)) (fun _ _ => rfl)) (fun _ _ _ _ _ => s_ix (so_sl (pv 8)) (so_ex (s_int)) (fun _ _ => rfl)))
    (ss_cons (ss_for PassesOwn.never rfl (i_seq (so_ex (s_ix (so_sl (pv 0)) (so_ex (s_int)) (fun _ _ => rfl)))) (g_tp rfl (gs_cons (g_nm (i := 5) sc_gained.nd rfl (by first | exact Or.inl rfl | exact Or.inr rfl)) (gs_cons (g_nm (i := 6) sc_gained.nd rfl (by first | exact Or.inl rfl | exact Or.inr rfl)) (gs_cons (g_nm (i := 7) sc_gained.nd rfl (by first | exact Or.inl rfl | exact Or.inr rfl)) (gs_nil)))) rfl) (ss_one (ss_if (t_cmp (z_eq hu) (so_sl (pv 5)) (so_sl (pv 2)) (by rfl)) (ss_one (ss_putD hu (pv 3) (s_var (pv 6)) (b_min2 rfl T.b_min (sa_cons (so_ex (s_ixD hu (so_sl (pv 4)) (so_sl (pv 6)) (fun _ _ => rfl))) (sa_cons (so_ex (s_op z_add (so_ex (s_ixD hu (so_sl (pv 3)) (so_sl (pv 6)) (fun _ _ => rfl))) (so_sl (pv 7)))) (sa_nil)))))) (ss_nil))) (noAt [_]))
    (ss_one (ss_move (pv 3)))))

abbrev s_come : Stmt := topS 32
abbrev N_come : List Str := ["house", "bearers", "stand", "bearer", "name", "names", "found", "loss", "places", "sizes", "one"]
theorem sc_come : FnScope N_come ["house", "bearers", "stand", "bearer", "name"] (defScope s_come) := ⟨rfl, rfl, rfl, by decide +kernel, rfl, by decide +kernel, by decide +kernel⟩
theorem d_come (T : Tops K mg) (h_are_near : Dfn P c.w K mg base "are_near" (1) ["house", "one", "other"] (spP c 3 (f_are_near))) (h_gained : Dfn P c.w K mg base "gained" (2) ["house", "sizes", "left"] (spP c 3 (f_gained))) (h_names_of : Dfn P c.w K mg base "names_of" (1) ["house"] (spP c 1 (f_names_of))) : Dfn P c.w K mg base "come" (3) ["house", "bearers", "stand", "bearer", "name"] (spP c 5 (f_come)) := by
  refine mk_P (k := 2) (n := 6) (m := m_come) T.d_come sc_come rfl (fun _ _ _ _ _ _ us hl => match us, hl with | [_, _, _, _, _], _ => rfl) (fun f cdv A outer s H hr => ?_)
  have hu := hr.units
  exact ss_cons (ss_asg (s_var (pv 2)) (g_tp rfl (gs_cons (g_nm (i := 8) sc_come.nd rfl (by first | exact Or.inl rfl | exact Or.inr rfl)) (gs_cons (g_nm (i := 9) sc_come.nd rfl (by first | exact Or.inl rfl | exact Or.inr rfl)) (gs_nil))) rfl))
    (ss_cons (ss_set (i := 5) sc_come.nd rfl (by first | exact Or.inl rfl | exact Or.inr rfl) (s_fn h_names_of (hr.mono (by decide)) (sa_cons (so_sl (pv 0)) (sa_nil))))
    (ss_cons (ss_if (PW.pt (w_or (t_not (t_val (s_fn h_are_near (hr.mono (by decide)) (sa_cons (so_sl (pv 0)) (sa_cons (so_ex (s_ix (so_sl (pv 8)) (so_sl (pv 3)) (fun _ _ => rfl))) (sa_cons (so_sl (pv 4)) (sa_nil))))))) (w_or1 (t_cmp (z_lt hu) (so_ex (s_ix (so_sl (pv 9)) (so_ex (s_index (s_var (pv 5)) (s_var (pv 4)))) (fun _ _ => rfl))) (so_ex (s_ix (so_sl (pv 1)) (so_sl (pv 3)) (fun _ _ => rfl))) (by rfl))))) (ss_one (ss_ret (s_none))) (ss_nil))
    (ss_cons (ss_set (i := 6) sc_come.nd rfl (by first | exact Or.inl rfl | exact Or.inr rfl) (s_fn h_gained (hr.mono (by decide)) (sa_cons (so_sl (pv 0)) (sa_cons (so_sl (pv 9)) (sa_cons (so_ex (s_ix (so_sl (pv 8)) (so_sl (pv 3)) (fun _ _ => rfl))) (sa_nil))))))
    (ss_cons (ss_set (i := 7) sc_come.nd rfl (by first | exact Or.inl rfl | exact Or.inr rfl) (s_ix (so_ex (s_ix (so_ex (s_ix (so_sl (pv 0)) (so_ex (s_int)) (fun _ _ => rfl))) (so_ex (s_index (s_var (pv 5)) (s_var (pv 4)))) (fun _ _ => rfl))) (so_ex (s_int)) (fun _ _ => rfl)))
    (ss_cons (ss_putD hu (pv 6) (s_var (pv 4)) (b_max2 rfl T.b_max (sa_cons (so_ex (s_int)) (sa_cons (so_ex (s_op z_sub (so_ex (s_ixD hu (so_sl (pv 6)) (so_sl (pv 4)) (fun _ _ => rfl))) (so_sl (pv 7)))) (sa_nil)))))
    (ss_one (ss_ret (s_tup (sa_cons (so_ex (s_op z_add (so_ex (s_op z_add (so_ex (s_slHi (so_sl (pv 8)) (so_sl (pv 3)))) (so_ex (s_tup (sa_cons (so_ex (s_var (pv 4))) (sa_nil)))))) (so_ex (s_slLo (so_sl (pv 8)) (so_ex (s_op z_add (so_sl (pv 3)) (so_ex (s_int)))))))) (sa_cons (so_ex (b_tuple T.b_tuple (sa_cons (so_ex (s_lc (own := [("one", 10)]) rfl sc_come.nd (i_seq (so_sl (pv 5))) (blkOk_by (own := [("one", 10)]) (N := N_come) (sc := defScope s_come) (by decide +kernel)) (fun _ _ _ _ _ => g_nm (i := 10) sc_come.nd rfl (by first | exact Or.inl rfl | exact Or.inr rfl)) (fun _ _ _ _ _ => ts_nil) (fun _ _ _ _ _ => s_ixD hu (so_sl (pv 6)) (so_sl (pv 10)) (fun _ _ => rfl)))) (sa_nil)))) (sa_nil)))))))))))

abbrev s_is_coming : Stmt := topS 33
abbrev N_is_coming : List Str := ["house", "bearers", "thing"]
theorem sc_is_coming : FnScope N_is_coming ["house", "bearers", "thing"] (defScope s_is_coming) := ⟨rfl, rfl, rfl, by decide +kernel, rfl, by decide +kernel, by decide +kernel⟩
theorem d_is_coming (T : Tops K mg) (h_is_from : Dfn P c.w K mg base "is_from" (1) ["thing", "low", "high"] (spP c 3 (f_is_from))) (h_is_one_of : Dfn P c.w K mg base "is_one_of" (1) ["thing", "names"] (spP c 2 (f_is_one_of))) (h_names_of : Dfn P c.w K mg base "names_of" (1) ["house"] (spP c 1 (f_names_of))) : Dfn P c.w K mg base "is_coming" (2) ["house", "bearers", "thing"] (spP c 3 (f_is_coming)) := by
  refine mk_P (k := 1) (n := 0) (m := m_is_coming) T.d_is_coming sc_is_coming rfl (fun _ _ _ _ _ _ us hl => match us, hl with | [_, _, _], _ => rfl) (fun f cdv A outer s H hr => ?_)
  have hu := hr.units
  exact ss_cons (ss_if (PW.pt (w_or (t_not (t_val (s_isi rfl T.b_isinstance (so_sl (pv 2)) rfl T.b_tuple bt_tuple))) (w_or (t_cmp (z_ne hu) (so_ex (b_len T.b_len (sa_cons (so_sl (pv 2)) (sa_nil)))) (so_ex (s_int)) (by rfl)) (w_or1 (t_not (t_val (s_fn h_is_from (hr.mono (by decide)) (sa_cons (so_ex (s_ix (so_sl (pv 2)) (so_ex (s_int)) (fun _ _ => rfl))) (sa_cons (so_ex (s_int)) (sa_cons (so_ex (s_op z_sub (so_ex (b_len T.b_len (sa_cons (so_sl (pv 1)) (sa_nil)))) (so_ex (s_int)))) (sa_nil))))))))))) (ss_one (ss_ret (s_bool))) (ss_nil))
    (ss_one (ss_ret (s_fn h_is_one_of (hr.mono (by decide)) (sa_cons (so_ex (s_ix (so_sl (pv 2)) (so_ex (s_int)) (fun _ _ => rfl))) (sa_cons (so_ex (s_fn h_names_of (hr.mono (by decide)) (sa_cons (so_sl (pv 0)) (sa_nil)))) (sa_nil))))))

abbrev s_is_row : Stmt := topS 34
abbrev N_is_row : List Str := ["house", "bearers", "thing", "one"]
theorem sc_is_row : FnScope N_is_row ["house", "bearers", "thing"] (defScope s_is_row) := ⟨rfl, rfl, rfl, by decide +kernel, rfl, by decide +kernel, by decide +kernel⟩
theorem d_is_row (T : Tops K mg) (h_is_coming : Dfn P c.w K mg base "is_coming" (2) ["house", "bearers", "thing"] (spP c 3 (f_is_coming))) : Dfn P c.w K mg base "is_row" (3) ["house", "bearers", "thing"] (spP c 3 (f_is_row)) := by
  refine mk_P (k := 2) (n := 1) (m := m_is_row) T.d_is_row sc_is_row rfl (fun _ _ _ _ _ _ us hl => match us, hl with | [_, _, _], _ => rfl) (fun f cdv A outer s H hr => ?_)
  have hu := hr.units
  exact ss_one (ss_ret (s_and (s_isi rfl T.b_isinstance (so_sl (pv 2)) rfl T.b_list bt_list) (s_one (b_all rfl T.b_all (sa_cons (so_ex (s_lc (own := [("one", 3)]) rfl sc_is_row.nd (i_seq (so_sl (pv 2))) (blkOk_by (own := [("one", 3)]) (N := N_is_row) (sc := defScope s_is_row) (by decide +kernel)) (fun _ _ _ _ _ => g_nm (i := 3) sc_is_row.nd rfl (by first | exact Or.inl rfl | exact Or.inr rfl)) (fun _ _ _ _ _ => ts_nil) (fun _ _ _ _ _ => s_fn h_is_coming (hr.mono (by decide)) (sa_cons (so_sl (pv 0)) (sa_cons (so_sl (pv 1)) (sa_cons (so_sl (pv 3)) (sa_nil))))))) (sa_nil))))))

abbrev s_need_row : Stmt := topS 35
abbrev N_need_row : List Str := ["house", "bearers", "row"]
theorem sc_need_row : FnScope N_need_row ["house", "bearers", "row"] (defScope s_need_row) := ⟨rfl, rfl, rfl, by decide +kernel, rfl, by decide +kernel, by decide +kernel⟩
theorem d_need_row (T : Tops K mg) (h_is_row : Dfn P c.w K mg base "is_row" (3) ["house", "bearers", "thing"] (spP c 3 (f_is_row))) : Dfn P c.w K mg base "need_row" (4) ["house", "bearers", "row"] (spP c 3 (f_need_row)) := by
  refine mk_P (k := 3) (n := 0) (m := m_need_row) T.d_need_row sc_need_row rfl (fun _ _ _ _ _ _ us hl => match us, hl with | [_, _, _], _ => rfl) (fun f cdv A outer s H hr => ?_)
  have hu := hr.units
  exact ss_one (ss_if (PW.pt (w_or (t_not (t_val (s_fn h_is_row (hr.mono (by decide)) (sa_cons (so_sl (pv 0)) (sa_cons (so_sl (pv 1)) (sa_cons (so_sl (pv 2)) (sa_nil))))))) (w_or1 (t_cmp (z_gt hu) (so_ex (b_len T.b_len (sa_cons (so_sl (pv 2)) (sa_nil)))) (so_ex (g_int T.c_MOST_COMINGS)) (by rfl))))) (ss_one (ss_never)) (ss_nil))

abbrev s_walked : Stmt := topS 36
abbrev N_walked : List Str := ["house", "bearers", "stand", "row", "found", "bearer", "name", "there"]
theorem sc_walked : FnScope N_walked ["house", "bearers", "stand", "row"] (defScope s_walked) := ⟨rfl, rfl, rfl, by decide +kernel, rfl, by decide +kernel, by decide +kernel⟩
theorem d_walked (T : Tops K mg) (h_come : Dfn P c.w K mg base "come" (3) ["house", "bearers", "stand", "bearer", "name"] (spP c 5 (f_come))) : Dfn P c.w K mg base "walked" (4) ["house", "bearers", "stand", "row"] (spP c 4 (f_walked)) := by
  refine mk_P (k := 3) (n := 4) (m := m_walked) T.d_walked sc_walked rfl (fun _ _ _ _ _ _ us hl => match us, hl with | [_, _, _, _], _ => rfl) (fun f cdv A outer s H hr => ?_)
  have hu := hr.units
  exact ss_cons (ss_set (i := 4) sc_walked.nd rfl (by first | exact Or.inl rfl | exact Or.inr rfl) (s_lst (sa_cons (so_ex (s_var (pv 2))) (sa_nil))))
    (ss_cons (ss_for PassesOwn.never rfl (i_seq (so_ex (s_var (pv 3)))) (g_tp rfl (gs_cons (g_nm (i := 5) sc_walked.nd rfl (by first | exact Or.inl rfl | exact Or.inr rfl)) (gs_cons (g_nm (i := 6) sc_walked.nd rfl (by first | exact Or.inl rfl | exact Or.inr rfl)) (gs_nil))) rfl) (ss_cons (ss_set (i := 7) sc_walked.nd rfl (by first | exact Or.inl rfl | exact Or.inr rfl) (s_fn h_come (hr.mono (by decide)) (sa_cons (so_sl (pv 0)) (sa_cons (so_sl (pv 1)) (sa_cons (so_ex (s_ix (so_sl (pv 4)) (so_ex (s_un z_neg (so_ex (s_int)))) (fun _ _ => rfl))) (sa_cons (so_sl (pv 5)) (sa_cons (so_sl (pv 6)) (sa_nil))))))))
    (ss_cons (ss_if (t_cmp (z_is) (so_sl (pv 7)) (so_ex (s_none)) (by rfl)) (ss_one (ss_move (pv 4))) (ss_nil))
    (ss_one (ss_append (pv 4) (s_var (pv 7)))))) (noAt [_]))
    (ss_one (ss_move (pv 4))))

abbrev s_gone : Stmt := topS 37
abbrev N_gone : List Str := ["house", "bearers", "stand", "row", "found"]
theorem sc_gone : FnScope N_gone ["house", "bearers", "stand", "row"] (defScope s_gone) := ⟨rfl, rfl, rfl, by decide +kernel, rfl, by decide +kernel, by decide +kernel⟩
theorem d_gone (T : Tops K mg) (h_need_row : Dfn P c.w K mg base "need_row" (4) ["house", "bearers", "row"] (spP c 3 (f_need_row))) (h_need_stand : Dfn P c.w K mg base "need_stand" (6) ["house", "bearers", "stand"] (spP c 3 (f_need_stand))) (h_walked : Dfn P c.w K mg base "walked" (4) ["house", "bearers", "stand", "row"] (spP c 4 (f_walked))) : Dfn P c.w K mg base "gone" (7) ["house", "bearers", "stand", "row"] (spP c 4 (f_gone)) := by
  refine mk_P (k := 6) (n := 1) (m := m_gone) T.d_gone sc_gone rfl (fun _ _ _ _ _ _ us hl => match us, hl with | [_, _, _, _], _ => rfl) (fun f cdv A outer s H hr => ?_)
  have hu := hr.units
  exact ss_cons (ss_do (s_fn h_need_stand (hr.mono (by decide)) (sa_cons (so_sl (pv 0)) (sa_cons (so_sl (pv 1)) (sa_cons (so_sl (pv 2)) (sa_nil))))))
    (ss_cons (ss_do (s_fn h_need_row (hr.mono (by decide)) (sa_cons (so_sl (pv 0)) (sa_cons (so_sl (pv 1)) (sa_cons (so_sl (pv 3)) (sa_nil))))))
    (ss_cons (ss_set (i := 4) sc_gone.nd rfl (by first | exact Or.inl rfl | exact Or.inr rfl) (s_fn h_walked (hr.mono (by decide)) (sa_cons (so_sl (pv 0)) (sa_cons (so_sl (pv 1)) (sa_cons (so_sl (pv 2)) (sa_cons (so_sl (pv 3)) (sa_nil)))))))
    (ss_one (ss_ret (s_ifExp (t_cmp (z_eq hu) (so_ex (b_len T.b_len (sa_cons (so_sl (pv 4)) (sa_nil)))) (so_ex (s_op z_add (so_ex (b_len T.b_len (sa_cons (so_sl (pv 3)) (sa_nil)))) (so_ex (s_int)))) (by rfl)) (s_ix (so_sl (pv 4)) (so_ex (s_un z_neg (so_ex (s_int)))) (fun _ _ => rfl)) (s_none))))))

abbrev s_along : Stmt := topS 38
abbrev N_along : List Str := ["places", "row", "here", "found", "bearer", "name"]
theorem sc_along : FnScope N_along ["places", "row"] (defScope s_along) := ⟨rfl, rfl, rfl, by decide +kernel, rfl, by decide +kernel, by decide +kernel⟩
theorem d_along (T : Tops K mg) : Dfn P c.w K mg base "along" (1) ["places", "row"] (spP c 2 (f_along)) := by
  refine mk_P (k := 0) (n := 4) (m := m_along) T.d_along sc_along rfl (fun _ _ _ _ _ _ us hl => match us, hl with | [_, _], _ => rfl) (fun f cdv A outer s H hr => ?_)
  have hu := hr.units
  exact ss_cons (ss_set (i := 2) sc_along.nd rfl (by first | exact Or.inl rfl | exact Or.inr rfl) (b_list T.b_list (sa_cons (so_sl (pv 0)) (sa_nil))))
    (ss_cons (ss_set (i := 3) sc_along.nd rfl (by first | exact Or.inl rfl | exact Or.inr rfl) (s_lst (sa_nil)))
    (ss_cons (ss_for PassesOwn.never rfl (i_seq (so_ex (s_var (pv 1)))) (g_tp rfl (gs_cons (g_nm (i := 4) sc_along.nd rfl (by first | exact Or.inl rfl | exact Or.inr rfl)) (gs_cons (g_nm (i := 5) sc_along.nd rfl (by first | exact Or.inl rfl | exact Or.inr rfl)) (gs_nil))) rfl) (ss_cons (ss_append (pv 3) (s_tup (sa_cons (so_ex (s_ix (so_sl (pv 2)) (so_sl (pv 4)) (fun _ _ => rfl))) (sa_cons (so_ex (s_var (pv 5))) (sa_nil)))))
    (ss_one (ss_put (pv 2) (s_var (pv 4)) (s_var (pv 5))))) (noAt [_]))
    (ss_one (ss_move (pv 3)))))

abbrev s_needs : Stmt := topS 39
abbrev N_needs : List Str := ["house", "bearers", "places", "row", "moves", "least", "rooms", "name", "room", "left", "bearer", "same", "here", "other", "more"]
theorem sc_needs : FnScope N_needs ["house", "bearers", "places", "row"] (defScope s_needs) := ⟨rfl, rfl, rfl, by decide +kernel, rfl, by decide +kernel, by decide +kernel⟩
theorem d_needs (T : Tops K mg) (h_along : Dfn P c.w K mg base "along" (1) ["places", "row"] (spP c 2 (f_along))) (h_are_near : Dfn P c.w K mg base "are_near" (1) ["house", "one", "other"] (spP c 3 (f_are_near))) (h_names_of : Dfn P c.w K mg base "names_of" (1) ["house"] (spP c 1 (f_names_of))) (h_need_places : Dfn P c.w K mg base "need_places" (6) ["house", "bearers", "places"] (spP c 3 (f_need_places))) (h_need_row : Dfn P c.w K mg base "need_row" (4) ["house", "bearers", "row"] (spP c 3 (f_need_row))) : Dfn P c.w K mg base "needs" (7) ["house", "bearers", "places", "row"] (spP c 4 (f_needs)) := by
  refine mk_P (k := 6) (n := 11) (m := m_needs) T.d_needs sc_needs rfl (fun _ _ _ _ _ _ us hl => match us, hl with | [_, _, _, _], _ => rfl) (fun f cdv A outer s H hr => ?_)
  have hu := hr.units
  exact ss_cons (ss_do (s_fn h_need_places (hr.mono (by decide)) (sa_cons (so_sl (pv 0)) (sa_cons (so_sl (pv 1)) (sa_cons (so_sl (pv 2)) (sa_nil))))))
    (ss_cons (ss_do (s_fn h_need_row (hr.mono (by decide)) (sa_cons (so_sl (pv 0)) (sa_cons (so_sl (pv 1)) (sa_cons (so_sl (pv 3)) (sa_nil))))))
    (ss_cons (ss_set (i := 4) sc_needs.nd rfl (by first | exact Or.inl rfl | exact Or.inr rfl) (s_fn h_along (hr.mono (by decide)) (sa_cons (so_sl (pv 2)) (sa_cons (so_sl (pv 3)) (sa_nil)))))
    (ss_cons (ss_if (t_not (t_val (b_all rfl T.b_all (sa_cons (so_ex (s_lc (own := [("left", 9), ("name", 7)]) rfl sc_needs.nd (i_seq (so_sl (pv 4))) (blkOk_by (own := [("left", 9), ("name", 7)]) (N := N_needs) (sc := defScope s_needs) (by decide +kernel)) (fun _ _ _ _ _ => g_tp rfl (gs_cons (g_nm (i := 9) sc_needs.nd rfl (by first | exact Or.inl rfl | exact Or.inr rfl)) (gs_cons (g_nm (i := 7) sc_needs.nd rfl (by first | exact Or.inl rfl | exact Or.inr rfl)) (gs_nil))) rfl) (fun _ _ _ _ _ => ts_nil) (fun _ _ _ _ _ => s_fn h_are_near (hr.mono (by decide)) (sa_cons (so_sl (pv 0)) (sa_cons (so_sl (pv 9)) (sa_cons (so_sl (pv 7)) (sa_nil))))))) (sa_nil))))) (ss_one (ss_ret (s_none))) (ss_nil))
    (ss_cons (ss_set (i := 5) sc_needs.nd rfl (by first | exact Or.inl rfl | exact Or.inr rfl) (s_dc (own := [("name", 7)]) rfl sc_needs.nd (i_seq (so_ex (s_fn h_names_of (hr.mono (by decide)) (sa_cons (so_sl (pv 0)) (sa_nil))))) (blkOk_by (own := [("name", 7)]) (N := N_needs) (sc := defScope s_needs) (by decide +kernel)) (fun _ _ _ _ _ => g_nm (i := 7) sc_needs.nd rfl (by first | exact Or.inl rfl | exact Or.inr rfl)) (fun _ _ _ _ _ => ts_nil) (fun _ _ _ _ _ => s_var (pv 7)) (fun _ _ _ _ _ => s_int)))
    (ss_cons (ss_setDc (i := 6) (own := [("room", 8)]) rfl sc_needs.nd rfl rfl (sw_dict rfl rfl rfl (by decide +kernel)) (i_seq (so_ex (s_ix (so_sl (pv 0)) (so_ex (s_int)) (fun _ _ => rfl)))) (blkOk_by (own := [("room", 8)]) (N := N_needs) (sc := defScope s_needs) (by decide +kernel)) (fun _ _ _ _ _ => g_nm (i := 8) sc_needs.nd rfl (by first | exact Or.inl rfl | exact Or.inr rfl)) (fun _ _ _ _ _ => ts_nil) (fun _ _ _ _ _ => s_ix (so_sl (pv 8)) (so_ex (s_int)) (fun _ _ => rfl)) (fun _ _ _ _ _ => s_var (pv 8)))
    (ss_cons (ss_for PassesOwn.never rfl (i_seq (so_ex (s_rev (so_ex (s_listzip rfl rfl T.b_list rfl T.b_zip (sa_cons (so_sl (pv 4)) (sa_cons (so_sl (pv 3)) (sa_nil)))))))) (g_tp rfl (gs_cons (g_tp rfl (gs_cons (g_nm (i := 9) sc_needs.nd rfl (by first | exact Or.inl rfl | exact Or.inr rfl)) (gs_cons (g_nm (i := 7) sc_needs.nd rfl (by first | exact Or.inl rfl | exact Or.inr rfl)) (gs_nil))) rfl) (gs_cons (g_tp rfl (gs_cons (g_nm (i := 10) sc_needs.nd rfl (by first | exact Or.inl rfl | exact Or.inr rfl)) (gs_cons (g_nm (i := 11) sc_needs.nd rfl (by first | exact Or.inl rfl | exact Or.inr rfl)) (gs_nil))) rfl) (gs_nil))) rfl) (ss_cons (ss_if (t_cmp (z_gt hu) (so_ex (s_ixD hu (so_sl (pv 5)) (so_sl (pv 7)) (fun _ _ => rfl))) (so_ex (s_int)) (by rfl)) (ss_one (ss_augD hu (pv 5) (s_var (pv 7)) (s_ix (so_ex (s_ixD hu (so_sl (pv 6)) (so_sl (pv 7)) (fun _ _ => rfl))) (so_ex (s_int)) (fun _ _ => rfl)))) (ss_nil))
    (ss_cons (ss_for PassesOwn.never rfl (i_seq (so_ex (s_ix (so_sl (pv 0)) (so_ex (s_int)) (fun _ _ => rfl)))) (g_tp rfl (gs_cons (g_nm (i := 12) sc_needs.nd rfl (by first | exact Or.inl rfl | exact Or.inr rfl)) (gs_cons (g_nm (i := 13) sc_needs.nd rfl (by first | exact Or.inl rfl | exact Or.inr rfl)) (gs_cons (g_nm (i := 14) sc_needs.nd rfl (by first | exact Or.inl rfl | exact Or.inr rfl)) (gs_nil)))) rfl) (ss_one (ss_if (t_cmp (z_eq hu) (so_sl (pv 12)) (so_sl (pv 9)) (by rfl)) (ss_cons (ss_if (t_cmp (z_gt hu) (so_ex (s_ixD hu (so_sl (pv 5)) (so_sl (pv 13)) (fun _ _ => rfl))) (so_ex (s_ix (so_ex (s_ixD hu (so_sl (pv 6)) (so_sl (pv 13)) (fun _ _ => rfl))) (so_ex (s_int)) (fun _ _ => rfl))) (by rfl)) (ss_one (ss_ret (s_none))) (ss_nil))
    (ss_one (ss_putD hu (pv 5) (s_var (pv 13)) (b_max2 rfl T.b_max (sa_cons (so_ex (s_int)) (sa_cons (so_ex (s_op z_sub (so_ex (s_ixD hu (so_sl (pv 5)) (so_sl (pv 13)) (fun _ _ => rfl))) (so_sl (pv 14)))) (sa_nil))))))) (ss_nil))) (noAt [_]))
    (ss_cons (ss_putD hu (pv 5) (s_var (pv 7)) (b_max2 rfl T.b_max (sa_cons (so_ex (s_ixD hu (so_sl (pv 5)) (so_sl (pv 7)) (fun _ _ => rfl))) (sa_cons (so_ex (s_ix (so_sl (pv 1)) (so_sl (pv 10)) (fun _ _ => rfl))) (sa_nil)))))
    (ss_one (ss_if (t_cmp (z_gt hu) (so_ex (s_ixD hu (so_sl (pv 5)) (so_sl (pv 7)) (fun _ _ => rfl))) (so_ex (s_ix (so_ex (s_ixD hu (so_sl (pv 6)) (so_sl (pv 7)) (fun _ _ => rfl))) (so_ex (s_int)) (fun _ _ => rfl))) (by rfl)) (ss_one (ss_ret (s_none))) (ss_nil)))))) (noAt [_]))
    (ss_one (ss_ret (b_tuple T.b_tuple (sa_cons (so_ex (s_lc (own := [("name", 7)]) rfl sc_needs.nd (i_seq (so_ex (s_fn h_names_of (hr.mono (by decide)) (sa_cons (so_sl (pv 0)) (sa_nil))))) (blkOk_by (own := [("name", 7)]) (N := N_needs) (sc := defScope s_needs) (by decide +kernel)) (fun _ _ _ _ _ => g_nm (i := 7) sc_needs.nd rfl (by first | exact Or.inl rfl | exact Or.inr rfl)) (fun _ _ _ _ _ => ts_nil) (fun _ _ _ _ _ => s_ixD hu (so_sl (pv 5)) (so_sl (pv 7)) (fun _ _ => rfl)))) (sa_nil)))))))))))

abbrev s_law_deck : Stmt := topS 41
abbrev N_law_deck : List Str := ["cell", "turn"]
theorem sc_law_deck : FnScope N_law_deck ["cell", "turn"] (defScope s_law_deck) := ⟨rfl, rfl, rfl, by decide +kernel, rfl, by decide +kernel, by decide +kernel⟩
theorem d_law_deck (T : Tops K mg) : Dfn P c.w K mg base "_law_deck" (1) ["cell", "turn"] (spP c 2 (f_law_deck)) := by
  refine mk_P (k := 0) (n := 0) (m := m_law_deck) T.d_law_deck sc_law_deck rfl (fun _ _ _ _ _ _ us hl => match us, hl with | [_, _], _ => rfl) (fun f cdv A outer s H hr => ?_)
  have hu := hr.units
  exact ss_cons (ss_if (t_cmp (z_ge hu) (so_sl (pv 0)) (so_ex (s_op z_pow (so_ex (s_int)) (so_ex (s_int)))) (by rfl)) (ss_one (ss_ret (s_lst (sa_cons (so_ex (s_op z_sub (so_sl (pv 0)) (so_ex (s_op z_pow (so_ex (s_int)) (so_ex (s_int)))))) (sa_cons (so_ex (s_op z_mod (so_sl (pv 0)) (so_ex (s_int)))) (sa_cons (so_ex (s_var (pv 1))) (sa_nil))))))) (ss_nil))
    (ss_one (ss_ret (s_lst (sa_cons (so_ex (s_int)) (sa_cons (so_ex (s_op z_mod (so_sl (pv 0)) (so_ex (s_int)))) (sa_cons (so_ex (s_var (pv 1))) (sa_nil)))))))

abbrev s_law_pick : Stmt := topS 42
abbrev N_law_pick : List Str := ["deck", "size", "number", "found"]
theorem sc_law_pick : FnScope N_law_pick ["deck", "size"] (defScope s_law_pick) := ⟨rfl, rfl, rfl, by decide +kernel, rfl, by decide +kernel, by decide +kernel⟩
theorem d_law_pick (T : Tops K mg) : Dfn P c.w K mg base "_law_pick" (1) ["deck", "size"] (spD c 2 (f_law_pick)) := by
  refine mk_D (k := 0) (n := 2) (m := m_law_pick) T.d_law_pick sc_law_pick rfl (fun _ _ _ _ _ _ us hl => match us, hl with | [_, _], _ => rfl) (fun f cdv A outer s H hr => ?_)
  have hu := hr.units
  exact ss_cons (ss_if (t_cmp (z_gt hu) (so_ex (s_ix (so_sl (pv 0)) (so_ex (s_int)) (fun _ _ => rfl))) (so_ex (s_int)) (by rfl)) (ss_cons (ss_set (i := 3) sc_law_pick.nd rfl (by first | exact Or.inl rfl | exact Or.inr rfl) (s_op z_mod (so_ex (s_ix (so_sl (pv 0)) (so_ex (s_int)) (fun _ _ => rfl))) (so_sl (pv 1))))
    (ss_cons (ss_put (pv 0) (s_int) (s_op z_fdiv (so_ex (s_ix (so_sl (pv 0)) (so_ex (s_int)) (fun _ _ => rfl))) (so_sl (pv 1))))
    (ss_one (ss_move (pv 3))))) (ss_nil))
    (ss_cons (ss_put (pv 0) (s_int) (s_op z_add (so_ex (s_ix (so_sl (pv 0)) (so_ex (s_int)) (fun _ _ => rfl))) (so_ex (s_int))))
    (ss_cons (ss_set (i := 2) sc_law_pick.nd rfl (by first | exact Or.inl rfl | exact Or.inr rfl) (s_op z_mod (so_ex (s_op z_pow (so_ex (s_op z_add (so_ex (s_ix (so_sl (pv 0)) (so_ex (s_int)) (fun _ _ => rfl))) (so_ex (s_op z_mul (so_ex (s_int)) (so_ex (s_ix (so_sl (pv 0)) (so_ex (s_int)) (fun _ _ => rfl))))))) (so_ex (s_int)))) (so_ex (s_int))))
    (ss_cons (ss_set (i := 3) sc_law_pick.nd rfl (by first | exact Or.inl rfl | exact Or.inr rfl) (s_op z_fdiv (so_ex (s_op z_mod (so_ex (s_op z_pow (so_ex (s_op z_add (so_sl (pv 2)) (so_ex (s_op z_mul (so_ex (s_int)) (so_ex (s_ix (so_sl (pv 0)) (so_ex (s_int)) (fun _ _ => rfl))))))) (so_ex (s_int)))) (so_ex (s_int)))) (so_ex (s_int))))
    (ss_one (ss_ret (s_op z_mod (so_sl (pv 3)) (so_sl (pv 1))))))))

abbrev s_law_one : Stmt := topS 43
abbrev N_law_one : List Str := ["deck", "some"]
theorem sc_law_one : FnScope N_law_one ["deck", "some"] (defScope s_law_one) := ⟨rfl, rfl, rfl, by decide +kernel, rfl, by decide +kernel, by decide +kernel⟩
theorem d_law_one (T : Tops K mg) (h_law_pick : Dfn P c.w K mg base "_law_pick" (1) ["deck", "size"] (spD c 2 (f_law_pick))) : Dfn P c.w K mg base "_law_one" (2) ["deck", "some"] (spD c 2 (f_law_one)) := by
  refine mk_D (k := 1) (n := 0) (m := m_law_one) T.d_law_one sc_law_one rfl (fun _ _ _ _ _ _ us hl => match us, hl with | [_, _], _ => rfl) (fun f cdv A outer s H hr => ?_)
  have hu := hr.units
  exact ss_one (ss_ret (s_ix (so_sl (pv 1)) (so_ex (s_fnD h_law_pick (hr.mono (by decide)) (pv 0) (sa_cons (so_ex (b_len T.b_len (sa_cons (so_sl (pv 1)) (sa_nil)))) (sa_nil)))) (fun _ _ => rfl)))

abbrev s_law_house : Stmt := topS 44
abbrev N_law_house : List Str := ["deck", "most", "cap_most", "rooms", "name", "turn", "names", "doors", "gains", "k", "one", "row", "room", "other"]
theorem sc_law_house : FnScope N_law_house ["deck", "most", "cap_most"] (defScope s_law_house) := ⟨rfl, rfl, rfl, by decide +kernel, rfl, by decide +kernel, by decide +kernel⟩
theorem d_law_house (T : Tops K mg) (h_law_one : Dfn P c.w K mg base "_law_one" (2) ["deck", "some"] (spD c 2 (f_law_one))) (h_law_pick : Dfn P c.w K mg base "_law_pick" (1) ["deck", "size"] (spD c 2 (f_law_pick))) : Dfn P c.w K mg base "_law_house" (3) ["deck", "most", "cap_most"] (spD c 3 (f_law_house)) := by
  refine mk_D (k := 2) (n := 11) (m := m_law_house) T.d_law_house sc_law_house rfl (fun _ _ _ _ _ _ us hl => match us, hl with | [_, _, _], _ => rfl) (fun f cdv A outer s H hr => ?_)
  have hu := hr.units
  exact ss_cons (ss_set (i := 3) sc_law_house.nd rfl (by first | exact Or.inl rfl | exact Or.inr rfl) (s_lst (sa_nil)))
    (ss_cons (ss_for PassesOwn.never rfl (i_seq (so_ex (s_slHi (so_ex (s_lst (sa_cons (so_ex (s_str)) (sa_cons (so_ex (s_str)) (sa_cons (so_ex (s_str)) (sa_cons (so_ex (s_str)) (sa_cons (so_ex (s_str)) (sa_nil)))))))) (so_ex (s_op z_add (so_ex (s_int)) (so_ex (s_fnD h_law_pick (hr.mono (by decide)) (pv 0) (sa_cons (so_ex (s_op z_sub (so_sl (pv 1)) (so_ex (s_int)))) (sa_nil))))))))) (g_nm (i := 4) sc_law_house.nd rfl (by first | exact Or.inl rfl | exact Or.inr rfl)) (ss_one (ss_append (pv 3) (s_tup (sa_cons (so_ex (s_var (pv 4))) (sa_cons (so_ex (s_fnD h_law_pick (hr.mono (by decide)) (pv 0) (sa_cons (so_ex (s_op z_add (so_sl (pv 2)) (so_ex (s_int)))) (sa_nil)))) (sa_cons (so_ex (s_fnD h_law_one (hr.mono (by decide)) (pv 0) (sa_cons (so_ex (s_lst (sa_cons (so_ex (s_int)) (sa_cons (so_ex (s_int)) (sa_cons (so_ex (s_int)) (sa_cons (so_ex (s_int)) (sa_cons (so_ex (s_fnD h_law_pick (hr.mono (by decide)) (pv 0) (sa_cons (so_ex (s_int)) (sa_nil)))) (sa_nil)))))))) (sa_nil)))) (sa_nil))))))) (noAt [_]))
    (ss_cons (ss_par rfl sc_law_house.nd (is := [6, 7, 8]) (Nms.cons rfl rfl (Nms.cons rfl rfl (Nms.cons rfl rfl (Nms.nil)))) (sh_cons (s_lc (own := [("room", 12)]) rfl sc_law_house.nd (i_seq (so_sl (pv 3))) (blkOk_by (own := [("room", 12)]) (N := N_law_house) (sc := defScope s_law_house) (by decide +kernel)) (fun _ _ _ _ _ => g_nm (i := 12) sc_law_house.nd rfl (by first | exact Or.inl rfl | exact Or.inr rfl)) (fun _ _ _ _ _ => ts_nil) (fun _ _ _ _ _ => s_ix (so_sl (pv 12)) (so_ex (s_int)) (fun _ _ => rfl))) (sh_cons (s_lst (sa_nil)) (sh_cons (s_lst (sa_nil)) (sh_nil)))) (by decide) (by rfl))
    (ss_cons (ss_for PassesOwn.never rfl (i_enum rfl T.b_enumerate (sa_cons (so_ex (s_var (pv 6))) (sa_nil))) (g_tp rfl (gs_cons (g_nm (i := 9) sc_law_house.nd rfl (by first | exact Or.inl rfl | exact Or.inr rfl)) (gs_cons (g_nm (i := 10) sc_law_house.nd rfl (by first | exact Or.inl rfl | exact Or.inr rfl)) (gs_nil))) rfl) (ss_one (ss_set (i := 7) sc_law_house.nd rfl (by first | exact Or.inl rfl | exact Or.inr rfl) (s_op z_add (so_sl (pv 7)) (so_ex (s_lc (own := [("other", 13)]) rfl sc_law_house.nd (i_seq (so_ex (s_slLo (so_sl (pv 6)) (so_ex (s_op z_add (so_sl (pv 9)) (so_ex (s_int))))))) (blkOk_by (own := [("other", 13)]) (N := N_law_house) (sc := defScope s_law_house) (by decide +kernel)) (fun _ _ _ _ _ => g_nm (i := 13) sc_law_house.nd rfl (by first | exact Or.inl rfl | exact Or.inr rfl)) (fun _ _ _ _ _ => ts_one (t_cmp (z_gt hu) (so_ex (s_fnD h_law_pick (hr.mono (by decide)) (pv 0) (sa_cons (so_ex (s_int)) (sa_nil)))) (so_ex (s_int)) (by rfl))) (fun _ _ _ _ _ => s_tup (sa_cons (so_ex (s_var (pv 10))) (sa_cons (so_ex (s_var (pv 13))) (sa_nil))))))))) (noAt [_]))
    (ss_cons (ss_for PassesOwn.never rfl (i_rng rfl T.b_range (sa_cons (so_ex (s_fnD h_law_pick (hr.mono (by decide)) (pv 0) (sa_cons (so_ex (s_int)) (sa_nil)))) (sa_nil))) (g_nm (i := 5) sc_law_house.nd rfl (by first | exact Or.inl rfl | exact Or.inr rfl)) (ss_cons (ss_set (i := 11) sc_law_house.nd rfl (by first | exact Or.inl rfl | exact Or.inr rfl) (s_tup (sa_cons (so_ex (s_fnD h_law_one (hr.mono (by decide)) (pv 0) (sa_cons (so_sl (pv 6)) (sa_nil)))) (sa_cons (so_ex (s_fnD h_law_one (hr.mono (by decide)) (pv 0) (sa_cons (so_sl (pv 6)) (sa_nil)))) (sa_nil)))))
    (ss_one (ss_if (t_cmp (z_notIn hu) (so_sl (pv 11)) (so_ex (s_lc (own := [("one", 10)]) rfl sc_law_house.nd (i_seq (so_sl (pv 8))) (blkOk_by (own := [("one", 10)]) (N := N_law_house) (sc := defScope s_law_house) (by decide +kernel)) (fun _ _ _ _ _ => g_nm (i := 10) sc_law_house.nd rfl (by first | exact Or.inl rfl | exact Or.inr rfl)) (fun _ _ _ _ _ => ts_nil) (fun _ _ _ _ _ => s_slHi (so_sl (pv 10)) (so_ex (s_int))))) (by rfl)) (ss_one (ss_append (pv 8) (s_op z_add (so_sl (pv 11)) (so_ex (s_tup (sa_cons (so_ex (s_fnD h_law_one (hr.mono (by decide)) (pv 0) (sa_cons (so_ex (s_lst (sa_cons (so_ex (s_int)) (sa_cons (so_ex (s_int)) (sa_cons (so_ex (s_int)) (sa_cons (so_ex (s_op z_add (so_ex (s_int)) (so_ex (s_fnD h_law_pick (hr.mono (by decide)) (pv 0) (sa_cons (so_ex (s_int)) (sa_nil)))))) (sa_nil))))))) (sa_nil)))) (sa_nil))))))) (ss_nil)))) (noAt [_]))
    (ss_one (ss_ret (s_tup (sa_cons (so_ex (b_tuple T.b_tuple (sa_cons (so_sl (pv 3)) (sa_nil)))) (sa_cons (so_ex (b_tuple T.b_tuple (sa_cons (so_sl (pv 7)) (sa_nil)))) (sa_cons (so_ex (b_tuple T.b_tuple (sa_cons (so_ex (b_sorted hu T.b_sorted (sa_cons (so_sl (pv 8)) (sa_nil)))) (sa_nil)))) (sa_nil)))))))))))

abbrev s_law_bearers : Stmt := topS 45
abbrev N_law_bearers : List Str := ["deck", "most", "k"]
theorem sc_law_bearers : FnScope N_law_bearers ["deck", "most"] (defScope s_law_bearers) := ⟨rfl, rfl, rfl, by decide +kernel, rfl, by decide +kernel, by decide +kernel⟩
theorem d_law_bearers (T : Tops K mg) (h_law_one : Dfn P c.w K mg base "_law_one" (2) ["deck", "some"] (spD c 2 (f_law_one))) (h_law_pick : Dfn P c.w K mg base "_law_pick" (1) ["deck", "size"] (spD c 2 (f_law_pick))) : Dfn P c.w K mg base "_law_bearers" (3) ["deck", "most"] (spD c 2 (f_law_bearers)) := by
  refine mk_D (k := 2) (n := 1) (m := m_law_bearers) T.d_law_bearers sc_law_bearers rfl (fun _ _ _ _ _ _ us hl => match us, hl with | [_, _], _ => rfl) (fun f cdv A outer s H hr => ?_)
  have hu := hr.units
  exact ss_one (ss_ret (b_tuple T.b_tuple (sa_cons (so_ex (s_lc (own := [("k", 2)]) rfl sc_law_bearers.nd (i_rng rfl T.b_range (sa_cons (so_ex (s_op z_add (so_ex (s_int)) (so_ex (s_fnD h_law_pick (hr.mono (by decide)) (pv 0) (sa_cons (so_sl (pv 1)) (sa_nil)))))) (sa_nil))) (blkOk_by (own := [("k", 2)]) (N := N_law_bearers) (sc := defScope s_law_bearers) (by decide +kernel)) (fun _ _ _ _ _ => g_nm (i := 2) sc_law_bearers.nd rfl (by first | exact Or.inl rfl | exact Or.inr rfl)) (fun _ _ _ _ _ => ts_nil) (fun _ _ _ _ _ => s_fnD h_law_one (hr.mono (by decide)) (pv 0) (sa_cons (so_ex (s_lst (sa_cons (so_ex (s_int)) (sa_cons (so_ex (s_int)) (sa_cons (so_ex (s_int)) (sa_cons (so_ex (s_int)) (sa_cons (so_ex (s_int)) (sa_nil)))))))) (sa_nil))))) (sa_nil))))

abbrev s_law_places : Stmt := topS 46
abbrev N_law_places : List Str := ["deck", "house", "bearers", "one"]
theorem sc_law_places : FnScope N_law_places ["deck", "house", "bearers"] (defScope s_law_places) := ⟨rfl, rfl, rfl, by decide +kernel, rfl, by decide +kernel, by decide +kernel⟩
theorem d_law_places (T : Tops K mg) (h_law_one : Dfn P c.w K mg base "_law_one" (2) ["deck", "some"] (spD c 2 (f_law_one))) : Dfn P c.w K mg base "_law_places" (3) ["deck", "house", "bearers"] (spD c 3 (f_law_places)) := by
  refine mk_D (k := 2) (n := 1) (m := m_law_places) T.d_law_places sc_law_places rfl (fun _ _ _ _ _ _ us hl => match us, hl with | [_, _, _], _ => rfl) (fun f cdv A outer s H hr => ?_)
  have hu := hr.units
  exact ss_one (ss_ret (b_tuple T.b_tuple (sa_cons (so_ex (s_lc (own := [("one", 3)]) rfl sc_law_places.nd (i_seq (so_sl (pv 2))) (blkOk_by (own := [("one", 3)]) (N := N_law_places) (sc := defScope s_law_places) (by decide +kernel)) (fun _ _ _ _ _ => g_nm (i := 3) sc_law_places.nd rfl (by first | exact Or.inl rfl | exact Or.inr rfl)) (fun _ _ _ _ _ => ts_nil) (fun _ _ _ _ _ => s_ix (so_ex (s_fnD h_law_one (hr.mono (by decide)) (pv 0) (sa_cons (so_ex (s_ix (so_sl (pv 1)) (so_ex (s_int)) (fun _ _ => rfl))) (sa_nil)))) (so_ex (s_int)) (fun _ _ => rfl)))) (sa_nil))))

abbrev s_law_stand : Stmt := topS 47
abbrev N_law_stand : List Str := ["deck", "house", "bearers", "sizes", "room"]
theorem sc_law_stand : FnScope N_law_stand ["deck", "house", "bearers"] (defScope s_law_stand) := ⟨rfl, rfl, rfl, by decide +kernel, rfl, by decide +kernel, by decide +kernel⟩
theorem d_law_stand (T : Tops K mg) (h_law_one : Dfn P c.w K mg base "_law_one" (2) ["deck", "some"] (spD c 2 (f_law_one))) (h_law_pick : Dfn P c.w K mg base "_law_pick" (1) ["deck", "size"] (spD c 2 (f_law_pick))) (h_law_places : Dfn P c.w K mg base "_law_places" (3) ["deck", "house", "bearers"] (spD c 3 (f_law_places))) : Dfn P c.w K mg base "_law_stand" (4) ["deck", "house", "bearers"] (spD c 3 (f_law_stand)) := by
  refine mk_D (k := 3) (n := 2) (m := m_law_stand) T.d_law_stand sc_law_stand rfl (fun _ _ _ _ _ _ us hl => match us, hl with | [_, _, _], _ => rfl) (fun f cdv A outer s H hr => ?_)
  have hu := hr.units
  exact ss_cons (ss_setLc (i := 3) (own := [("room", 4)]) rfl sc_law_stand.nd rfl rfl (sw_true rfl rfl rfl (by decide +kernel)) (i_seq (so_ex (s_ix (so_sl (pv 1)) (so_ex (s_int)) (fun _ _ => rfl)))) (blkOk_by (own := [("room", 4)]) (N := N_law_stand) (sc := defScope s_law_stand) (by decide +kernel)) (fun _ _ _ _ _ => g_nm (i := 4) sc_law_stand.nd rfl (by first | exact Or.inl rfl | exact Or.inr rfl)) (fun _ _ _ _ _ => ts_nil) (fun _ _ _ _ _ => s_fnD h_law_one (hr.mono (by decide)) (pv 0) (sa_cons (so_ex (s_lst (sa_cons (so_ex (s_ix (so_sl (pv 4)) (so_ex (s_int)) (fun _ _ => rfl))) (sa_cons (so_ex (s_ix (so_sl (pv 4)) (so_ex (s_int)) (fun _ _ => rfl))) (sa_cons (so_ex (s_fnD h_law_pick (hr.mono (by decide)) (pv 0) (sa_cons (so_ex (s_op z_add (so_ex (s_ix (so_sl (pv 4)) (so_ex (s_int)) (fun _ _ => rfl))) (so_ex (s_int)))) (sa_nil)))) (sa_nil)))))) (sa_nil))))
    (ss_one (ss_ret (s_tup (sa_cons (so_ex (s_fnD h_law_places (hr.mono (by decide)) (pv 0) (sa_cons (so_sl (pv 1)) (sa_cons (so_sl (pv 2)) (sa_nil))))) (sa_cons (so_ex (b_tuple T.b_tuple (sa_cons (so_sl (pv 3)) (sa_nil)))) (sa_nil))))))

abbrev s_law_hall : Stmt := topS 48
abbrev N_law_hall : List Str := ["deck", "most", "cap_most", "bearers_most", "house", "bearers"]
theorem sc_law_hall : FnScope N_law_hall ["deck", "most", "cap_most", "bearers_most"] (defScope s_law_hall) := ⟨rfl, rfl, rfl, by decide +kernel, rfl, by decide +kernel, by decide +kernel⟩
theorem d_law_hall (T : Tops K mg) (h_law_bearers : Dfn P c.w K mg base "_law_bearers" (3) ["deck", "most"] (spD c 2 (f_law_bearers))) (h_law_house : Dfn P c.w K mg base "_law_house" (3) ["deck", "most", "cap_most"] (spD c 3 (f_law_house))) (h_law_stand : Dfn P c.w K mg base "_law_stand" (4) ["deck", "house", "bearers"] (spD c 3 (f_law_stand))) : Dfn P c.w K mg base "_law_hall" (5) ["deck", "most", "cap_most", "bearers_most"] (spD c 4 (f_law_hall)) := by
  refine mk_D (k := 4) (n := 2) (m := m_law_hall) T.d_law_hall sc_law_hall rfl (fun _ _ _ _ _ _ us hl => match us, hl with | [_, _, _, _], _ => rfl) (fun f cdv A outer s H hr => ?_)
  have hu := hr.units
  exact ss_cons (ss_par rfl sc_law_hall.nd (is := [4, 5]) (Nms.cons rfl rfl (Nms.cons rfl rfl (Nms.nil))) (sh_cons (s_fnD h_law_house (hr.mono (by decide)) (pv 0) (sa_cons (so_sl (pv 1)) (sa_cons (so_sl (pv 2)) (sa_nil)))) (sh_cons (s_fnD h_law_bearers (hr.mono (by decide)) (pv 0) (sa_cons (so_sl (pv 3)) (sa_nil))) (sh_nil))) (by decide) (by rfl))
    (ss_one (ss_ret (s_tup (sa_cons (so_ex (s_var (pv 4))) (sa_cons (so_ex (s_var (pv 5))) (sa_cons (so_ex (s_fnD h_law_stand (hr.mono (by decide)) (pv 0) (sa_cons (so_sl (pv 4)) (sa_cons (so_sl (pv 5)) (sa_nil))))) (sa_nil)))))))

abbrev s_law_come : Stmt := topS 49
abbrev N_law_come : List Str := ["house", "bearers", "stand", "bearer", "name", "at", "sizes", "places", "rooms", "left", "k", "room", "more", "size", "row", "place"]
theorem sc_law_come : FnScope N_law_come ["house", "bearers", "stand", "bearer", "name"] (defScope s_law_come) := ⟨rfl, rfl, rfl, by decide +kernel, rfl, by decide +kernel, by decide +kernel⟩
theorem d_law_come (T : Tops K mg) : Dfn P c.w K mg base "_law_come" (1) ["house", "bearers", "stand", "bearer", "name"] (spP c 5 (f_law_come)) := by
  refine mk_P (k := 0) (n := 11) (m := m_law_come) T.d_law_come sc_law_come rfl (fun _ _ _ _ _ _ us hl => match us, hl with | [_, _, _, _, _], _ => rfl) (fun f cdv A outer s H hr => ?_)
  have hu := hr.units
  exact ss_cons (ss_asg (s_tup (sa_cons (so_ex (s_ix (so_sl (pv 0)) (so_ex (s_int)) (fun _ _ => rfl))) (sa_cons (so_ex (s_ix (so_ex (s_ix (so_sl (pv 2)) (so_ex (s_int)) (fun _ _ => rfl))) (so_sl (pv 3)) (fun _ _ => rfl))) (sa_nil)))) (g_tp rfl (gs_cons (g_nm (i := 8) sc_law_come.nd rfl (by first | exact Or.inl rfl | exact Or.inr rfl)) (gs_cons (g_nm (i := 9) sc_law_come.nd rfl (by first | exact Or.inl rfl | exact Or.inr rfl)) (gs_nil))) rfl))
    (ss_cons (ss_if (PW.pt (w_and (t_cmp (z_notIn hu) (so_ex (s_tup (sa_cons (so_ex (s_var (pv 9))) (sa_cons (so_ex (s_var (pv 4))) (sa_nil))))) (so_ex (s_ix (so_sl (pv 0)) (so_ex (s_int)) (fun _ _ => rfl))) (by rfl)) (w_and1 (t_cmp (z_notIn hu) (so_ex (s_tup (sa_cons (so_ex (s_var (pv 4))) (sa_cons (so_ex (s_var (pv 9))) (sa_nil))))) (so_ex (s_ix (so_sl (pv 0)) (so_ex (s_int)) (fun _ _ => rfl))) (by rfl))))) (ss_one (ss_ret (s_none))) (ss_nil))
    (ss_cons (ss_set (i := 5) sc_law_come.nd rfl (by first | exact Or.inl rfl | exact Or.inr rfl) (s_index (s_lc (own := [("room", 11)]) rfl sc_law_come.nd (i_seq (so_sl (pv 8))) (blkOk_by (own := [("room", 11)]) (N := N_law_come) (sc := defScope s_law_come) (by decide +kernel)) (fun _ _ _ _ _ => g_nm (i := 11) sc_law_come.nd rfl (by first | exact Or.inl rfl | exact Or.inr rfl)) (fun _ _ _ _ _ => ts_nil) (fun _ _ _ _ _ => s_ix (so_sl (pv 11)) (so_ex (s_int)) (fun _ _ => rfl))) (s_var (pv 4))))
    (ss_cons (ss_if (t_cmp (z_lt hu) (so_ex (s_ix (so_ex (s_ix (so_sl (pv 2)) (so_ex (s_int)) (fun _ _ => rfl))) (so_sl (pv 5)) (fun _ _ => rfl))) (so_ex (s_ix (so_sl (pv 1)) (so_sl (pv 3)) (fun _ _ => rfl))) (by rfl)) (ss_one (ss_ret (s_none))) (ss_nil))
    (ss_cons (ss_set (i := 6) sc_law_come.nd rfl (by first | exact Or.inl rfl | exact Or.inr rfl) (s_lst (sa_nil)))
    (ss_cons (ss_for PassesOwn.never rfl (i_enum rfl T.b_enumerate (sa_cons (so_ex (s_var (pv 8))) (sa_nil))) (g_tp rfl (gs_cons (g_nm (i := 10) sc_law_come.nd rfl (by first | exact Or.inl rfl | exact Or.inr rfl)) (gs_cons (g_nm (i := 11) sc_law_come.nd rfl (by first | exact Or.inl rfl | exact Or.inr rfl)) (gs_nil))) rfl) (ss_cons (ss_set (i := 12) sc_law_come.nd rfl (by first | exact Or.inl rfl | exact Or.inr rfl) (b_sum rfl T.b_sum (sa_cons (so_ex (s_lc (own := [("row", 14)]) rfl sc_law_come.nd (i_seq (so_ex (s_ix (so_sl (pv 0)) (so_ex (s_int)) (fun _ _ => rfl)))) (blkOk_by (own := [("row", 14)]) (N := N_law_come) (sc := defScope s_law_come) (by decide +kernel)) (fun _ _ _ _ _ => g_nm (i := 14) sc_law_come.nd rfl (by first | exact Or.inl rfl | exact Or.inr rfl)) (fun _ _ _ _ _ => ts_one (t_cmp (z_eq hu) (so_ex (s_slHi (so_sl (pv 14)) (so_ex (s_int)))) (so_ex (s_tup (sa_cons (so_ex (s_var (pv 9))) (sa_cons (so_ex (s_ix (so_sl (pv 11)) (so_ex (s_int)) (fun _ _ => rfl))) (sa_nil))))) (by rfl))) (fun _ _ _ _ _ => s_ix (so_sl (pv 14)) (so_ex (s_int)) (fun _ _ => rfl)))) (sa_nil))))
    (ss_cons (ss_set (i := 13) sc_law_come.nd rfl (by first | exact Or.inl rfl | exact Or.inr rfl) (b_min2 rfl T.b_min (sa_cons (so_ex (s_ix (so_sl (pv 11)) (so_ex (s_int)) (fun _ _ => rfl))) (sa_cons (so_ex (s_op z_add (so_ex (s_ix (so_ex (s_ix (so_sl (pv 2)) (so_ex (s_int)) (fun _ _ => rfl))) (so_sl (pv 10)) (fun _ _ => rfl))) (so_sl (pv 12)))) (sa_nil)))))
    (ss_one (ss_append (pv 6) (s_ifExp (t_cmp (z_eq hu) (so_sl (pv 10)) (so_sl (pv 5)) (by rfl)) (b_max2 rfl T.b_max (sa_cons (so_ex (s_int)) (sa_cons (so_ex (s_op z_sub (so_sl (pv 13)) (so_ex (s_ix (so_sl (pv 11)) (so_ex (s_int)) (fun _ _ => rfl))))) (sa_nil)))) (s_var (pv 13))))))) (noAt [_]))
    (ss_cons (ss_set (i := 7) sc_law_come.nd rfl (by first | exact Or.inl rfl | exact Or.inr rfl) (b_tuple T.b_tuple (sa_cons (so_ex (s_lc (own := [("k", 10), ("place", 15)]) rfl sc_law_come.nd (i_enum rfl T.b_enumerate (sa_cons (so_ex (s_ix (so_sl (pv 2)) (so_ex (s_int)) (fun _ _ => rfl))) (sa_nil))) (blkOk_by (own := [("k", 10), ("place", 15)]) (N := N_law_come) (sc := defScope s_law_come) (by decide +kernel)) (fun _ _ _ _ _ => g_tp rfl (gs_cons (g_nm (i := 10) sc_law_come.nd rfl (by first | exact Or.inl rfl | exact Or.inr rfl)) (gs_cons (g_nm (i := 15) sc_law_come.nd rfl (by first | exact Or.inl rfl | exact Or.inr rfl)) (gs_nil))) rfl) (fun _ _ _ _ _ => ts_nil) (fun _ _ _ _ _ => s_ifExp (t_cmp (z_eq hu) (so_sl (pv 10)) (so_sl (pv 3)) (by rfl)) (s_var (pv 4)) (s_var (pv 15))))) (sa_nil))))
    (ss_one (ss_ret (s_tup (sa_cons (so_ex (s_var (pv 7))) (sa_cons (so_ex (b_tuple T.b_tuple (sa_cons (so_sl (pv 6)) (sa_nil)))) (sa_nil))))))))))))

abbrev s_law_nexts : Stmt := topS 50
abbrev N_law_nexts : List Str := ["house", "bearers", "stand", "found", "bearer", "room", "there"]
theorem sc_law_nexts : FnScope N_law_nexts ["house", "bearers", "stand"] (defScope s_law_nexts) := ⟨rfl, rfl, rfl, by decide +kernel, rfl, by decide +kernel, by decide +kernel⟩
theorem d_law_nexts (T : Tops K mg) (h_law_come : Dfn P c.w K mg base "_law_come" (1) ["house", "bearers", "stand", "bearer", "name"] (spP c 5 (f_law_come))) : Dfn P c.w K mg base "_law_nexts" (2) ["house", "bearers", "stand"] (spP c 3 (f_law_nexts)) := by
  refine mk_P (k := 1) (n := 4) (m := m_law_nexts) T.d_law_nexts sc_law_nexts rfl (fun _ _ _ _ _ _ us hl => match us, hl with | [_, _, _], _ => rfl) (fun f cdv A outer s H hr => ?_)
  have hu := hr.units
  exact ss_cons (ss_set (i := 3) sc_law_nexts.nd rfl (by first | exact Or.inl rfl | exact Or.inr rfl) (s_lst (sa_nil)))
    (ss_cons (ss_for PassesOwn.never rfl (i_rng rfl T.b_range (sa_cons (so_ex (b_len T.b_len (sa_cons (so_sl (pv 1)) (sa_nil)))) (sa_nil))) (g_nm (i := 4) sc_law_nexts.nd rfl (by first | exact Or.inl rfl | exact Or.inr rfl)) (ss_one (ss_for PassesOwn.never rfl (i_seq (so_ex (s_ix (so_sl (pv 0)) (so_ex (s_int)) (fun _ _ => rfl)))) (g_nm (i := 5) sc_law_nexts.nd rfl (by first | exact Or.inl rfl | exact Or.inr rfl)) (ss_cons (ss_set (i := 6) sc_law_nexts.nd rfl (by first | exact Or.inl rfl | exact Or.inr rfl) (s_fn h_law_come (hr.mono (by decide)) (sa_cons (so_sl (pv 0)) (sa_cons (so_sl (pv 1)) (sa_cons (so_sl (pv 2)) (sa_cons (so_sl (pv 4)) (sa_cons (so_ex (s_ix (so_sl (pv 5)) (so_ex (s_int)) (fun _ _ => rfl))) (sa_nil))))))))
    (ss_one (ss_if (t_cmp (z_isNot) (so_sl (pv 6)) (so_ex (s_none)) (by rfl)) (ss_one (ss_append (pv 3) (s_tup (sa_cons (so_ex (s_var (pv 4))) (sa_cons (so_ex (s_ix (so_sl (pv 5)) (so_ex (s_int)) (fun _ _ => rfl))) (sa_cons (so_ex (s_var (pv 6))) (sa_nil))))))) (ss_nil)))) (noAt [_]))) (noAt [_]))
    (ss_one (ss_move (pv 3))))

abbrev s_law_gone : Stmt := topS 51
abbrev N_law_gone : List Str := ["house", "bearers", "stand", "row", "k", "bearer", "name"]
theorem sc_law_gone : FnScope N_law_gone ["house", "bearers", "stand", "row"] (defScope s_law_gone) := ⟨rfl, rfl, rfl, by decide +kernel, rfl, by decide +kernel, by decide +kernel⟩
theorem d_law_gone (T : Tops K mg) (h_law_come : Dfn P c.w K mg base "_law_come" (1) ["house", "bearers", "stand", "bearer", "name"] (spP c 5 (f_law_come))) : Dfn P c.w K mg base "_law_gone" (2) ["house", "bearers", "stand", "row"] (spP c 4 (f_law_gone)) := by
  refine mk_P (k := 1) (n := 3) (m := m_law_gone) T.d_law_gone sc_law_gone rfl (fun _ _ _ _ _ _ us hl => match us, hl with | [_, _, _, _], _ => rfl) (fun f cdv A outer s H hr => ?_)
  have hu := hr.units
  exact ss_cons (ss_for PassesOwn.never rfl (i_enum rfl T.b_enumerate (sa_cons (so_ex (s_var (pv 3))) (sa_nil))) (g_tp rfl (gs_cons (g_nm (i := 4) sc_law_gone.nd rfl (by first | exact Or.inl rfl | exact Or.inr rfl)) (gs_cons (g_tp rfl (gs_cons (g_nm (i := 5) sc_law_gone.nd rfl (by first | exact Or.inl rfl | exact Or.inr rfl)) (gs_cons (g_nm (i := 6) sc_law_gone.nd rfl (by first | exact Or.inl rfl | exact Or.inr rfl)) (gs_nil))) rfl) (gs_nil))) rfl) (ss_cons (ss_set (i := 2) sc_law_gone.nd rfl (by first | exact Or.inl rfl | exact Or.inr rfl) (s_fn h_law_come (hr.mono (by decide)) (sa_cons (so_sl (pv 0)) (sa_cons (so_sl (pv 1)) (sa_cons (so_sl (pv 2)) (sa_cons (so_sl (pv 5)) (sa_cons (so_sl (pv 6)) (sa_nil))))))))
    (ss_one (ss_if (t_cmp (z_is) (so_sl (pv 2)) (so_ex (s_none)) (by rfl)) (ss_one (ss_move (pv 4))) (ss_nil)))) (noAt [_]))
    (ss_one (ss_move (pv 2)))

abbrev s_law_row : Stmt := topS 52
abbrev N_law_row : List Str := ["deck", "house", "bearers", "stand", "most", "found", "turn", "some", "one", "there", "row"]
theorem sc_law_row : FnScope N_law_row ["deck", "house", "bearers", "stand", "most"] (defScope s_law_row) := ⟨rfl, rfl, rfl, by decide +kernel, rfl, by decide +kernel, by decide +kernel⟩
theorem d_law_row (T : Tops K mg) (h_law_come : Dfn P c.w K mg base "_law_come" (1) ["house", "bearers", "stand", "bearer", "name"] (spP c 5 (f_law_come))) (h_law_nexts : Dfn P c.w K mg base "_law_nexts" (2) ["house", "bearers", "stand"] (spP c 3 (f_law_nexts))) (h_law_one : Dfn P c.w K mg base "_law_one" (2) ["deck", "some"] (spD c 2 (f_law_one))) (h_law_pick : Dfn P c.w K mg base "_law_pick" (1) ["deck", "size"] (spD c 2 (f_law_pick))) : Dfn P c.w K mg base "_law_row" (3) ["deck", "house", "bearers", "stand", "most"] (spD c 5 (f_law_row)) := by
  refine mk_D (k := 2) (n := 6) (m := m_law_row) T.d_law_row sc_law_row rfl (fun _ _ _ _ _ _ us hl => match us, hl with | [_, _, _, _, _], _ => rfl) (fun f cdv A outer s H hr => ?_)
  have hu := hr.units
  exact ss_cons (ss_set (i := 5) sc_law_row.nd rfl (by first | exact Or.inl rfl | exact Or.inr rfl) (s_lst (sa_nil)))
    (ss_cons (ss_for PassesOwn.never rfl (i_rng rfl T.b_range (sa_cons (so_ex (s_fnD h_law_pick (hr.mono (by decide)) (pv 0) (sa_cons (so_ex (s_op z_add (so_sl (pv 4)) (so_ex (s_int)))) (sa_nil)))) (sa_nil))) (g_nm (i := 6) sc_law_row.nd rfl (by first | exact Or.inl rfl | exact Or.inr rfl)) (ss_cons (ss_setLc (i := 7) (own := [("row", 10)]) rfl sc_law_row.nd rfl rfl (sw_true rfl rfl rfl (by decide +kernel)) (i_seq (so_ex (s_fn h_law_nexts (hr.mono (by decide)) (sa_cons (so_sl (pv 1)) (sa_cons (so_sl (pv 2)) (sa_cons (so_sl (pv 3)) (sa_nil))))))) (blkOk_by (own := [("row", 10)]) (N := N_law_row) (sc := defScope s_law_row) (by decide +kernel)) (fun _ _ _ _ _ => g_nm (i := 10) sc_law_row.nd rfl (by first | exact Or.inl rfl | exact Or.inr rfl)) (fun _ _ _ _ _ => ts_nil) (fun _ _ _ _ _ => s_slHi (so_sl (pv 10)) (so_ex (s_int))))
    (ss_cons (ss_if (PW.pt (w_or (t_cmp (z_eq hu) (so_sl (pv 7)) (so_ex (s_lst (sa_nil))) (by rfl)) (w_or1 (t_cmp (z_eq hu) (so_ex (s_fnD h_law_pick (hr.mono (by decide)) (pv 0) (sa_cons (so_ex (s_int)) (sa_nil)))) (so_ex (s_int)) (by rfl))))) (ss_one (ss_set (i := 7) sc_law_row.nd rfl (by first | exact Or.inl rfl | exact Or.inr rfl) (s_lst (sa_cons (so_ex (s_tup (sa_cons (so_ex (s_fnD h_law_pick (hr.mono (by decide)) (pv 0) (sa_cons (so_ex (b_len T.b_len (sa_cons (so_sl (pv 2)) (sa_nil)))) (sa_nil)))) (sa_cons (so_ex (s_ix (so_ex (s_fnD h_law_one (hr.mono (by decide)) (pv 0) (sa_cons (so_ex (s_ix (so_sl (pv 1)) (so_ex (s_int)) (fun _ _ => rfl))) (sa_nil)))) (so_ex (s_int)) (fun _ _ => rfl))) (sa_nil))))) (sa_nil))))) (ss_nil))
    (ss_cons (ss_set (i := 8) sc_law_row.nd rfl (by first | exact Or.inl rfl | exact Or.inr rfl) (s_fnD h_law_one (hr.mono (by decide)) (pv 0) (sa_cons (so_sl (pv 7)) (sa_nil))))
    (ss_cons (ss_set (i := 9) sc_law_row.nd rfl (by first | exact Or.inl rfl | exact Or.inr rfl) (s_fn h_law_come (hr.mono (by decide)) (sa_cons (so_sl (pv 1)) (sa_cons (so_sl (pv 2)) (sa_cons (so_sl (pv 3)) (sa_cons (so_ex (s_ix (so_sl (pv 8)) (so_ex (s_int)) (fun _ _ => rfl))) (sa_cons (so_ex (s_ix (so_sl (pv 8)) (so_ex (s_int)) (fun _ _ => rfl))) (sa_nil))))))))
    (ss_cons (ss_set (i := 3) sc_law_row.nd rfl (by first | exact Or.inl rfl | exact Or.inr rfl) (s_ifExp (t_cmp (z_isNot) (so_sl (pv 9)) (so_ex (s_none)) (by rfl)) (s_var (pv 9)) (s_var (pv 3))))
    (ss_one (ss_append (pv 5) (s_var (pv 8))))))))) (noAt [_]))
    (ss_one (ss_move (pv 5))))

abbrev s_law_eased : Stmt := topS 53
abbrev N_law_eased : List Str := ["deck", "hall", "names", "more", "less", "soft", "wide", "every", "found", "house", "bearers", "stand", "rooms", "doors", "gains", "k", "one", "room", "size", "name", "cap", "loss", "left", "much", "other"]
theorem sc_law_eased : FnScope N_law_eased ["deck", "hall"] (defScope s_law_eased) := ⟨rfl, rfl, rfl, by decide +kernel, rfl, by decide +kernel, by decide +kernel⟩
theorem d_law_eased (T : Tops K mg) (h_law_pick : Dfn P c.w K mg base "_law_pick" (1) ["deck", "size"] (spD c 2 (f_law_pick))) : Dfn P c.w K mg base "_law_eased" (2) ["deck", "hall"] (spD c 2 (f_law_eased)) := by
  refine mk_D (k := 1) (n := 23) (m := m_law_eased) T.d_law_eased sc_law_eased rfl (fun _ _ _ _ _ _ us hl => match us, hl with | [_, _], _ => rfl) (fun f cdv A outer s H hr => ?_)
  have hu := hr.units
  exact ss_cons (ss_asg (s_var (pv 1)) (g_tp rfl (gs_cons (g_nm (i := 9) sc_law_eased.nd rfl (by first | exact Or.inl rfl | exact Or.inr rfl)) (gs_cons (g_nm (i := 10) sc_law_eased.nd rfl (by first | exact Or.inl rfl | exact Or.inr rfl)) (gs_cons (g_nm (i := 11) sc_law_eased.nd rfl (by first | exact Or.inl rfl | exact Or.inr rfl)) (gs_nil)))) rfl))
    (ss_cons (ss_asg (s_var (pv 9)) (g_tp rfl (gs_cons (g_nm (i := 12) sc_law_eased.nd rfl (by first | exact Or.inl rfl | exact Or.inr rfl)) (gs_cons (g_nm (i := 13) sc_law_eased.nd rfl (by first | exact Or.inl rfl | exact Or.inr rfl)) (gs_cons (g_nm (i := 14) sc_law_eased.nd rfl (by first | exact Or.inl rfl | exact Or.inr rfl)) (gs_nil)))) rfl))
    (ss_cons (ss_setLc (i := 2) (own := [("room", 17)]) rfl sc_law_eased.nd rfl rfl (sw_true rfl rfl rfl (by decide +kernel)) (i_seq (so_sl (pv 12))) (blkOk_by (own := [("room", 17)]) (N := N_law_eased) (sc := defScope s_law_eased) (by decide +kernel)) (fun _ _ _ _ _ => g_nm (i := 17) sc_law_eased.nd rfl (by first | exact Or.inl rfl | exact Or.inr rfl)) (fun _ _ _ _ _ => ts_nil) (fun _ _ _ _ _ => s_ix (so_sl (pv 17)) (so_ex (s_int)) (fun _ _ => rfl)))
    (ss_cons (ss_set (i := 3) sc_law_eased.nd rfl (by first | exact Or.inl rfl | exact Or.inr rfl) (b_tuple T.b_tuple (sa_cons (so_ex (s_lc (own := [("room", 17), ("size", 18)]) rfl sc_law_eased.nd (i_zip rfl T.b_zip (sa_cons (so_sl (pv 12)) (sa_cons (so_ex (s_ix (so_sl (pv 11)) (so_ex (s_int)) (fun _ _ => rfl))) (sa_nil)))) (blkOk_by (own := [("room", 17), ("size", 18)]) (N := N_law_eased) (sc := defScope s_law_eased) (by decide +kernel)) (fun _ _ _ _ _ => g_tp rfl (gs_cons (g_nm (i := 17) sc_law_eased.nd rfl (by first | exact Or.inl rfl | exact Or.inr rfl)) (gs_cons (g_nm (i := 18) sc_law_eased.nd rfl (by first | exact Or.inl rfl | exact Or.inr rfl)) (gs_nil))) rfl) (fun _ _ _ _ _ => ts_nil) (fun _ _ _ _ _ => b_min2 rfl T.b_min (sa_cons (so_ex (s_ix (so_sl (pv 17)) (so_ex (s_int)) (fun _ _ => rfl))) (sa_cons (so_ex (s_op z_add (so_sl (pv 18)) (so_ex (s_fnD h_law_pick (hr.mono (by decide)) (pv 0) (sa_cons (so_ex (s_int)) (sa_nil)))))) (sa_nil)))))) (sa_nil))))
    (ss_cons (ss_set (i := 4) sc_law_eased.nd rfl (by first | exact Or.inl rfl | exact Or.inr rfl) (b_tuple T.b_tuple (sa_cons (so_ex (s_lc (own := [("size", 18)]) rfl sc_law_eased.nd (i_seq (so_sl (pv 10))) (blkOk_by (own := [("size", 18)]) (N := N_law_eased) (sc := defScope s_law_eased) (by decide +kernel)) (fun _ _ _ _ _ => g_nm (i := 18) sc_law_eased.nd rfl (by first | exact Or.inl rfl | exact Or.inr rfl)) (fun _ _ _ _ _ => ts_nil) (fun _ _ _ _ _ => b_max2 rfl T.b_max (sa_cons (so_ex (s_int)) (sa_cons (so_ex (s_op z_sub (so_sl (pv 18)) (so_ex (s_fnD h_law_pick (hr.mono (by decide)) (pv 0) (sa_cons (so_ex (s_int)) (sa_nil)))))) (sa_nil)))))) (sa_nil))))
    (ss_cons (ss_set (i := 5) sc_law_eased.nd rfl (by first | exact Or.inl rfl | exact Or.inr rfl) (b_tuple T.b_tuple (sa_cons (so_ex (s_lc (own := [("name", 19), ("cap", 20), ("loss", 21)]) rfl sc_law_eased.nd (i_seq (so_sl (pv 12))) (blkOk_by (own := [("name", 19), ("cap", 20), ("loss", 21)]) (N := N_law_eased) (sc := defScope s_law_eased) (by decide +kernel)) (fun _ _ _ _ _ => g_tp rfl (gs_cons (g_nm (i := 19) sc_law_eased.nd rfl (by first | exact Or.inl rfl | exact Or.inr rfl)) (gs_cons (g_nm (i := 20) sc_law_eased.nd rfl (by first | exact Or.inl rfl | exact Or.inr rfl)) (gs_cons (g_nm (i := 21) sc_law_eased.nd rfl (by first | exact Or.inl rfl | exact Or.inr rfl)) (gs_nil)))) rfl) (fun _ _ _ _ _ => ts_nil) (fun _ _ _ _ _ => s_tup (sa_cons (so_ex (s_var (pv 19))) (sa_cons (so_ex (s_var (pv 20))) (sa_cons (so_ex (b_max2 rfl T.b_max (sa_cons (so_ex (s_int)) (sa_cons (so_ex (s_op z_sub (so_sl (pv 21)) (so_ex (s_fnD h_law_pick (hr.mono (by decide)) (pv 0) (sa_cons (so_ex (s_int)) (sa_nil)))))) (sa_nil))))) (sa_nil))))))) (sa_nil))))
    (ss_cons (ss_set (i := 6) sc_law_eased.nd rfl (by first | exact Or.inl rfl | exact Or.inr rfl) (b_tuple T.b_tuple (sa_cons (so_ex (s_lc (own := [("left", 22), ("name", 19), ("much", 23)]) rfl sc_law_eased.nd (i_seq (so_sl (pv 14))) (blkOk_by (own := [("left", 22), ("name", 19), ("much", 23)]) (N := N_law_eased) (sc := defScope s_law_eased) (by decide +kernel)) (fun _ _ _ _ _ => g_tp rfl (gs_cons (g_nm (i := 22) sc_law_eased.nd rfl (by first | exact Or.inl rfl | exact Or.inr rfl)) (gs_cons (g_nm (i := 19) sc_law_eased.nd rfl (by first | exact Or.inl rfl | exact Or.inr rfl)) (gs_cons (g_nm (i := 23) sc_law_eased.nd rfl (by first | exact Or.inl rfl | exact Or.inr rfl)) (gs_nil)))) rfl) (fun _ _ _ _ _ => ts_nil) (fun _ _ _ _ _ => s_tup (sa_cons (so_ex (s_var (pv 22))) (sa_cons (so_ex (s_var (pv 19))) (sa_cons (so_ex (b_min2 rfl T.b_min (sa_cons (so_ex (s_int)) (sa_cons (so_ex (s_op z_add (so_sl (pv 23)) (so_ex (s_int)))) (sa_nil))))) (sa_nil))))))) (sa_nil))))
    (ss_cons (ss_set (i := 7) sc_law_eased.nd rfl (by first | exact Or.inl rfl | exact Or.inr rfl) (s_lst (sa_nil)))
    (ss_cons (ss_for PassesOwn.never rfl (i_enum rfl T.b_enumerate (sa_cons (so_ex (s_var (pv 2))) (sa_nil))) (g_tp rfl (gs_cons (g_nm (i := 15) sc_law_eased.nd rfl (by first | exact Or.inl rfl | exact Or.inr rfl)) (gs_cons (g_nm (i := 16) sc_law_eased.nd rfl (by first | exact Or.inl rfl | exact Or.inr rfl)) (gs_nil))) rfl) (ss_one (ss_set (i := 7) sc_law_eased.nd rfl (by first | exact Or.inl rfl | exact Or.inr rfl) (s_op z_add (so_sl (pv 7)) (so_ex (s_lc (own := [("other", 24)]) rfl sc_law_eased.nd (i_seq (so_ex (s_slLo (so_sl (pv 2)) (so_ex (s_op z_add (so_sl (pv 15)) (so_ex (s_int))))))) (blkOk_by (own := [("other", 24)]) (N := N_law_eased) (sc := defScope s_law_eased) (by decide +kernel)) (fun _ _ _ _ _ => g_nm (i := 24) sc_law_eased.nd rfl (by first | exact Or.inl rfl | exact Or.inr rfl)) (fun _ _ _ _ _ => ts_nil) (fun _ _ _ _ _ => s_tup (sa_cons (so_ex (s_var (pv 16))) (sa_cons (so_ex (s_var (pv 24))) (sa_nil))))))))) (noAt [_]))
    (ss_cons (ss_set (i := 8) sc_law_eased.nd rfl (by first | exact Or.inl rfl | exact Or.inr rfl) (s_lst (sa_cons (so_ex (s_tup (sa_cons (so_ex (s_var (pv 9))) (sa_cons (so_ex (s_var (pv 10))) (sa_cons (so_ex (s_tup (sa_cons (so_ex (s_ix (so_sl (pv 11)) (so_ex (s_int)) (fun _ _ => rfl))) (sa_cons (so_ex (s_var (pv 3))) (sa_nil))))) (sa_nil)))))) (sa_cons (so_ex (s_tup (sa_cons (so_ex (s_var (pv 9))) (sa_cons (so_ex (s_var (pv 4))) (sa_cons (so_ex (s_var (pv 11))) (sa_nil)))))) (sa_cons (so_ex (s_tup (sa_cons (so_ex (s_tup (sa_cons (so_ex (s_var (pv 5))) (sa_cons (so_ex (s_var (pv 13))) (sa_cons (so_ex (s_var (pv 14))) (sa_nil)))))) (sa_cons (so_ex (s_var (pv 10))) (sa_cons (so_ex (s_var (pv 11))) (sa_nil)))))) (sa_nil))))))
    (ss_cons (ss_set (i := 8) sc_law_eased.nd rfl (by first | exact Or.inl rfl | exact Or.inr rfl) (s_op z_add (so_sl (pv 8)) (so_ex (s_lst (sa_cons (so_ex (s_tup (sa_cons (so_ex (s_tup (sa_cons (so_ex (s_var (pv 12))) (sa_cons (so_ex (s_var (pv 13))) (sa_cons (so_ex (s_var (pv 6))) (sa_nil)))))) (sa_cons (so_ex (s_var (pv 10))) (sa_cons (so_ex (s_var (pv 11))) (sa_nil)))))) (sa_cons (so_ex (s_tup (sa_cons (so_ex (s_tup (sa_cons (so_ex (s_var (pv 12))) (sa_cons (so_ex (b_tuple T.b_tuple (sa_cons (so_sl (pv 7)) (sa_nil)))) (sa_cons (so_ex (s_var (pv 14))) (sa_nil)))))) (sa_cons (so_ex (s_var (pv 10))) (sa_cons (so_ex (s_var (pv 11))) (sa_nil)))))) (sa_nil)))))))
    (ss_one (ss_ret (s_op z_add (so_sl (pv 8)) (so_ex (s_lst (sa_cons (so_ex (s_tup (sa_cons (so_ex (s_tup (sa_cons (so_ex (s_var (pv 5))) (sa_cons (so_ex (b_tuple T.b_tuple (sa_cons (so_sl (pv 7)) (sa_nil)))) (sa_cons (so_ex (s_var (pv 6))) (sa_nil)))))) (sa_cons (so_ex (s_var (pv 4))) (sa_cons (so_ex (s_tup (sa_cons (so_ex (s_ix (so_sl (pv 11)) (so_ex (s_int)) (fun _ _ => rfl))) (sa_cons (so_ex (s_var (pv 3))) (sa_nil))))) (sa_nil)))))) (sa_nil)))))))))))))))))

abbrev s_law : Stmt := topS 54
abbrev N_law : List Str := ["script", "cell", "deck", "hall", "row", "stop", "there", "least", "house", "bearers", "stand", "told", "other", "k", "size"]
theorem sc_law : FnScope N_law ["script"] (defScope s_law) := ⟨rfl, rfl, rfl, by decide +kernel, rfl, by decide +kernel, by decide +kernel⟩
theorem d_law {f : Addr} {fd : FuncData} (T : Tops K mg) (F : FnP K "law" s_law f fd) (h_law_deck : Dfn P c.w K mg base "_law_deck" (1) ["cell", "turn"] (spP c 2 (f_law_deck))) (h_law_eased : Dfn P c.w K mg base "_law_eased" (2) ["deck", "hall"] (spD c 2 (f_law_eased))) (h_law_gone : Dfn P c.w K mg base "_law_gone" (2) ["house", "bearers", "stand", "row"] (spP c 4 (f_law_gone))) (h_law_hall : Dfn P c.w K mg base "_law_hall" (5) ["deck", "most", "cap_most", "bearers_most"] (spD c 4 (f_law_hall))) (h_law_row : Dfn P c.w K mg base "_law_row" (3) ["deck", "house", "bearers", "stand", "most"] (spD c 5 (f_law_row))) (h_gone : Dfn P c.w K mg base "gone" (7) ["house", "bearers", "stand", "row"] (spP c 4 (f_gone))) (h_needs : Dfn P c.w K mg base "needs" (7) ["house", "bearers", "places", "row"] (spP c 4 (f_needs))) (hm : ∀ ns : List Int, ns.length ≤ 63 → ∃ en, m_law ns (List.replicate 15 .no) = .ok (.rt (.fz (.bool true)), en)) : FnOk P c.w K mg base CX0 8 f fd ["script"] (spLaw K) := by
  refine fn_law (k := 7) (n := 14) (m := m_law) (fun_of F) sc_law rfl rfl (fun ns hl cdv A outer s H hr => ?_) hm
  have hu := hr.units
  exact ss_consC (ss_forC PassesOwn.never rfl (i_scr (s_scr hl rfl (Or.inl rfl))) (g_nm (i := 1) sc_law.nd rfl (by first | exact Or.inl rfl | exact Or.inr rfl)) (ss_cons (ss_set (i := 2) sc_law.nd rfl (by first | exact Or.inl rfl | exact Or.inr rfl) (s_fn h_law_deck (hr.mono (by decide)) (sa_cons (so_sl (pv 1)) (sa_cons (so_ex (s_int)) (sa_nil)))))
    (ss_cons (ss_set (i := 3) sc_law.nd rfl (by first | exact Or.inl rfl | exact Or.inr rfl) (s_fnD h_law_hall (hr.mono (by decide)) (pv 2) (sa_cons (so_ex (s_int)) (sa_cons (so_ex (s_int)) (sa_cons (so_ex (s_int)) (sa_nil))))))
    (ss_cons (ss_set (i := 4) sc_law.nd rfl (by first | exact Or.inl rfl | exact Or.inr rfl) (s_fnD h_law_row (hr.mono (by decide)) (pv 2) (sa_cons (so_ex (s_ix (so_sl (pv 3)) (so_ex (s_int)) (fun _ _ => rfl))) (sa_cons (so_ex (s_ix (so_sl (pv 3)) (so_ex (s_int)) (fun _ _ => rfl))) (sa_cons (so_ex (s_ix (so_sl (pv 3)) (so_ex (s_int)) (fun _ _ => rfl))) (sa_cons (so_ex (s_int)) (sa_nil)))))))
    (ss_cons (ss_set (i := 5) sc_law.nd rfl (by first | exact Or.inl rfl | exact Or.inr rfl) (s_fn h_law_gone (hr.mono (by decide)) (sa_cons (so_ex (s_ix (so_sl (pv 3)) (so_ex (s_int)) (fun _ _ => rfl))) (sa_cons (so_ex (s_ix (so_sl (pv 3)) (so_ex (s_int)) (fun _ _ => rfl))) (sa_cons (so_ex (s_ix (so_sl (pv 3)) (so_ex (s_int)) (fun _ _ => rfl))) (sa_cons (so_sl (pv 4)) (sa_nil)))))))
    (ss_cons (ss_set (i := 4) sc_law.nd rfl (by first | exact Or.inl rfl | exact Or.inr rfl) (s_ifExp (t_val (s_isi rfl T.b_isinstance (so_sl (pv 5)) rfl T.b_int bt_int)) (s_slHi (so_sl (pv 4)) (so_sl (pv 5))) (s_var (pv 4))))
    (ss_cons (ss_set (i := 6) sc_law.nd rfl (by first | exact Or.inl rfl | exact Or.inr rfl) (s_fn h_gone (hr.mono (by decide)) (sa_cons (so_ex (s_ix (so_sl (pv 3)) (so_ex (s_int)) (fun _ _ => rfl))) (sa_cons (so_ex (s_ix (so_sl (pv 3)) (so_ex (s_int)) (fun _ _ => rfl))) (sa_cons (so_ex (s_ix (so_sl (pv 3)) (so_ex (s_int)) (fun _ _ => rfl))) (sa_cons (so_sl (pv 4)) (sa_nil)))))))
    (ss_cons (ss_set (i := 7) sc_law.nd rfl (by first | exact Or.inl rfl | exact Or.inr rfl) (s_fn h_needs (hr.mono (by decide)) (sa_cons (so_ex (s_ix (so_sl (pv 3)) (so_ex (s_int)) (fun _ _ => rfl))) (sa_cons (so_ex (s_ix (so_sl (pv 3)) (so_ex (s_int)) (fun _ _ => rfl))) (sa_cons (so_ex (s_ix (so_ex (s_ix (so_sl (pv 3)) (so_ex (s_int)) (fun _ _ => rfl))) (so_ex (s_int)) (fun _ _ => rfl))) (sa_cons (so_sl (pv 4)) (sa_nil)))))))
    (ss_cons (ss_if (PW.pt (w_or (t_cmp (z_is) (so_sl (pv 6)) (so_ex (s_none)) (by rfl)) (w_or1 (t_cmp (z_is) (so_sl (pv 7)) (so_ex (s_none)) (by rfl))))) (ss_one (ss_ret (s_bool))) (ss_nil))
    (ss_one (ss_for PassesOwn.never rfl (i_seq (so_ex (s_fnD h_law_eased (hr.mono (by decide)) (pv 2) (sa_cons (so_sl (pv 3)) (sa_nil))))) (g_tp rfl (gs_cons (g_nm (i := 8) sc_law.nd rfl (by first | exact Or.inl rfl | exact Or.inr rfl)) (gs_cons (g_nm (i := 9) sc_law.nd rfl (by first | exact Or.inl rfl | exact Or.inr rfl)) (gs_cons (g_nm (i := 10) sc_law.nd rfl (by first | exact Or.inl rfl | exact Or.inr rfl)) (gs_nil)))) rfl) (ss_cons (ss_set (i := 11) sc_law.nd rfl (by first | exact Or.inl rfl | exact Or.inr rfl) (s_fn h_gone (hr.mono (by decide)) (sa_cons (so_sl (pv 8)) (sa_cons (so_sl (pv 9)) (sa_cons (so_sl (pv 10)) (sa_cons (so_sl (pv 4)) (sa_nil)))))))
    (ss_cons (ss_if (PW.pt (w_or (t_cmp (z_is) (so_sl (pv 11)) (so_ex (s_none)) (by rfl)) (w_or1 (t_cmp (z_ne hu) (so_ex (s_ix (so_sl (pv 11)) (so_ex (s_int)) (fun _ _ => rfl))) (so_ex (s_ix (so_sl (pv 6)) (so_ex (s_int)) (fun _ _ => rfl))) (by rfl))))) (ss_one (ss_ret (s_bool))) (ss_nil))
    (ss_cons (ss_if (t_cmp (z_ne hu) (so_ex (s_lc (own := [("k", 13), ("size", 14)]) rfl sc_law.nd (i_enum rfl T.b_enumerate (sa_cons (so_ex (s_ix (so_sl (pv 11)) (so_ex (s_int)) (fun _ _ => rfl))) (sa_nil))) (blkOk_by (own := [("k", 13), ("size", 14)]) (N := N_law) (sc := defScope s_law) (by decide +kernel)) (fun _ _ _ _ _ => g_tp rfl (gs_cons (g_nm (i := 13) sc_law.nd rfl (by first | exact Or.inl rfl | exact Or.inr rfl)) (gs_cons (g_nm (i := 14) sc_law.nd rfl (by first | exact Or.inl rfl | exact Or.inr rfl)) (gs_nil))) rfl) (fun _ _ _ _ _ => ts_one (t_cmp (z_lt hu) (so_sl (pv 14)) (so_ex (s_ix (so_ex (s_ix (so_sl (pv 6)) (so_ex (s_int)) (fun _ _ => rfl))) (so_sl (pv 13)) (fun _ _ => rfl))) (by rfl))) (fun _ _ _ _ _ => s_var (pv 13)))) (so_ex (s_lst (sa_nil))) (by rfl)) (ss_one (ss_ret (s_bool))) (ss_nil))
    (ss_cons (ss_set (i := 12) sc_law.nd rfl (by first | exact Or.inl rfl | exact Or.inr rfl) (s_fn h_needs (hr.mono (by decide)) (sa_cons (so_sl (pv 8)) (sa_cons (so_sl (pv 9)) (sa_cons (so_ex (s_ix (so_sl (pv 10)) (so_ex (s_int)) (fun _ _ => rfl))) (sa_cons (so_sl (pv 4)) (sa_nil)))))))
    (ss_one (ss_if (PW.pt (w_or (t_cmp (z_is) (so_sl (pv 12)) (so_ex (s_none)) (by rfl)) (w_or1 (t_cmp (z_ne hu) (so_ex (s_lc (own := [("k", 13), ("size", 14)]) rfl sc_law.nd (i_enum rfl T.b_enumerate (sa_cons (so_sl (pv 12)) (sa_nil))) (blkOk_by (own := [("k", 13), ("size", 14)]) (N := N_law) (sc := defScope s_law) (by decide +kernel)) (fun _ _ _ _ _ => g_tp rfl (gs_cons (g_nm (i := 13) sc_law.nd rfl (by first | exact Or.inl rfl | exact Or.inr rfl)) (gs_cons (g_nm (i := 14) sc_law.nd rfl (by first | exact Or.inl rfl | exact Or.inr rfl)) (gs_nil))) rfl) (fun _ _ _ _ _ => ts_one (t_cmp (z_gt hu) (so_sl (pv 14)) (so_ex (s_ix (so_sl (pv 7)) (so_sl (pv 13)) (fun _ _ => rfl))) (by rfl))) (fun _ _ _ _ _ => s_var (pv 13)))) (so_ex (s_lst (sa_nil))) (by rfl))))) (ss_one (ss_ret (s_bool))) (ss_nil))))))) (noAt [_]))))))))))) (noAt [_]))
    (ss_one (ss_ret (s_bool)))

end
end K05
set_option Elab.async false
set_option linter.all false
set_option maxRecDepth 100000
set_option autoImplicit false
/-! the plain law of k05 -/
namespace K05
open PySem PySem.Spec PyProof.Rows L2 Sh Mi

noncomputable def q1 : MS := mSet 2 (mCall (f_law_deck) [.sl 1, .ex (mK (.int 5))])
noncomputable def q2 : MS := mSet 3 (mCallD (f_law_hall) 2 [.ex (mK (.int 5)), .ex (mK (.int 9)), .ex (mK (.int 3))])
noncomputable def q3 : MS := mSet 4 (mCallD (f_law_row) 2 [.ex (mPure opIx [.sl 3, .ex (mK (.int 0))]), .ex (mPure opIx [.sl 3, .ex (mK (.int 1))]), .ex (mPure opIx [.sl 3, .ex (mK (.int 2))]), .ex (mK (.int 25))])
noncomputable def q4 : MS := mSet 5 (mCall (f_law_gone) [.ex (mPure opIx [.sl 3, .ex (mK (.int 0))]), .ex (mPure opIx [.sl 3, .ex (mK (.int 1))]), .ex (mPure opIx [.sl 3, .ex (mK (.int 2))]), .sl 4])
noncomputable def q5 : MS := mSet 4 (mIf (mTE (mPure (opIsi "int") [.sl 5])) (mPure opSlHi [.sl 4, .sl 5]) (mVar 4))
noncomputable def q6 : MS := mSet 6 (mCall (f_gone) [.ex (mPure opIx [.sl 3, .ex (mK (.int 0))]), .ex (mPure opIx [.sl 3, .ex (mK (.int 1))]), .ex (mPure opIx [.sl 3, .ex (mK (.int 2))]), .sl 4])
noncomputable def q7 : MS := mSet 7 (mCall (f_needs) [.ex (mPure opIx [.sl 3, .ex (mK (.int 0))]), .ex (mPure opIx [.sl 3, .ex (mK (.int 1))]), .ex (mPure opIx [.ex (mPure opIx [.sl 3, .ex (mK (.int 2))]), .ex (mK (.int 0))]), .sl 4])
noncomputable def q8 : MS := mCond (mOr (mTE (mPure opIs [.sl 6, .ex (mK (.none))])) (mTE (mPure opIs [.sl 7, .ex (mK (.none))]))) (mRet (mK (.bool false))) (mSkip)
noncomputable def r1 : MS := mSet 11 (mCall (f_gone) [.sl 8, .sl 9, .sl 10, .sl 4])
noncomputable def r2 : MS := mCond (mOr (mTE (mPure opIs [.sl 11, .ex (mK (.none))])) (mTE (mPure opNe [.ex (mPure opIx [.sl 11, .ex (mK (.int 0))]), .ex (mPure opIx [.sl 6, .ex (mK (.int 0))])]))) (mRet (mK (.bool false))) (mSkip)
noncomputable def l3 : ME := mLc ⟨[.ex (mPure opIx [.sl 11, .ex (mK (.int 1))])], itEnum⟩ (.tp [.nm 13, .nm 14]) (mTE (mPure opLt [.sl 14, .ex (mPure opIx [.ex (mPure opIx [.sl 6, .ex (mK (.int 1))]), .sl 13])])) (mVar 13) [13, 14]
noncomputable def r3 : MS := mCond (mTE (mPure opNe [.ex l3, .ex (mPure opLst (exs []))])) (mRet (mK (.bool false))) (mSkip)
noncomputable def r4 : MS := mSet 12 (mCall (f_needs) [.sl 8, .sl 9, .ex (mPure opIx [.sl 10, .ex (mK (.int 0))]), .sl 4])
noncomputable def l5 : ME := mLc ⟨[.sl 12], itEnum⟩ (.tp [.nm 13, .nm 14]) (mTE (mPure opGt [.sl 14, .ex (mPure opIx [.sl 7, .sl 13])])) (mVar 13) [13, 14]
noncomputable def r5 : MS := mCond (mOr (mTE (mPure opIs [.sl 12, .ex (mK (.none))])) (mTE (mPure opNe [.ex l5, .ex (mPure opLst (exs []))]))) (mRet (mK (.bool false))) (mSkip)
noncomputable def qb1 : MS := mSeq r1 (mSeq r2 (mSeq r3 (mSeq r4 r5)))
noncomputable def q9 : MS := mFor ⟨[.ex (mCallD (f_law_eased) 2 [.sl 3])], itSeq⟩ (.tp [.nm 8, .nm 9, .nm 10]) qb1
theorem q_split : mb_law = mSeq q1 (mSeq q2 (mSeq q3 (mSeq q4 (mSeq q5 (mSeq q6 (mSeq q7 (mSeq q8 (q9)))))))) := rfl

def gtD (l : List Int) : Da → Bool
  | .tuple [.int k, .int s] => decide ((l[k.toNat]?).getD 0 < s)
  | _ => false
theorem none_less {sz l : List Int} (hl : sz.length = l.length) (h : ∀ (k : Nat) (hk : k < sz.length), l[k] ≤ sz[k]) : opNe [.list (((enumD 0 (sz.map dint)).filter (lessD l)).map fstD), .list []] = some (.fz (.bool false)) := by
  have hpl : PyData.plainAll (((enumD 0 (sz.map dint)).filter (lessD l)).map fstD) = true := plainAll_iff.mpr fun x hx => by
    obtain ⟨d, hd, rfl⟩ := List.mem_map.mp hx
    obtain ⟨i, hi, rfl⟩ := enum_get dint (List.mem_filter.mp hd).1
    rfl
  rw [op_ne_nil _ hpl, fil_empty]
  have this : ((enumD 0 (sz.map dint)).all fun d => !lessD l d) = true := (enough_iff hl).mpr h
  rw [this]
  rfl
theorem none_more {sz l : List Int} (hl : sz.length = l.length) (h : ∀ (k : Nat) (hk : k < l.length), sz[k] ≤ l[k]) : opNe [.list (((enumD 0 (sz.map dint)).filter (gtD l)).map fstD), .list []] = some (.fz (.bool false)) := by
  have hpl : PyData.plainAll (((enumD 0 (sz.map dint)).filter (gtD l)).map fstD) = true := plainAll_iff.mpr fun x hx => by
    obtain ⟨d, hd, rfl⟩ := List.mem_map.mp hx
    obtain ⟨i, hi, rfl⟩ := enum_get dint (List.mem_filter.mp hd).1
    rfl
  rw [op_ne_nil _ hpl, fil_empty]
  have : ((enumD 0 (sz.map dint)).all fun d => !gtD l d) = true := by
    rw [List.all_eq_true]
    intro d hd
    obtain ⟨i, hi, rfl⟩ := enum_get dint hd
    have := h i (by omega)
    simp [gtD, dint, List.getElem?_eq_getElem (show i < l.length by omega)]
    exact this
  rw [this]
  rfl
theorem ne_strs (ps : List Str) : opNe [.tuple (ps.map dstr), .tuple (ps.map dstr)] = some (.fz (.bool false)) := by
  have hp : (PyData.tuple (ps.map dstr)).plain = true := by rw [PyData.plain]; exact plain_names ps
  have hd := (fl_depth dstr (n := 0) (fun _ => Nat.le_refl _) ps).1
  have hq := eqv_refl hp
  generalize PyData.tuple (ps.map dstr) = R at hd hp hq
  have ho : okc R R = true := by
    unfold okc
    simp [hp]
    omega
  rw [opNe, if_pos ho, hq]
  rfl
section
variable {h : Hs} (kh : HsOk h) {bs : List Int} (kb : BsOk bs) {t : Sn} (kt : SnOk h bs.length t) {row : List (Nat × Str)} (hr : RowOk h bs.length row) (hlr : row.length ≤ 60) (hcan : canP h bs t row = true) {l : List Int} (hne : needsP h bs t.places row = some l) {s0 s1 s2 s3 sR s5 : Sl} (hR : sR.dat = some (.list (row.map eCm)))
include kh kb kt hr hlr hcan hne hR
theorem turn1 {q : Hs × List Int × Sn} (hq : EasedOk h bs t q) (s11 s12 : Sl) : ∃ sR' s11' s12', sR'.dat = some (.list (row.map eCm)) ∧ qb1 [s0, s1, s2, s3, sR, s5, .fz (lastP t (walkP h bs t row)).enc, .fz (.tuple (l.map dint)), .fz q.1.enc, .fz (eBs q.2.1), .fz q.2.2.enc, s11, s12, .no, .no] = .ok (.nx, [s0, s1, s2, s3, sR', s5, .fz (lastP t (walkP h bs t row)).enc, .fz (.tuple (l.map dint)), .fz q.1.enc, .fz (eBs q.2.1), .fz q.2.2.enc, s11', s12', .no, .no]) := by
  obtain ⟨h', bs', t'⟩ := q
  obtain ⟨kh', kb', kt', E, hpl, hle⟩ := hq
  obtain ⟨ps', sz'⟩ := t'
  obtain ⟨ps, sz⟩ := t
  simp only at hpl hle kh' kb' kt' E
  subst hpl
  have hr' := rowOk_eas E hr
  obtain ⟨hc', hp', hle'⟩ := walk_mono kh kh' E row ps' sz sz' hr kt kt' hle hcan
  have hb : ∀ b ∈ bs, 0 ≤ b := fun b hb => (kb.size b hb).1
  have hb' : ∀ b ∈ bs', 0 ≤ b := fun b hb => (kb'.size b hb).1
  obtain ⟨l', hn', hll⟩ := needs_mono kh kh' hb hb' E hr kt.pn kt.pl hne
  have kl := needs_ok kh hb hr hne
  have kl' := needs_ok kh' hb' hr' hn'
  have e1 := e_gone kh' kb'.n3 kb' kt' hr' hlr
  rw [if_pos (of_decide_eq_true hc')] at e1
  have e4 := e_needs kh' kb' kt'.pn kt'.pl hr' hlr
  rw [hn'] at e4
  -- the last stands
  have lastOk : ∀ {h : Hs} (kh : HsOk h) {bs : List Int} (row : List (Nat × Str)) (t : Sn), RowOk h bs.length row → SnOk h bs.length t → SnOk h bs.length (lastP t (walkP h bs t row)) := fun {h} kh {bs} row => by
    induction row with
    | nil => intro t _ kt; exact kt
    | cons p row ih =>
      intro t hr kt
      obtain ⟨g1, g2⟩ := hr p (by simp)
      unfold walkP
      cases hc : comeP h bs t p.1 p.2 with
      | none => exact kt
      | some u => exact ih u (fun q hq => hr q (by simp [hq])) (come_ok kh kt g1 g2 hc)
  have ku := lastOk kh row ⟨ps', sz⟩ hr kt
  have ku' := lastOk kh' row ⟨ps', sz'⟩ hr' kt'
  generalize lastP ⟨ps', sz⟩ (walkP h bs ⟨ps', sz⟩ row) = u at *
  generalize lastP ⟨ps', sz'⟩ (walkP h' bs' ⟨ps', sz'⟩ row) = u' at *
  have hrl : h'.rooms.length = h.rooms.length := by rw [← names_len, ← names_len, E.names]
  have hus : u.sizes.length = h.rooms.length := ku.sn
  have hus' : u'.sizes.length = h.rooms.length := by rw [← hrl]; exact ku'.sn
  have nl := none_less (sz := u'.sizes) (l := u.sizes) (by omega) (fun k hk => leS_get kh hus hus' hle' k hk)
  have kl'h : l'.length = h.rooms.length := by rw [← hrl]; exact kl'.len
  have nm := none_more (sz := l') (l := l) (by rw [kl'h, kl.len]) (fun k hk => leS_get kh kl'h kl.len hll k hk)
  have h5 := kh.n5
  have nes := ne_strs u.places
  have i1 : ∀ ds : List Da, opIs [.tuple ds, .none] = some (.fz (.bool false)) := fun _ => rfl
  have hu' : u'.enc = .tuple [.tuple (u.places.map dstr), .tuple (u'.sizes.map dint)] := by
    unfold Sn.enc
    rw [hp']
  have hu : u.enc = .tuple [.tuple (u.places.map dstr), .tuple (u.sizes.map dint)] := rfl
  rw [hu'] at e1
  rw [hu]
  refine ⟨.fz (.list (row.map eCm)), .fz (.tuple [.tuple (u.places.map dstr), .tuple (u'.sizes.map dint)]), .fz (.tuple (l'.map dint)), rfl, ?_⟩
  have f1 : r1 [s0, s1, s2, s3, sR, s5, .fz (.tuple [.tuple (u.places.map dstr), .tuple (u.sizes.map dint)]), .fz (.tuple (l.map dint)), .fz h'.enc, .fz (eBs bs'), .fz (Sn.enc ⟨ps', sz'⟩), s11, s12, .no, .no] = .ok (.nx, [s0, s1, s2, s3, .fz (.list (row.map eCm)), s5, .fz (.tuple [.tuple (u.places.map dstr), .tuple (u.sizes.map dint)]), .fz (.tuple (l.map dint)), .fz h'.enc, .fz (eBs bs'), .fz (Sn.enc ⟨ps', sz'⟩), .fz (.tuple [.tuple (u.places.map dstr), .tuple (u'.sizes.map dint)]), s12, .no, .no]) := by
    generalize [PyData.tuple (u.places.map dstr), .tuple (u'.sizes.map dint)] = U at e1
    generalize row.map eCm = R at e1 hR
    cases sR with
    | no => cases hR
    | fz d =>
      cases hR
      simp [r1, e1]
    | ow d =>
      cases hR
      simp [r1, e1]
  have f2 : ∀ s12, r2 [s0, s1, s2, s3, .fz (.list (row.map eCm)), s5, .fz (.tuple [.tuple (u.places.map dstr), .tuple (u.sizes.map dint)]), .fz (.tuple (l.map dint)), .fz h'.enc, .fz (eBs bs'), .fz (Sn.enc ⟨ps', sz'⟩), .fz (.tuple [.tuple (u.places.map dstr), .tuple (u'.sizes.map dint)]), s12, .no, .no] = .ok (.nx, [s0, s1, s2, s3, .fz (.list (row.map eCm)), s5, .fz (.tuple [.tuple (u.places.map dstr), .tuple (u.sizes.map dint)]), .fz (.tuple (l.map dint)), .fz h'.enc, .fz (eBs bs'), .fz (Sn.enc ⟨ps', sz'⟩), .fz (.tuple [.tuple (u.places.map dstr), .tuple (u'.sizes.map dint)]), s12, .no, .no]) := fun s12 => by
    generalize u.places.map dstr = PP at nes
    simp [r2, i1, nes]
  have g3 : ∀ s12, l3 [s0, s1, s2, s3, .fz (.list (row.map eCm)), s5, .fz (.tuple [.tuple (u.places.map dstr), .tuple (u.sizes.map dint)]), .fz (.tuple (l.map dint)), .fz h'.enc, .fz (eBs bs'), .fz (Sn.enc ⟨ps', sz'⟩), .fz (.tuple [.tuple (u.places.map dstr), .tuple (u'.sizes.map dint)]), s12, .no, .no] = .ok (.ow (.list (((enumD 0 (u'.sizes.map dint)).filter (lessD u.sizes)).map fstD)), [s0, s1, s2, s3, .fz (.list (row.map eCm)), s5, .fz (.tuple [.tuple (u.places.map dstr), .tuple (u.sizes.map dint)]), .fz (.tuple (l.map dint)), .fz h'.enc, .fz (eBs bs'), .fz (Sn.enc ⟨ps', sz'⟩), .fz (.tuple [.tuple (u.places.map dstr), .tuple (u'.sizes.map dint)]), s12, .no, .no]) := fun s12 => by
    unfold l3
    refine Sh.lc_filS (os := [.va (.tuple (u'.sizes.map dint))]) (ds := [.tuple (u'.sizes.map dint)]) (items := enumD 0 (u'.sizes.map dint)) (lessD u.sizes) fstD rfl rfl rfl rfl rfl rfl rfl (by rw [enumD_len, List.length_map]; omega) fun d hd => ?_
    obtain ⟨i, hi, rfl⟩ := enum_get dint hd
    refine ⟨_, .fz (.int (i : Int)), rfl, ?_, by simp, rfl, rfl⟩
    have ix : opIx [.tuple (u.sizes.map dint), .int (i : Int)] = some (.fz (.int ((u.sizes[i]?).getD 0))) := by
      rw [op_ixT, Sh.atI_nat, List.getElem?_map, List.getElem?_eq_getElem (show i < u.sizes.length by omega)]
      rfl
    have ix1 : opIx [.tuple [.tuple (u.places.map dstr), .tuple (u.sizes.map dint)], .int 1] = some (.fz (.tuple (u.sizes.map dint))) := rfl
    generalize u.sizes.map dint = Lt at ix ix1
    simp [dint, ix, ix1, lessD, -op_ixT]
  have g5 : l5 [s0, s1, s2, s3, .fz (.list (row.map eCm)), s5, .fz (.tuple [.tuple (u.places.map dstr), .tuple (u.sizes.map dint)]), .fz (.tuple (l.map dint)), .fz h'.enc, .fz (eBs bs'), .fz (Sn.enc ⟨ps', sz'⟩), .fz (.tuple [.tuple (u.places.map dstr), .tuple (u'.sizes.map dint)]), .fz (.tuple (l'.map dint)), .no, .no] = .ok (.ow (.list (((enumD 0 (l'.map dint)).filter (gtD l)).map fstD)), [s0, s1, s2, s3, .fz (.list (row.map eCm)), s5, .fz (.tuple [.tuple (u.places.map dstr), .tuple (u.sizes.map dint)]), .fz (.tuple (l.map dint)), .fz h'.enc, .fz (eBs bs'), .fz (Sn.enc ⟨ps', sz'⟩), .fz (.tuple [.tuple (u.places.map dstr), .tuple (u'.sizes.map dint)]), .fz (.tuple (l'.map dint)), .no, .no]) := by
    unfold l5
    refine Sh.lc_filS (os := [.at 12]) (ds := [.tuple (l'.map dint)]) (items := enumD 0 (l'.map dint)) (gtD l) fstD rfl rfl rfl rfl rfl rfl rfl (by rw [enumD_len, List.length_map]; omega) fun d hd => ?_
    obtain ⟨i, hi, rfl⟩ := enum_get dint hd
    refine ⟨_, .fz (.int (i : Int)), rfl, ?_, by simp, rfl, rfl⟩
    have ix : opIx [.tuple (l.map dint), .int (i : Int)] = some (.fz (.int ((l[i]?).getD 0))) := by
      rw [op_ixT, Sh.atI_nat, List.getElem?_map, List.getElem?_eq_getElem (show i < l.length by have := kl.len; omega)]
      rfl
    generalize l.map dint = Lt at ix
    simp [dint, ix, gtD, -op_ixT]
  have f4 : ∀ s12, r4 [s0, s1, s2, s3, .fz (.list (row.map eCm)), s5, .fz (.tuple [.tuple (u.places.map dstr), .tuple (u.sizes.map dint)]), .fz (.tuple (l.map dint)), .fz h'.enc, .fz (eBs bs'), .fz (Sn.enc ⟨ps', sz'⟩), .fz (.tuple [.tuple (u.places.map dstr), .tuple (u'.sizes.map dint)]), s12, .no, .no] = .ok (.nx, [s0, s1, s2, s3, .fz (.list (row.map eCm)), s5, .fz (.tuple [.tuple (u.places.map dstr), .tuple (u.sizes.map dint)]), .fz (.tuple (l.map dint)), .fz h'.enc, .fz (eBs bs'), .fz (Sn.enc ⟨ps', sz'⟩), .fz (.tuple [.tuple (u.places.map dstr), .tuple (u'.sizes.map dint)]), .fz (.tuple (l'.map dint)), .no, .no]) := fun s12 => by
    have ix0 : opIx [Sn.enc ⟨ps', sz'⟩, .int 0] = some (.fz (.tuple (ps'.map dstr))) := rfl
    have e4' : f_needs [h'.enc, eBs bs', .tuple (ps'.map dstr), .list (row.map eCm)] = .ok (.fz (.tuple (l'.map dint))) := e4
    generalize row.map eCm = R at e4'
    generalize PyData.tuple (ps'.map dstr) = PP at ix0 e4'
    generalize l'.map dint = Lt at e4'
    simp [r4, ix0, e4', -ix_s0]
  unfold qb1
  rw [ev_seq, f1]
  simp only [ev_bok]
  rw [ev_seq, f2]
  simp only [ev_bok]
  have f3 : ∀ s12, r3 [s0, s1, s2, s3, .fz (.list (row.map eCm)), s5, .fz (.tuple [.tuple (u.places.map dstr), .tuple (u.sizes.map dint)]), .fz (.tuple (l.map dint)), .fz h'.enc, .fz (eBs bs'), .fz (Sn.enc ⟨ps', sz'⟩), .fz (.tuple [.tuple (u.places.map dstr), .tuple (u'.sizes.map dint)]), s12, .no, .no] = .ok (.nx, [s0, s1, s2, s3, .fz (.list (row.map eCm)), s5, .fz (.tuple [.tuple (u.places.map dstr), .tuple (u.sizes.map dint)]), .fz (.tuple (l.map dint)), .fz h'.enc, .fz (eBs bs'), .fz (Sn.enc ⟨ps', sz'⟩), .fz (.tuple [.tuple (u.places.map dstr), .tuple (u'.sizes.map dint)]), s12, .no, .no]) := fun s12 => by
    have g := g3 s12
    generalize ((enumD 0 (u'.sizes.map dint)).filter (lessD u.sizes)).map fstD = W at g nl
    simp [r3, g, nl]
  rw [ev_seq, f3]
  simp only [ev_bok]
  rw [ev_seq, f4]
  simp only [ev_bok]
  generalize ((enumD 0 (l'.map dint)).filter (gtD l)).map fstD = W at g5 nm
  simp [r5, i1, g5, nm]
theorem loop1 (D : Da) : ∀ (L : List (Hs × List Int × Sn)) (sR s8 s9 s10 s11 s12 : Sl), sR.dat = some (.list (row.map eCm)) → (∀ q ∈ L, EasedOk h bs t q) → ∃ sR' s8' s9' s10' s11' s12', forL [.va D] [D] (.tp [.nm 8, .nm 9, .nm 10]) qb1 (L.map eHall) [s0, s1, s2, s3, sR, s5, .fz (lastP t (walkP h bs t row)).enc, .fz (.tuple (l.map dint)), s8, s9, s10, s11, s12, .no, .no] = .ok (.nx, [s0, s1, s2, s3, sR', s5, .fz (lastP t (walkP h bs t row)).enc, .fz (.tuple (l.map dint)), s8', s9', s10', s11', s12', .no, .no])
  | [], sR, s8, s9, s10, s11, s12, _, _ => ⟨sR, s8, s9, s10, s11, s12, by rw [List.map_nil, forL, if_pos (res_va _ _)]⟩
  | q :: L, sR, s8, s9, s10, s11, s12, hRR, hL => by
    obtain ⟨tR, t11, t12, hR2, e⟩ := turn1 kh kb kt hr hlr hcan hne (s0 := s0) (s1 := s1) (s2 := s2) (s3 := s3) (s5 := s5) hRR (hL q (by simp)) s11 s12
    obtain ⟨a, b, c, d, f, g, e2⟩ := loop1 D L tR (.fz q.1.enc) (.fz (eBs q.2.1)) (.fz q.2.2.enc) t11 t12 hR2 (fun p hp => hL p (by simp [hp]))
    refine ⟨a, b, c, d, f, g, ?_⟩
    rw [List.map_cons, forL, if_pos (res_va _ _)]
    have ha : asg (.tp [.nm 8, .nm 9, .nm 10]) (eHall q) [s0, s1, s2, s3, sR, s5, .fz (lastP t (walkP h bs t row)).enc, .fz (.tuple (l.map dint)), s8, s9, s10, s11, s12, .no, .no] = some [s0, s1, s2, s3, sR, s5, .fz (lastP t (walkP h bs t row)).enc, .fz (.tuple (l.map dint)), .fz q.1.enc, .fz (eBs q.2.1), .fz q.2.2.enc, s11, s12, .no, .no] := by simp [eHall]
    rw [ha]
    simp only [e, ev_bok]
    exact e2
end
theorem turn_ok (c : Int) (s1 s2 s3 s4 s5 s6 s7 s8 s9 s10 s11 s12 : Sl) : ∃ t2 t3 t4 t5 t6 t7 t8 t9 t10 t11 t12, mb_law [.no, .fz (.int c), s2, s3, s4, s5, s6, s7, s8, s9, s10, s11, s12, .no, .no] = .ok (.nx, [.no, .fz (.int c), t2, t3, t4, t5, t6, t7, t8, t9, t10, t11, t12, .no, .no]) := by
  obtain ⟨dk, e1, k1⟩ := e_deck c 5 5 (by decide) (by decide)
  obtain ⟨s, dk2, e2, ⟨h, bs, t, rfl, kh, kb, kt, _⟩, k2⟩ := e_hall 5 9 3 (by decide) (by decide) (by decide) (by decide) (by decide) (by decide) 5 dk (by decide) k1
  obtain ⟨s, dk3, e3, ⟨row0, rfl, hr0, hl0⟩, k3⟩ := e_row kh kb kt 25 (by decide) 76 dk2 (by decide) k2
  have e3' : f_law_row dk2 [h.enc, eBs bs, t.enc, .int 25] = .ok (.ow (.list (row0.map eCm)), dk3) := e3
  have e4 := e_law_gone kh kb.n3 kt hr0
  obtain ⟨s, dk4, e9, ⟨L, rfl, hL, _⟩, k4⟩ := e_eased kh kb kt (76 + (4 * 25 + 1)) dk3 (by decide) k3
  -- the row that can be gone
  have hrow : ∃ row : List (Nat × Str), RowOk h bs.length row ∧ row.length ≤ 60 ∧ canP h bs t row = true ∧ ∃ S5 S4, mSeq q4 q5 [.no, .fz (.int c), .ow (.list dk3), .fz (.tuple [h.enc, eBs bs, t.enc]), .ow (.list (row0.map eCm)), s5, s6, s7, s8, s9, s10, s11, s12, .no, .no] = .ok (.nx, [.no, .fz (.int c), .ow (.list dk3), .fz (.tuple [h.enc, eBs bs, t.enc]), S4, S5, s6, s7, s8, s9, s10, s11, s12, .no, .no]) ∧ S4.dat = some (.list (row.map eCm)) := by
    by_cases hq : (walkP h bs t row0).length = row0.length
    · rw [if_pos hq] at e4
      refine ⟨row0, hr0, by omega, decide_eq_true hq, ?_⟩
      generalize lastP t (walkP h bs t row0) = u at e4
      have i1 : u.enc.isInt = false := rfl
      have e4' : f_law_gone [h.enc, eBs bs, t.enc, .list (row0.map eCm)] = .ok (.fz (.tuple [.tuple (u.places.map dstr), .tuple (u.sizes.map dint)])) := e4
      generalize row0.map eCm = R at e4'
      generalize hU : [PyData.tuple (u.places.map dstr), PyData.tuple (u.sizes.map dint)] = U at e4'
      have i2 : (PyData.tuple U).isInt = false := rfl
      exact ⟨.fz (.tuple U), .fz (.list R), by simp [q4, q5, e4', i2], rfl⟩
    · rw [if_neg hq] at e4
      have hw := walk_len h bs row0 t
      refine ⟨row0.take (walkP h bs t row0).length, fun p hp => hr0 p (List.mem_of_mem_take hp), by rw [List.length_take]; omega, can_take h bs row0 t, ?_⟩
      have sh : opSlHi [.list (row0.map eCm), .int ((walkP h bs t row0).length : Int)] = some (.ow (.list ((row0.take (walkP h bs t row0).length).map eCm))) := by
        show some (Sl.ow (.list (cutD (row0.map eCm) none (some ((walkP h bs t row0).length : Int))))) = _
        rw [Sh.cutD_hi, List.map_take]
      generalize (row0.take (walkP h bs t row0).length).map eCm = R2 at sh
      generalize row0.map eCm = R at e4 sh
      generalize ((walkP h bs t row0).length : Int) = v at e4 sh
      have i2 : (PyData.int v).isInt = true := rfl
      exact ⟨.fz (.int v), .ow (.list R2), by simp [q4, q5, e4, i2, sh], rfl⟩
  obtain ⟨row, hr, hl, hcan, S5, S4, e45, hS4⟩ := hrow
  have hb : ∀ b ∈ bs, 0 ≤ b := fun b hb => (kb.size b hb).1
  obtain ⟨l, hne, _⟩ := (needs_spec kh hb row t.places t.sizes hr kt).mp hcan
  have e6 := e_gone kh kb.n3 kb kt hr hl
  rw [if_pos (of_decide_eq_true hcan)] at e6
  have e7 := e_needs kh kb kt.pn kt.pl hr hl
  rw [hne] at e7
  have e7' : f_needs [h.enc, eBs bs, .tuple (t.places.map dstr), .list (row.map eCm)] = .ok (.fz (.tuple (l.map dint))) := e7
  have f67 : ∃ S4', S4'.dat = some (.list (row.map eCm)) ∧ mSeq q6 (mSeq q7 (mSeq q8 q9)) [.no, .fz (.int c), .ow (.list dk3), .fz (.tuple [h.enc, eBs bs, t.enc]), S4, S5, s6, s7, s8, s9, s10, s11, s12, .no, .no] = q9 [.no, .fz (.int c), .ow (.list dk3), .fz (.tuple [h.enc, eBs bs, t.enc]), S4', S5, .fz (lastP t (walkP h bs t row)).enc, .fz (.tuple (l.map dint)), s8, s9, s10, s11, s12, .no, .no] := by
    refine ⟨.fz (.list (row.map eCm)), rfl, ?_⟩
    have hu : (lastP t (walkP h bs t row)).enc = .tuple [.tuple ((lastP t (walkP h bs t row)).places.map dstr), .tuple ((lastP t (walkP h bs t row)).sizes.map dint)] := rfl
    rw [hu] at e6 ⊢
    generalize [PyData.tuple ((lastP t (walkP h bs t row)).places.map dstr), PyData.tuple ((lastP t (walkP h bs t row)).sizes.map dint)] = U at e6
    generalize row.map eCm = R at e6 e7' hS4
    have ix0 : opIx [t.enc, .int 0] = some (.fz (.tuple (t.places.map dstr))) := rfl
    generalize PyData.tuple (t.places.map dstr) = PP at e7' ix0
    generalize l.map dint = Lt at e7'
    have i1 : ∀ ds : List Da, opIs [.tuple ds, .none] = some (.fz (.bool false)) := fun _ => rfl
    cases S4 with
    | no => cases hS4
    | fz d =>
      cases hS4
      simp [q6, q7, q8, e6, e7', ix0, i1, -ix_s0]
    | ow d =>
      cases hS4
      simp [q6, q7, q8, e6, e7', ix0, i1, -ix_s0]
  obtain ⟨S4', hS4', e67⟩ := f67
  obtain ⟨a4, a8, a9, a10, a11, a12, eL⟩ := loop1 kh kb kt hr hl hcan hne (s0 := .no) (s1 := .fz (.int c)) (s2 := .ow (.list dk4)) (s3 := .fz (.tuple [h.enc, eBs bs, t.enc])) (s5 := S5) hS4' (.list (L.map eHall)) L S4' s8 s9 s10 s11 s12 hS4' hL
  refine ⟨.ow (.list dk4), .fz (.tuple [h.enc, eBs bs, t.enc]), a4, S5, .fz (lastP t (walkP h bs t row)).enc, .fz (.tuple (l.map dint)), a8, a9, a10, a11, a12, ?_⟩
  rw [q_split]
  have f1 : q1 [.no, .fz (.int c), s2, s3, s4, s5, s6, s7, s8, s9, s10, s11, s12, .no, .no] = .ok (.nx, [.no, .fz (.int c), .ow (.list dk), s3, s4, s5, s6, s7, s8, s9, s10, s11, s12, .no, .no]) := by
    simp [q1, e1]
  have f2 : q2 [.no, .fz (.int c), .ow (.list dk), s3, s4, s5, s6, s7, s8, s9, s10, s11, s12, .no, .no] = .ok (.nx, [.no, .fz (.int c), .ow (.list dk2), .fz (.tuple [h.enc, eBs bs, t.enc]), s4, s5, s6, s7, s8, s9, s10, s11, s12, .no, .no]) := by
    simp [q2, e2]
  have f3 : q3 [.no, .fz (.int c), .ow (.list dk2), .fz (.tuple [h.enc, eBs bs, t.enc]), s4, s5, s6, s7, s8, s9, s10, s11, s12, .no, .no] = .ok (.nx, [.no, .fz (.int c), .ow (.list dk3), .fz (.tuple [h.enc, eBs bs, t.enc]), .ow (.list (row0.map eCm)), s5, s6, s7, s8, s9, s10, s11, s12, .no, .no]) := by
    simp [q3, e3']
  have hassoc : ∀ (a b n : MS) (en : En), mSeq a (mSeq b n) en = mSeq (mSeq a b) n en := fun a b n en => by
    rw [ev_seq, ev_seq, ev_seq]
    cases a en with
    | bad => rfl
    | ex e => rfl
    | ok p =>
      obtain ⟨f, en1⟩ := p
      cases f with
      | nx => simp
      | rt s => simp
  rw [ev_seq, f1]
  simp only [ev_bok]
  rw [ev_seq, f2]
  simp only [ev_bok]
  rw [ev_seq, f3]
  simp only [ev_bok]
  rw [hassoc, ev_seq, e45]
  simp only [ev_bok]
  rw [e67]
  have hop : evalOps [.ex (mCallD (f_law_eased) 2 [.sl 3])] [.no, .fz (.int c), .ow (.list dk3), .fz (.tuple [h.enc, eBs bs, t.enc]), S4', S5, .fz (lastP t (walkP h bs t row)).enc, .fz (.tuple (l.map dint)), s8, s9, s10, s11, s12, .no, .no] = .ok ([.va (.list (L.map eHall))], [.no, .fz (.int c), .ow (.list dk4), .fz (.tuple [h.enc, eBs bs, t.enc]), S4', S5, .fz (lastP t (walkP h bs t row)).enc, .fz (.tuple (l.map dint)), s8, s9, s10, s11, s12, .no, .no]) := by
    generalize L.map eHall = LL at e9
    simp [e9]
  exact mfor_of (it := ⟨[.ex (mCallD (f_law_eased) 2 [.sl 3])], itSeq⟩) hop rfl rfl eL
theorem math (ns : List Int) (_ : ns.length ≤ 63) : ∃ en, m_law ns (List.replicate 15 .no) = .ok (.rt (.fz (.bool true)), en) := by
  obtain ⟨en', e, _⟩ := law_loop (mb := mb_law) (N := 15) (fun en => ∃ s1 s2 s3 s4 s5 s6 s7 s8 s9 s10 s11 s12, en = [.no, s1, s2, s3, s4, s5, s6, s7, s8, s9, s10, s11, s12, .no, .no]) (fun c en hI => by
    obtain ⟨s1, s2, s3, s4, s5, s6, s7, s8, s9, s10, s11, s12, rfl⟩ := hI
    obtain ⟨t2, t3, t4, t5, t6, t7, t8, t9, t10, t11, t12, e⟩ := turn_ok c s1 s2 s3 s4 s5 s6 s7 s8 s9 s10 s11 s12
    exact ⟨_, e, _, t2, t3, t4, t5, t6, t7, t8, t9, t10, t11, t12, rfl⟩) ns 12 ⟨_, _, _, _, _, _, _, _, _, _, _, _, rfl⟩
  refine ⟨en', ?_⟩
  unfold m_law me_law
  rw [ev_seq]
  have e' : mFor ⟨[.ex (mScr (cutD ((0 :: ns).map PyData.int) none (some 12)))], itSeq⟩ (.nm 1) mb_law (List.replicate 15 .no) = .ok (.nx, en') := e
  rw [e']
  simp
end K05
set_option Elab.async false
set_option linter.all false
set_option maxRecDepth 100000
set_option autoImplicit false
set_option maxHeartbeats 0
namespace K05
open PySem PySem.Spec PyProof.Rows L2 Sh Mi
section
variable {P : Program} {K : PySem.W.Frag} {mg : Str → Option Value} {base : Heap} {c : Gc}
theorem d_all {f : Addr} {fd : FuncData} (T : Tops K mg) (F : FnP K "law" s_law f fd) (hm : ∀ ns : List Int, ns.length ≤ 63 → ∃ en, m_law ns (List.replicate 15 .no) = .ok (.rt (.fz (.bool true)), en)) : FnOk P c.w K mg base CX0 8 f fd ["script"] (spLaw K) := by
  have h_is_from : Dfn P c.w K mg base "is_from" (1) ["thing", "low", "high"] (spP c 3 (f_is_from)) := d_is_from T
  have h_is_name : Dfn P c.w K mg base "is_name" (1) ["thing"] (spP c 1 (f_is_name)) := d_is_name T
  have h_is_rising : Dfn P c.w K mg base "is_rising" (1) ["things"] (spP c 1 (f_is_rising)) := d_is_rising T
  have h_are_rows : Dfn P c.w K mg base "are_rows" (1) ["thing", "size", "most"] (spP c 3 (f_are_rows)) := d_are_rows T
  have h_are_rooms : Dfn P c.w K mg base "are_rooms" (2) ["thing"] (spP c 1 (f_are_rooms)) := d_are_rooms T h_are_rows h_is_from h_is_name h_is_rising
  have h_is_one_of : Dfn P c.w K mg base "is_one_of" (1) ["thing", "names"] (spP c 2 (f_is_one_of)) := d_is_one_of T
  have h_is_house : Dfn P c.w K mg base "is_house" (3) ["thing"] (spP c 1 (f_is_house)) := d_is_house T h_are_rooms h_are_rows h_is_from h_is_one_of h_is_rising
  have h_are_bearers : Dfn P c.w K mg base "are_bearers" (2) ["thing"] (spP c 1 (f_are_bearers)) := d_are_bearers T h_is_from
  have h_names_of : Dfn P c.w K mg base "names_of" (1) ["house"] (spP c 1 (f_names_of)) := d_names_of T
  have h_are_places : Dfn P c.w K mg base "are_places" (2) ["house", "bearers", "thing"] (spP c 3 (f_are_places)) := d_are_places T h_is_one_of h_names_of
  have h_is_standing : Dfn P c.w K mg base "is_standing" (3) ["house", "bearers", "thing"] (spP c 3 (f_is_standing)) := d_is_standing T h_are_places h_is_from
  have h_need_house : Dfn P c.w K mg base "need_house" (4) ["house"] (spP c 1 (f_need_house)) := d_need_house T h_is_house
  have h_need_bearers : Dfn P c.w K mg base "need_bearers" (5) ["house", "bearers"] (spP c 2 (f_need_bearers)) := d_need_bearers T h_are_bearers h_need_house
  have h_need_stand : Dfn P c.w K mg base "need_stand" (6) ["house", "bearers", "stand"] (spP c 3 (f_need_stand)) := d_need_stand T h_is_standing h_need_bearers
  have h_need_places : Dfn P c.w K mg base "need_places" (6) ["house", "bearers", "places"] (spP c 3 (f_need_places)) := d_need_places T h_are_places h_need_bearers
  have h_are_near : Dfn P c.w K mg base "are_near" (1) ["house", "one", "other"] (spP c 3 (f_are_near)) := d_are_near T
  have h_gained : Dfn P c.w K mg base "gained" (2) ["house", "sizes", "left"] (spP c 3 (f_gained)) := d_gained T h_names_of
  have h_come : Dfn P c.w K mg base "come" (3) ["house", "bearers", "stand", "bearer", "name"] (spP c 5 (f_come)) := d_come T h_are_near h_gained h_names_of
  have h_is_coming : Dfn P c.w K mg base "is_coming" (2) ["house", "bearers", "thing"] (spP c 3 (f_is_coming)) := d_is_coming T h_is_from h_is_one_of h_names_of
  have h_is_row : Dfn P c.w K mg base "is_row" (3) ["house", "bearers", "thing"] (spP c 3 (f_is_row)) := d_is_row T h_is_coming
  have h_need_row : Dfn P c.w K mg base "need_row" (4) ["house", "bearers", "row"] (spP c 3 (f_need_row)) := d_need_row T h_is_row
  have h_walked : Dfn P c.w K mg base "walked" (4) ["house", "bearers", "stand", "row"] (spP c 4 (f_walked)) := d_walked T h_come
  have h_gone : Dfn P c.w K mg base "gone" (7) ["house", "bearers", "stand", "row"] (spP c 4 (f_gone)) := d_gone T h_need_row h_need_stand h_walked
  have h_along : Dfn P c.w K mg base "along" (1) ["places", "row"] (spP c 2 (f_along)) := d_along T
  have h_needs : Dfn P c.w K mg base "needs" (7) ["house", "bearers", "places", "row"] (spP c 4 (f_needs)) := d_needs T h_along h_are_near h_names_of h_need_places h_need_row
  have h_law_deck : Dfn P c.w K mg base "_law_deck" (1) ["cell", "turn"] (spP c 2 (f_law_deck)) := d_law_deck T
  have h_law_pick : Dfn P c.w K mg base "_law_pick" (1) ["deck", "size"] (spD c 2 (f_law_pick)) := d_law_pick T
  have h_law_one : Dfn P c.w K mg base "_law_one" (2) ["deck", "some"] (spD c 2 (f_law_one)) := d_law_one T h_law_pick
  have h_law_house : Dfn P c.w K mg base "_law_house" (3) ["deck", "most", "cap_most"] (spD c 3 (f_law_house)) := d_law_house T h_law_one h_law_pick
  have h_law_bearers : Dfn P c.w K mg base "_law_bearers" (3) ["deck", "most"] (spD c 2 (f_law_bearers)) := d_law_bearers T h_law_one h_law_pick
  have h_law_places : Dfn P c.w K mg base "_law_places" (3) ["deck", "house", "bearers"] (spD c 3 (f_law_places)) := d_law_places T h_law_one
  have h_law_stand : Dfn P c.w K mg base "_law_stand" (4) ["deck", "house", "bearers"] (spD c 3 (f_law_stand)) := d_law_stand T h_law_one h_law_pick h_law_places
  have h_law_hall : Dfn P c.w K mg base "_law_hall" (5) ["deck", "most", "cap_most", "bearers_most"] (spD c 4 (f_law_hall)) := d_law_hall T h_law_bearers h_law_house h_law_stand
  have h_law_come : Dfn P c.w K mg base "_law_come" (1) ["house", "bearers", "stand", "bearer", "name"] (spP c 5 (f_law_come)) := d_law_come T
  have h_law_nexts : Dfn P c.w K mg base "_law_nexts" (2) ["house", "bearers", "stand"] (spP c 3 (f_law_nexts)) := d_law_nexts T h_law_come
  have h_law_gone : Dfn P c.w K mg base "_law_gone" (2) ["house", "bearers", "stand", "row"] (spP c 4 (f_law_gone)) := d_law_gone T h_law_come
  have h_law_row : Dfn P c.w K mg base "_law_row" (3) ["deck", "house", "bearers", "stand", "most"] (spD c 5 (f_law_row)) := d_law_row T h_law_come h_law_nexts h_law_one h_law_pick
  have h_law_eased : Dfn P c.w K mg base "_law_eased" (2) ["deck", "hall"] (spD c 2 (f_law_eased)) := d_law_eased T h_law_pick
  exact d_law T F h_law_deck h_law_eased h_law_gone h_law_hall h_law_row h_gone h_needs hm
end
def w_is_from : He.DefD := ⟨("is_from", none), "is_from", "is_from", defArgs s_is_from, defBody s_is_from, defScope s_is_from, [], []⟩
def w_is_name : He.DefD := ⟨("is_name", none), "is_name", "is_name", defArgs s_is_name, defBody s_is_name, defScope s_is_name, [], []⟩
def w_is_rising : He.DefD := ⟨("is_rising", none), "is_rising", "is_rising", defArgs s_is_rising, defBody s_is_rising, defScope s_is_rising, [], []⟩
def w_are_rows : He.DefD := ⟨("are_rows", none), "are_rows", "are_rows", defArgs s_are_rows, defBody s_are_rows, defScope s_are_rows, [], []⟩
def w_are_rooms : He.DefD := ⟨("are_rooms", none), "are_rooms", "are_rooms", defArgs s_are_rooms, defBody s_are_rooms, defScope s_are_rooms, [], []⟩
def w_is_one_of : He.DefD := ⟨("is_one_of", none), "is_one_of", "is_one_of", defArgs s_is_one_of, defBody s_is_one_of, defScope s_is_one_of, [], []⟩
def w_is_house : He.DefD := ⟨("is_house", none), "is_house", "is_house", defArgs s_is_house, defBody s_is_house, defScope s_is_house, [], []⟩
def w_are_bearers : He.DefD := ⟨("are_bearers", none), "are_bearers", "are_bearers", defArgs s_are_bearers, defBody s_are_bearers, defScope s_are_bearers, [], []⟩
def w_names_of : He.DefD := ⟨("names_of", none), "names_of", "names_of", defArgs s_names_of, defBody s_names_of, defScope s_names_of, [], []⟩
def w_are_places : He.DefD := ⟨("are_places", none), "are_places", "are_places", defArgs s_are_places, defBody s_are_places, defScope s_are_places, [], []⟩
def w_is_standing : He.DefD := ⟨("is_standing", none), "is_standing", "is_standing", defArgs s_is_standing, defBody s_is_standing, defScope s_is_standing, [], []⟩
def w_need_house : He.DefD := ⟨("need_house", none), "need_house", "need_house", defArgs s_need_house, defBody s_need_house, defScope s_need_house, [], []⟩
def w_need_bearers : He.DefD := ⟨("need_bearers", none), "need_bearers", "need_bearers", defArgs s_need_bearers, defBody s_need_bearers, defScope s_need_bearers, [], []⟩
def w_need_stand : He.DefD := ⟨("need_stand", none), "need_stand", "need_stand", defArgs s_need_stand, defBody s_need_stand, defScope s_need_stand, [], []⟩
def w_need_places : He.DefD := ⟨("need_places", none), "need_places", "need_places", defArgs s_need_places, defBody s_need_places, defScope s_need_places, [], []⟩
def w_are_near : He.DefD := ⟨("are_near", none), "are_near", "are_near", defArgs s_are_near, defBody s_are_near, defScope s_are_near, [], []⟩
def w_gained : He.DefD := ⟨("gained", none), "gained", "gained", defArgs s_gained, defBody s_gained, defScope s_gained, [], []⟩
def w_come : He.DefD := ⟨("come", none), "come", "come", defArgs s_come, defBody s_come, defScope s_come, [], []⟩
def w_is_coming : He.DefD := ⟨("is_coming", none), "is_coming", "is_coming", defArgs s_is_coming, defBody s_is_coming, defScope s_is_coming, [], []⟩
def w_is_row : He.DefD := ⟨("is_row", none), "is_row", "is_row", defArgs s_is_row, defBody s_is_row, defScope s_is_row, [], []⟩
def w_need_row : He.DefD := ⟨("need_row", none), "need_row", "need_row", defArgs s_need_row, defBody s_need_row, defScope s_need_row, [], []⟩
def w_walked : He.DefD := ⟨("walked", none), "walked", "walked", defArgs s_walked, defBody s_walked, defScope s_walked, [], []⟩
def w_gone : He.DefD := ⟨("gone", none), "gone", "gone", defArgs s_gone, defBody s_gone, defScope s_gone, [], []⟩
def w_along : He.DefD := ⟨("along", none), "along", "along", defArgs s_along, defBody s_along, defScope s_along, [], []⟩
def w_needs : He.DefD := ⟨("needs", none), "needs", "needs", defArgs s_needs, defBody s_needs, defScope s_needs, [], []⟩
def w_law_deck : He.DefD := ⟨("_law_deck", none), "_law_deck", "_law_deck", defArgs s_law_deck, defBody s_law_deck, defScope s_law_deck, [], []⟩
def w_law_pick : He.DefD := ⟨("_law_pick", none), "_law_pick", "_law_pick", defArgs s_law_pick, defBody s_law_pick, defScope s_law_pick, [], []⟩
def w_law_one : He.DefD := ⟨("_law_one", none), "_law_one", "_law_one", defArgs s_law_one, defBody s_law_one, defScope s_law_one, [], []⟩
def w_law_house : He.DefD := ⟨("_law_house", none), "_law_house", "_law_house", defArgs s_law_house, defBody s_law_house, defScope s_law_house, [], []⟩
def w_law_bearers : He.DefD := ⟨("_law_bearers", none), "_law_bearers", "_law_bearers", defArgs s_law_bearers, defBody s_law_bearers, defScope s_law_bearers, [], []⟩
def w_law_places : He.DefD := ⟨("_law_places", none), "_law_places", "_law_places", defArgs s_law_places, defBody s_law_places, defScope s_law_places, [], []⟩
def w_law_stand : He.DefD := ⟨("_law_stand", none), "_law_stand", "_law_stand", defArgs s_law_stand, defBody s_law_stand, defScope s_law_stand, [], []⟩
def w_law_hall : He.DefD := ⟨("_law_hall", none), "_law_hall", "_law_hall", defArgs s_law_hall, defBody s_law_hall, defScope s_law_hall, [], []⟩
def w_law_come : He.DefD := ⟨("_law_come", none), "_law_come", "_law_come", defArgs s_law_come, defBody s_law_come, defScope s_law_come, [], []⟩
def w_law_nexts : He.DefD := ⟨("_law_nexts", none), "_law_nexts", "_law_nexts", defArgs s_law_nexts, defBody s_law_nexts, defScope s_law_nexts, [], []⟩
def w_law_gone : He.DefD := ⟨("_law_gone", none), "_law_gone", "_law_gone", defArgs s_law_gone, defBody s_law_gone, defScope s_law_gone, [], []⟩
def w_law_row : He.DefD := ⟨("_law_row", none), "_law_row", "_law_row", defArgs s_law_row, defBody s_law_row, defScope s_law_row, [], []⟩
def w_law_eased : He.DefD := ⟨("_law_eased", none), "_law_eased", "_law_eased", defArgs s_law_eased, defBody s_law_eased, defScope s_law_eased, [], []⟩
def w_law : He.DefD := ⟨("law", none), "law", "law", defArgs s_law, defBody s_law, defScope s_law, [], []⟩
def fnl : List He.DefD := [w_is_from, w_is_name, w_is_rising, w_are_rows, w_are_rooms, w_is_one_of, w_is_house, w_are_bearers, w_names_of, w_are_places, w_is_standing, w_need_house, w_need_bearers, w_need_stand, w_need_places, w_are_near, w_gained, w_come, w_is_coming, w_is_row, w_need_row, w_walked, w_gone, w_along, w_needs, w_law_deck, w_law_pick, w_law_one, w_law_house, w_law_bearers, w_law_places, w_law_stand, w_law_hall, w_law_come, w_law_nexts, w_law_gone, w_law_row, w_law_eased, w_law]
def fal : List He.Fa := [.glo "is_from", .glo "is_name", .glo "is_rising", .glo "are_rows", .glo "are_rooms", .glo "is_one_of", .glo "is_house", .glo "are_bearers", .glo "names_of", .glo "are_places", .glo "is_standing", .glo "need_house", .glo "need_bearers", .glo "need_stand", .glo "need_places", .glo "are_near", .glo "gained", .glo "come", .glo "is_coming", .glo "is_row", .glo "need_row", .glo "walked", .glo "gone", .glo "along", .glo "needs", .glo "_law_deck", .glo "_law_pick", .glo "_law_one", .glo "_law_house", .glo "_law_bearers", .glo "_law_places", .glo "_law_stand", .glo "_law_hall", .glo "_law_come", .glo "_law_nexts", .glo "_law_gone", .glo "_law_row", .glo "_law_eased", .glo "law", .free "all", .free "bool", .free "dict", .free "enumerate", .free "int", .free "isinstance", .free "len", .free "list", .free "max", .free "min", .free "range", .free "sorted", .free "str", .free "sum", .free "tuple", .free "zip", .str "LETTERS" "abcdefghijklmnopqrstuvwxyz", .int "MOST" 9, .int "MOST_BEARERS" 3, .int "MOST_COMINGS" 60, .int "MOST_GAINS" 10, .int "MOST_ROOMS" 5]
abbrev R : PySem.W.OpenRow := PySem.W.OpenLaw.row PySem.Challenge.rw_shrinkhall_k05_whole_more_room_lets_more
abbrev hk : PySem.W.Hook := He.hookD 4 fal fnl
def ob (s : PySem.W.SharedT) : He.AlD := He.obsDG 4 fal fnl (HandSHeadRun.getT s)
theorem ob_eq (s : PySem.W.SharedT) : ob s = hk.obs s.abs := He.obsDG_eq (HandSHeadRun.getT_eq s)
def loose0 : List Str := ["HallError", "NoHouse", "NoBearers", "NoStand", "NoPlaces", "NoRow", "LETTERS", "MOST", "MOST_ROOMS", "MOST_GAINS", "MOST_BEARERS", "is_from", "is_name", "is_rising", "are_rows", "are_rooms", "is_one_of", "is_house", "are_bearers", "names_of", "are_places", "is_standing", "need_house", "need_bearers", "need_stand"]
def loose1 : List Str := ["need_places", "MOST_COMINGS", "are_near", "gained", "come", "is_coming", "is_row", "need_row", "walked", "gone", "along", "needs", "_law_deck", "_law_pick", "_law_one", "_law_house", "_law_bearers", "_law_places", "_law_stand", "_law_hall", "_law_come", "_law_nexts", "_law_gone", "_law_row", "_law_eased"]
def loose : List Str := loose0 ++ loose1
theorem run (w : World) : HandSHeadRun.RunEq R (PySem.W.view R.prog [54]) hk ob 4000 loose w := by
  intro os
  kernel_rfl
theorem tops {K : PySem.W.Frag} {h : Heap} {mg : Str → Option Value} (X : K.In h) (G : h.Ns mainGlobals mg) (k : He.SaysD fal fnl K) : Tops K mg where
  b_all := He.free_ok X G (k.fact 39 (f := .free "all") rfl)
  b_bool := He.free_ok X G (k.fact 40 (f := .free "bool") rfl)
  b_dict := He.free_ok X G (k.fact 41 (f := .free "dict") rfl)
  b_enumerate := He.free_ok X G (k.fact 42 (f := .free "enumerate") rfl)
  b_int := He.free_ok X G (k.fact 43 (f := .free "int") rfl)
  b_isinstance := He.free_ok X G (k.fact 44 (f := .free "isinstance") rfl)
  b_len := He.free_ok X G (k.fact 45 (f := .free "len") rfl)
  b_list := He.free_ok X G (k.fact 46 (f := .free "list") rfl)
  b_max := He.free_ok X G (k.fact 47 (f := .free "max") rfl)
  b_min := He.free_ok X G (k.fact 48 (f := .free "min") rfl)
  b_range := He.free_ok X G (k.fact 49 (f := .free "range") rfl)
  b_sorted := He.free_ok X G (k.fact 50 (f := .free "sorted") rfl)
  b_str := He.free_ok X G (k.fact 51 (f := .free "str") rfl)
  b_sum := He.free_ok X G (k.fact 52 (f := .free "sum") rfl)
  b_tuple := He.free_ok X G (k.fact 53 (f := .free "tuple") rfl)
  b_zip := He.free_ok X G (k.fact 54 (f := .free "zip") rfl)
  c_LETTERS := He.str_ok X G (k.fact 55 (f := .str "LETTERS" "abcdefghijklmnopqrstuvwxyz") rfl)
  c_MOST := He.int_ok X G (k.fact 56 (f := .int "MOST" 9) rfl)
  c_MOST_BEARERS := He.int_ok X G (k.fact 57 (f := .int "MOST_BEARERS" 3) rfl)
  c_MOST_COMINGS := He.int_ok X G (k.fact 58 (f := .int "MOST_COMINGS" 60) rfl)
  c_MOST_GAINS := He.int_ok X G (k.fact 59 (f := .int "MOST_GAINS" 10) rfl)
  c_MOST_ROOMS := He.int_ok X G (k.fact 60 (f := .int "MOST_ROOMS" 5) rfl)
  d_is_from := ⟨let ⟨fd, F⟩ := k.def_ 0 (d := w_is_from) rfl; ⟨_, fd, F, He.glo_ok X G (k.fact 0 (f := .glo "is_from") rfl)⟩⟩
  d_is_name := ⟨let ⟨fd, F⟩ := k.def_ 1 (d := w_is_name) rfl; ⟨_, fd, F, He.glo_ok X G (k.fact 1 (f := .glo "is_name") rfl)⟩⟩
  d_is_rising := ⟨let ⟨fd, F⟩ := k.def_ 2 (d := w_is_rising) rfl; ⟨_, fd, F, He.glo_ok X G (k.fact 2 (f := .glo "is_rising") rfl)⟩⟩
  d_are_rows := ⟨let ⟨fd, F⟩ := k.def_ 3 (d := w_are_rows) rfl; ⟨_, fd, F, He.glo_ok X G (k.fact 3 (f := .glo "are_rows") rfl)⟩⟩
  d_are_rooms := ⟨let ⟨fd, F⟩ := k.def_ 4 (d := w_are_rooms) rfl; ⟨_, fd, F, He.glo_ok X G (k.fact 4 (f := .glo "are_rooms") rfl)⟩⟩
  d_is_one_of := ⟨let ⟨fd, F⟩ := k.def_ 5 (d := w_is_one_of) rfl; ⟨_, fd, F, He.glo_ok X G (k.fact 5 (f := .glo "is_one_of") rfl)⟩⟩
  d_is_house := ⟨let ⟨fd, F⟩ := k.def_ 6 (d := w_is_house) rfl; ⟨_, fd, F, He.glo_ok X G (k.fact 6 (f := .glo "is_house") rfl)⟩⟩
  d_are_bearers := ⟨let ⟨fd, F⟩ := k.def_ 7 (d := w_are_bearers) rfl; ⟨_, fd, F, He.glo_ok X G (k.fact 7 (f := .glo "are_bearers") rfl)⟩⟩
  d_names_of := ⟨let ⟨fd, F⟩ := k.def_ 8 (d := w_names_of) rfl; ⟨_, fd, F, He.glo_ok X G (k.fact 8 (f := .glo "names_of") rfl)⟩⟩
  d_are_places := ⟨let ⟨fd, F⟩ := k.def_ 9 (d := w_are_places) rfl; ⟨_, fd, F, He.glo_ok X G (k.fact 9 (f := .glo "are_places") rfl)⟩⟩
  d_is_standing := ⟨let ⟨fd, F⟩ := k.def_ 10 (d := w_is_standing) rfl; ⟨_, fd, F, He.glo_ok X G (k.fact 10 (f := .glo "is_standing") rfl)⟩⟩
  d_need_house := ⟨let ⟨fd, F⟩ := k.def_ 11 (d := w_need_house) rfl; ⟨_, fd, F, He.glo_ok X G (k.fact 11 (f := .glo "need_house") rfl)⟩⟩
  d_need_bearers := ⟨let ⟨fd, F⟩ := k.def_ 12 (d := w_need_bearers) rfl; ⟨_, fd, F, He.glo_ok X G (k.fact 12 (f := .glo "need_bearers") rfl)⟩⟩
  d_need_stand := ⟨let ⟨fd, F⟩ := k.def_ 13 (d := w_need_stand) rfl; ⟨_, fd, F, He.glo_ok X G (k.fact 13 (f := .glo "need_stand") rfl)⟩⟩
  d_need_places := ⟨let ⟨fd, F⟩ := k.def_ 14 (d := w_need_places) rfl; ⟨_, fd, F, He.glo_ok X G (k.fact 14 (f := .glo "need_places") rfl)⟩⟩
  d_are_near := ⟨let ⟨fd, F⟩ := k.def_ 15 (d := w_are_near) rfl; ⟨_, fd, F, He.glo_ok X G (k.fact 15 (f := .glo "are_near") rfl)⟩⟩
  d_gained := ⟨let ⟨fd, F⟩ := k.def_ 16 (d := w_gained) rfl; ⟨_, fd, F, He.glo_ok X G (k.fact 16 (f := .glo "gained") rfl)⟩⟩
  d_come := ⟨let ⟨fd, F⟩ := k.def_ 17 (d := w_come) rfl; ⟨_, fd, F, He.glo_ok X G (k.fact 17 (f := .glo "come") rfl)⟩⟩
  d_is_coming := ⟨let ⟨fd, F⟩ := k.def_ 18 (d := w_is_coming) rfl; ⟨_, fd, F, He.glo_ok X G (k.fact 18 (f := .glo "is_coming") rfl)⟩⟩
  d_is_row := ⟨let ⟨fd, F⟩ := k.def_ 19 (d := w_is_row) rfl; ⟨_, fd, F, He.glo_ok X G (k.fact 19 (f := .glo "is_row") rfl)⟩⟩
  d_need_row := ⟨let ⟨fd, F⟩ := k.def_ 20 (d := w_need_row) rfl; ⟨_, fd, F, He.glo_ok X G (k.fact 20 (f := .glo "need_row") rfl)⟩⟩
  d_walked := ⟨let ⟨fd, F⟩ := k.def_ 21 (d := w_walked) rfl; ⟨_, fd, F, He.glo_ok X G (k.fact 21 (f := .glo "walked") rfl)⟩⟩
  d_gone := ⟨let ⟨fd, F⟩ := k.def_ 22 (d := w_gone) rfl; ⟨_, fd, F, He.glo_ok X G (k.fact 22 (f := .glo "gone") rfl)⟩⟩
  d_along := ⟨let ⟨fd, F⟩ := k.def_ 23 (d := w_along) rfl; ⟨_, fd, F, He.glo_ok X G (k.fact 23 (f := .glo "along") rfl)⟩⟩
  d_needs := ⟨let ⟨fd, F⟩ := k.def_ 24 (d := w_needs) rfl; ⟨_, fd, F, He.glo_ok X G (k.fact 24 (f := .glo "needs") rfl)⟩⟩
  d_law_deck := ⟨let ⟨fd, F⟩ := k.def_ 25 (d := w_law_deck) rfl; ⟨_, fd, F, He.glo_ok X G (k.fact 25 (f := .glo "_law_deck") rfl)⟩⟩
  d_law_pick := ⟨let ⟨fd, F⟩ := k.def_ 26 (d := w_law_pick) rfl; ⟨_, fd, F, He.glo_ok X G (k.fact 26 (f := .glo "_law_pick") rfl)⟩⟩
  d_law_one := ⟨let ⟨fd, F⟩ := k.def_ 27 (d := w_law_one) rfl; ⟨_, fd, F, He.glo_ok X G (k.fact 27 (f := .glo "_law_one") rfl)⟩⟩
  d_law_house := ⟨let ⟨fd, F⟩ := k.def_ 28 (d := w_law_house) rfl; ⟨_, fd, F, He.glo_ok X G (k.fact 28 (f := .glo "_law_house") rfl)⟩⟩
  d_law_bearers := ⟨let ⟨fd, F⟩ := k.def_ 29 (d := w_law_bearers) rfl; ⟨_, fd, F, He.glo_ok X G (k.fact 29 (f := .glo "_law_bearers") rfl)⟩⟩
  d_law_places := ⟨let ⟨fd, F⟩ := k.def_ 30 (d := w_law_places) rfl; ⟨_, fd, F, He.glo_ok X G (k.fact 30 (f := .glo "_law_places") rfl)⟩⟩
  d_law_stand := ⟨let ⟨fd, F⟩ := k.def_ 31 (d := w_law_stand) rfl; ⟨_, fd, F, He.glo_ok X G (k.fact 31 (f := .glo "_law_stand") rfl)⟩⟩
  d_law_hall := ⟨let ⟨fd, F⟩ := k.def_ 32 (d := w_law_hall) rfl; ⟨_, fd, F, He.glo_ok X G (k.fact 32 (f := .glo "_law_hall") rfl)⟩⟩
  d_law_come := ⟨let ⟨fd, F⟩ := k.def_ 33 (d := w_law_come) rfl; ⟨_, fd, F, He.glo_ok X G (k.fact 33 (f := .glo "_law_come") rfl)⟩⟩
  d_law_nexts := ⟨let ⟨fd, F⟩ := k.def_ 34 (d := w_law_nexts) rfl; ⟨_, fd, F, He.glo_ok X G (k.fact 34 (f := .glo "_law_nexts") rfl)⟩⟩
  d_law_gone := ⟨let ⟨fd, F⟩ := k.def_ 35 (d := w_law_gone) rfl; ⟨_, fd, F, He.glo_ok X G (k.fact 35 (f := .glo "_law_gone") rfl)⟩⟩
  d_law_row := ⟨let ⟨fd, F⟩ := k.def_ 36 (d := w_law_row) rfl; ⟨_, fd, F, He.glo_ok X G (k.fact 36 (f := .glo "_law_row") rfl)⟩⟩
  d_law_eased := ⟨let ⟨fd, F⟩ := k.def_ 37 (d := w_law_eased) rfl; ⟨_, fd, F, He.glo_ok X G (k.fact 37 (f := .glo "_law_eased") rfl)⟩⟩
theorem facts (hm : ∀ ns : List Int, ns.length ≤ 63 → ∃ en, m_law ns (List.replicate 15 .no) = .ok (.rt (.fz (.bool true)), en)) {P : Program} {w : World} {K : PySem.W.Frag} {h : Heap} {mg : Str → Option Value} {f : Addr} (X : K.In h) (G : h.Ns mainGlobals mg) (hfa : mg ("law" : Str) = some (.ref f)) (k : He.SaysD fal fnl K) :
    ∃ fd : FuncData, (∀ (s : Shared) (v : Value), BindsTo s fd ⟨[v], []⟩ [("script", v)]) ∧ ∀ base : Heap, K.In base → base.Ns mainGlobals mg → FnOk P w K mg base CX0 8 f fd ["script"] (spLaw K) := by
  obtain ⟨fd, F⟩ := k.def_ 38 (d := w_law) rfl
  have e := hfa.symm.trans (He.glo_ok X G (k.fact 38 (f := .glo "law") rfl))
  cases e
  have b := FunD.bindsA (ps := ["script"]) F fun _ _ _ _ _ _ us hl => match us, hl with | [_], _ => rfl
  exact ⟨fd, fun s v => b s [v] rfl, fun base _ _ => d_all (c := ⟨w, fun _ => none⟩) (tops X G k) F hm⟩
end K05
open PySem PySem.W PySem.Calls PyProof.Rows
theorem PySem.Challenge.cw_shrinkhall_k05_whole_more_room_lets_more_holds : PySem.Challenge.rw_shrinkhall_k05_whole_more_room_lets_more.Holds := by
  w_on; o_law
  refine HandSHeadRun.head_any (r := OpenLaw.row PySem.Challenge.rw_shrinkhall_k05_whole_more_room_lets_more) (q := view (OpenLaw.row PySem.Challenge.rw_shrinkhall_k05_whole_more_room_lets_more).prog [54]) (H := K05.hk) (ob := K05.ob) (M := 4000) (loose := K05.loose) (d := HandSHeadRun.topDef (OpenLaw.row PySem.Challenge.rw_shrinkhall_k05_whole_more_room_lets_more).prog 54) (kwd := []) K05.ob_eq
    (by kernel_rfl) (fun s => by kernel_rfl) K05.run (by kernel_rfl) (by kernel_rfl) (by kernel_rfl) (by rfl) (by first | assumption | decide +kernel) (by decide +kernel) ⟨rfl, rfl, rfl, rfl, rfl, by decide +kernel⟩ ?hw ?hc
  case hw => w_witness2
  case hc =>
    refine L2.walk_ofE (l := PySem.Challenge.rw_shrinkhall_k05_whole_more_room_lets_more) (n := 63) (k := 8) (x := "script") (CX := L2.CX0) rfl (by decide) (by kernel_rfl) ⟨rfl, by decide, by decide⟩ ?F (fun _ _ _ _ z => z)
    intro w mg fa h Y G hmg0
    obtain ⟨K, KX, c⟩ := Y
    have hmg : mg ("law" : PySem.Str) = some (.ref fa) := by
      have e : (HandSHeadRun.topDef (OpenLaw.row PySem.Challenge.rw_shrinkhall_k05_whole_more_room_lets_more).prog 54).name = ("law" : PySem.Str) := by kernel_rfl
      rw [← e]
      exact hmg0
    obtain ⟨fd, hb, hF⟩ := K05.facts K05.math (P := (PySem.Challenge.rw_shrinkhall_k05_whole_more_room_lets_more).prog) (w := w) KX G hmg c
    exact ⟨K, fd, Sh.spLaw K, KX, hb, fun H a ns hl _ hS => ⟨a, ns, rfl, hl, hS, fun _ => rfl⟩, hF⟩
