import PyProof.Rows.All
import HandS.ForMost
import HandS.ForExc
import HandS.IsInst
import HandS.Zip
import HandS.DictComp
import HandS.TupAny
import HandS.Deep
import KE.LtData
import KE.SortData
import HandS.More
import HandS.TupLe
import HandS.SetTxt0
import HandS.TupSets
import HandS.Strs
import HandS.SetFor
import HandS.Style
import PyProof.TwoTypes
import PyProof.CallStr
import KE.GoesEnum
import KE.GoesZip
import KE.GoesMore
import HandS.ExcInit
import HandS.Lambda
import HandS.ExcField
import HandS.ExcIs
import KE.KExcIs
import HandS.EndOwn
import KE.KNestM
import PySem.Challenge.RW_needtrace_k02_what_leads_where
import KE.KStrBytes
set_option Elab.async false
set_option linter.all false
set_option maxRecDepth 100000
set_option maxHeartbeats 1000000
/-! Needtrace: a pure layer over the hand layer: data as trees, what a name of the frame owns, results of pure evaluation. -/
namespace NT
open PySem PySem.Spec PyProof.Rows L2

/-- data as trees -/
inductive D where
  | non | bl (b : Bool) | int (i : Int) | str (x : Str)
  | tup (l : List D) | lst (l : List D)
  | dK (l : List (Key × D)) | dT (l : List (List Key × D))
  | scr (l : List Int)

mutual
/-- v is the datum d, all of it standing in F -/
inductive Rep (K : PySem.W.Frag) (F : Hp) : V → D → Prop
  | non : Rep K F .non .non
  | bl (b : Bool) : Rep K F (.bl b) (.bl b)
  | int (i : Int) : Rep K F (.int i) (.int i)
  | str (x : Str) : Rep K F (.str x) (.str x)
  | tup {a : Addr} {xs : List V} {ds : List D} : F a = some (.tup xs) → RepL K F xs ds → Rep K F (.ref a) (.tup ds)
  | lst {a : Addr} {xs : List V} {ds : List D} : F a = some (.lst xs) → RepL K F xs ds → Rep K F (.ref a) (.lst ds)
  | scr {a : Addr} {l : List Int} : SqL K F a (l.map V.int) → Rep K F (.ref a) (.scr l)
  | dK {a : Addr} {kvs : List (Key × V)} {l : List (Key × D)} : F a = some (.dK kvs) → kvs.map (·.1) = l.map (·.1) → RepL K F (kvs.map (·.2)) (l.map (·.2)) → Rep K F (.ref a) (.dK l)
  | dT {a : Addr} {kvs : List (List Key × V)} {l : List (List Key × D)} : F a = some (.dT kvs) → kvs.map (·.1) = l.map (·.1) → RepL K F (kvs.map (·.2)) (l.map (·.2)) → Rep K F (.ref a) (.dT l)
inductive RepL (K : PySem.W.Frag) (F : Hp) : List V → List D → Prop
  | nil : RepL K F [] []
  | cons {v : V} {vs : List V} {d : D} {ds : List D} : Rep K F v d → RepL K F vs ds → RepL K F (v :: vs) (d :: ds)
end

/-- the objects that a name may own -/
inductive O where
  | lst (l : List D) | dK (l : List (Key × D)) | dT (l : List (List Key × D))
def O.d : O → D
  | .lst l => .lst l
  | .dK l => .dK l
  | .dT l => .dT l
/-- a slot of the frame -/
inductive Sl where
  | un | fz (d : D) | own (o : O)
abbrev En := List Sl
/-- what an expression gives: a datum, a slot's own object, a new object that nobody holds -/
inductive Pl where
  | v (d : D) | s (i : Nat) | n (o : O)
structure Exn where
  cls : Str
  arg : Option D
inductive R (α : Type) where
  | ok (a : α) (r : En) | ex (x : Exn) (r : En) | st
abbrev M (α : Type) := En → R α
def M.pure {α : Type} (a : α) : M α := fun r => .ok a r
def M.bind {α β : Type} (f : M α) (g : α → M β) : M β := fun r => match f r with
  | .ok a r' => g a r'
  | .ex x r' => .ex x r'
  | .st => .st
inductive RS where
  | nx (r : En) | rt (p : Pl) (r : En) | bk (r : En) | ct (r : En) | ex (x : Exn) (r : En) | st

abbrev Fp := Addr → Prop
def U (Af : Nat → Fp) : Fp := fun a => ∃ i, Af i a
/-- what a walk may lock -/
def lk : HO → Prop
  | .dK _ => True
  | .dT _ => True
  | _ => False
/-- what F says may be read off H -/
def Keep (F H : Hp) : Prop := ∀ a u, F a = some u → H a = some u ∨ (lk u ∧ ∃ o, H a = some (.frz o u))

def OwnRep (K : PySem.W.Frag) (H F : Hp) (v : V) (T : Fp) : O → Prop
  | .lst l => ∃ a xs, v = .ref a ∧ T = (fun b => b = a) ∧ H a = some (.lst xs) ∧ F a = none ∧ RepL K F xs l
  | .dK l => ∃ (a : Addr) (kvs : List (Key × V)), v = .ref a ∧ T = (fun b => b = a) ∧ H a = some (.dK kvs) ∧ F a = none ∧ kvs.map (·.1) = l.map (·.1) ∧ RepL K F (kvs.map (·.2)) (l.map (·.2))
  | .dT l => ∃ (a : Addr) (kvs : List (List Key × V)), v = .ref a ∧ T = (fun b => b = a) ∧ H a = some (.dT kvs) ∧ F a = none ∧ kvs.map (·.1) = l.map (·.1) ∧ RepL K F (kvs.map (·.2)) (l.map (·.2))
def SlRep (K : PySem.W.Frag) (H F : Hp) (x : Option (Option V)) (T : Fp) : Sl → Prop
  | .un => ∀ a, ¬ T a
  | .fz d => (∃ v, x = some (some v) ∧ Rep K F v d) ∧ ∀ a, ¬ T a
  | .own o => ∃ v, x = some (some v) ∧ OwnRep K H F v T o
/-- the frame's slots σ at the heap H are as the row r says; F: what never changes; Af: what each slot owns -/
structure Rel (K : PySem.W.Frag) (P : List V) (r : En) (σ : L2.St) (H F : Hp) (Af : Nat → Fp) : Prop where
  len : r.length = σ.length
  keep : Keep F H
  par : ∀ (j : Nat) v, P[j]? = some v → σ[j]? = some (some v)
  slot : ∀ (i : Nat) s, r[i]? = some s → SlRep K H F σ[i]? (Af i) s
  out : ∀ (i : Nat), r[i]? = none → ∀ a, ¬ Af i a
  dis : ∀ i j a, Af i a → Af j a → i = j
/-- nothing stands at a, or a tuple, which never changes -/
def Fx (H : Hp) (a : Addr) : Prop := H a = none ∨ ∃ xs, H a = some (.tup xs)
/-- from (H, F, what is owned) to the same behind -/
structure Ext (H F : Hp) (A : Fp) (H' F' : Hp) (A' : Fp) : Prop where
  fr : ∀ a o, H a = some o → ¬ A a → H' a = some o
  dom : ∀ a, H' a = none → H a = none
  ff : Same F F'
  new : ∀ a, F a = none → F' a = none ∨ Fx H a ∨ A a
  own : ∀ a, A' a → A a ∨ H a = none

def PlRep (K : PySem.W.Frag) (H F : Hp) (Af : Nat → Fp) (σ : L2.St) (T : Fp) (v : V) : Pl → Prop
  | .v d => Rep K F v d ∧ ∀ a, ¬ T a
  | .s i => σ[i]? = some (some v) ∧ ∀ a, ¬ T a
  | .n o => OwnRep K H F v T o ∧ ∀ a, T a → ¬ U Af a
def ExRep (K : PySem.W.Frag) (mg : Str → Option Value) (F : Hp) (x : Exn) (C : Value) (od : Option Addr) : Prop :=
  ∃ ca : Addr, mg x.cls = some (.ref ca) ∧ C = .ref ca ∧ match x.arg with
    | none => od = none
    | some d => ∃ a v, od = some a ∧ F a = some (.xd [("name", v)]) ∧ Rep K F v d

/-! ### first facts -/
theorem Keep.tup {F H : Hp} {a : Addr} {xs : List V} (e : Keep F H) (h : F a = some (.tup xs)) : H a = some (.tup xs) := by
  rcases e _ _ h with q | ⟨n, _⟩
  · exact q
  · exact n.elim
theorem Keep.lst {F H : Hp} {a : Addr} {xs : List V} (e : Keep F H) (h : F a = some (.lst xs)) : H a = some (.lst xs) := by
  rcases e _ _ h with q | ⟨n, _⟩
  · exact q
  · exact n.elim
theorem Keep.sqL {K : PySem.W.Frag} {F H : Hp} {a : Addr} {xs : List V} (e : Keep F H) (h : SqL K F a xs) : SqL K H a xs := by
  rcases h with (h | ⟨o, h⟩) | h
  · exact .inl (.inl (e.lst h))
  · rcases e _ _ h with q | ⟨n, _⟩
    · exact .inl (.inr ⟨o, q⟩)
    · exact n.elim
  · exact .inr h
theorem Keep.rd {F H : Hp} {a : Addr} {u : HO} (e : Keep F H) (h : F a = some u) : Rd H a u := by
  rcases e _ _ h with q | ⟨_, o, q⟩
  · exact .inl q
  · exact .inr ⟨o, q⟩
theorem Keep.some {F H : Hp} {a : Addr} {u : HO} (e : Keep F H) (h : F a = some u) : H a ≠ none := by
  rcases e _ _ h with q | ⟨_, o, q⟩ <;> rw [q] <;> simp
theorem Keep.up {F H H' : Hp} (e : Keep F H) (s : Same H H') : Keep F H' := fun a u h => by
  rcases e _ _ h with q | ⟨n, o, q⟩
  · exact .inl (s _ _ q)
  · exact .inr ⟨n, o, s _ _ q⟩

mutual
theorem Rep.mono {K : PySem.W.Frag} {F F' : Hp} (s : Same F F') : ∀ {v : V} {d : D}, Rep K F v d → Rep K F' v d
  | _, _, .non => .non
  | _, _, .bl b => .bl b
  | _, _, .int i => .int i
  | _, _, .str x => .str x
  | _, _, .tup h t => .tup (s _ _ h) (RepL.mono s t)
  | _, _, .lst h t => .lst (s _ _ h) (RepL.mono s t)
  | _, _, .scr h => .scr (s.seq h)
  | _, _, .dK h k t => .dK (s _ _ h) k (RepL.mono s t)
  | _, _, .dT h k t => .dT (s _ _ h) k (RepL.mono s t)
theorem RepL.mono {K : PySem.W.Frag} {F F' : Hp} (s : Same F F') : ∀ {vs : List V} {ds : List D}, RepL K F vs ds → RepL K F' vs ds
  | _, _, .nil => .nil
  | _, _, .cons h t => .cons (Rep.mono s h) (RepL.mono s t)
end
theorem RepL.length {K : PySem.W.Frag} {F : Hp} : ∀ {vs : List V} {ds : List D}, RepL K F vs ds → vs.length = ds.length
  | _, _, .nil => rfl
  | _, _, .cons _ t => congrArg (· + 1) t.length
theorem RepL.get {K : PySem.W.Frag} {F : Hp} : ∀ {vs : List V} {ds : List D} {i : Nat} {d : D}, RepL K F vs ds → ds[i]? = some d → ∃ v, vs[i]? = some v ∧ Rep K F v d
  | _, _, _, _, .nil, e => by simp at e
  | _, _, 0, _, .cons r _, e => by simp at e; subst e; exact ⟨_, rfl, r⟩
  | _, _, i + 1, d, .cons _ t, e => by
    obtain ⟨v, h1, h2⟩ := RepL.get (i := i) (d := d) t (by simpa using e)
    exact ⟨v, by simpa using h1, h2⟩
theorem RepL.getV {K : PySem.W.Frag} {F : Hp} : ∀ {vs : List V} {ds : List D} {i : Nat} {v : V}, RepL K F vs ds → vs[i]? = some v → ∃ d, ds[i]? = some d ∧ Rep K F v d
  | _, _, _, _, .nil, e => by simp at e
  | _, _, 0, _, .cons r _, e => by simp at e; subst e; exact ⟨_, rfl, r⟩
  | _, _, i + 1, v, .cons _ t, e => by
    obtain ⟨d, h1, h2⟩ := RepL.getV (i := i) (v := v) t (by simpa using e)
    exact ⟨d, by simpa using h1, h2⟩
theorem RepL.append {K : PySem.W.Frag} {F : Hp} : ∀ {vs ws : List V} {ds es : List D}, RepL K F vs ds → RepL K F ws es → RepL K F (vs ++ ws) (ds ++ es)
  | _, _, _, _, .nil, s => s
  | _, _, _, _, .cons r t, s => .cons r (RepL.append t s)
theorem RepL.take {K : PySem.W.Frag} {F : Hp} : ∀ (n : Nat) {vs : List V} {ds : List D}, RepL K F vs ds → RepL K F (vs.take n) (ds.take n)
  | 0, _, _, _ => .nil
  | _ + 1, _, _, .nil => .nil
  | n + 1, _, _, .cons r t => .cons r (RepL.take n t)
theorem RepL.drop {K : PySem.W.Frag} {F : Hp} : ∀ (n : Nat) {vs : List V} {ds : List D}, RepL K F vs ds → RepL K F (vs.drop n) (ds.drop n)
  | 0, _, _, r => r
  | _ + 1, _, _, .nil => .nil
  | n + 1, _, _, .cons _ t => RepL.drop n t
theorem RepL.set {K : PySem.W.Frag} {F : Hp} {v : V} {d : D} (r : Rep K F v d) : ∀ (i : Nat) {vs : List V} {ds : List D}, RepL K F vs ds → RepL K F (vs.set i v) (ds.set i d)
  | _, _, _, .nil => .nil
  | 0, _, _, .cons _ t => .cons r t
  | i + 1, _, _, .cons q t => .cons q (RepL.set r i t)
theorem RepL.reverse {K : PySem.W.Frag} {F : Hp} : ∀ {vs : List V} {ds : List D}, RepL K F vs ds → RepL K F vs.reverse ds.reverse
  | _, _, .nil => .nil
  | _, _, .cons r t => by
    rw [List.reverse_cons, List.reverse_cons]
    exact t.reverse.append (.cons r .nil)

theorem OwnRep.mono {K : PySem.W.Frag} {H F H' F' : Hp} {v : V} {T : Fp} {o : O} (h : OwnRep K H F v T o) (s : Same F F') (k : ∀ a u, T a → H a = some u → H' a = some u ∧ F' a = none) : OwnRep K H' F' v T o := by
  cases o with
  | lst l =>
    obtain ⟨a, xs, rfl, rfl, h1, h2, h3⟩ := h
    obtain ⟨q1, q2⟩ := k a _ rfl h1
    exact ⟨a, xs, rfl, rfl, q1, q2, h3.mono s⟩
  | dK l =>
    obtain ⟨a, xs, rfl, rfl, h1, h2, h3, h4⟩ := h
    obtain ⟨q1, q2⟩ := k a _ rfl h1
    exact ⟨a, xs, rfl, rfl, q1, q2, h3, h4.mono s⟩
  | dT l =>
    obtain ⟨a, xs, rfl, rfl, h1, h2, h3, h4⟩ := h
    obtain ⟨q1, q2⟩ := k a _ rfl h1
    exact ⟨a, xs, rfl, rfl, q1, q2, h3, h4.mono s⟩
theorem OwnRep.at {K : PySem.W.Frag} {H F : Hp} {v : V} {T : Fp} {o : O} (h : OwnRep K H F v T o) {a : Addr} (t : T a) : H a ≠ none ∧ F a = none ∧ v = .ref a := by
  cases o with
  | lst l =>
    obtain ⟨b, xs, rfl, rfl, h1, h2, h3⟩ := h
    obtain rfl : a = b := t
    exact ⟨by rw [h1]; simp, h2, rfl⟩
  | dK l =>
    obtain ⟨b, xs, rfl, rfl, h1, h2, h3, h4⟩ := h
    obtain rfl : a = b := t
    exact ⟨by rw [h1]; simp, h2, rfl⟩
  | dT l =>
    obtain ⟨b, xs, rfl, rfl, h1, h2, h3, h4⟩ := h
    obtain rfl : a = b := t
    exact ⟨by rw [h1]; simp, h2, rfl⟩
/-- an owned object made fast: F grows by it -/
theorem OwnRep.fast {K : PySem.W.Frag} {H F : Hp} {v : V} {T : Fp} {o : O} (h : OwnRep K H F v T o) : ∃ a u, T = (fun b => b = a) ∧ v = .ref a ∧ H a = some u ∧ F a = none ∧ Rep K (upd F a u) v o.d := by
  cases o with
  | lst l =>
    obtain ⟨a, xs, rfl, rfl, h1, h2, h3⟩ := h
    have s : Same F (upd F a (.lst xs)) := fun b x e => by rw [upd_ne (ne_of_none e h2)]; exact e
    exact ⟨a, .lst xs, rfl, rfl, h1, h2, .lst upd_same (h3.mono s)⟩
  | dK l =>
    obtain ⟨a, xs, rfl, rfl, h1, h2, h3, h4⟩ := h
    have s : Same F (upd F a (.dK xs)) := fun b x e => by rw [upd_ne (ne_of_none e h2)]; exact e
    exact ⟨a, .dK xs, rfl, rfl, h1, h2, .dK upd_same h3 (h4.mono s)⟩
  | dT l =>
    obtain ⟨a, xs, rfl, rfl, h1, h2, h3, h4⟩ := h
    have s : Same F (upd F a (.dT xs)) := fun b x e => by rw [upd_ne (ne_of_none e h2)]; exact e
    exact ⟨a, .dT xs, rfl, rfl, h1, h2, .dT upd_same h3 (h4.mono s)⟩
theorem same_new {F : Hp} {a : Addr} {u : HO} (h : F a = none) : Same F (upd F a u) := fun b x e => by rw [upd_ne (ne_of_none e h)]; exact e

theorem Ext.refl {H F : Hp} {A : Fp} : Ext H F A H F A := ⟨fun _ _ e _ => e, fun _ e => e, Same.refl _, fun _ e => .inl e, fun _ e => .inl e⟩
theorem Ext.trans {H F H1 F1 H2 F2 : Hp} {A A1 A2 : Fp} (a : Ext H F A H1 F1 A1) (b : Ext H1 F1 A1 H2 F2 A2) : Ext H F A H2 F2 A2 where
  fr := fun c o e n => b.fr c o (a.fr c o e n) fun q => by
    rcases a.own c q with z | z
    · exact n z
    · rw [e] at z; cases z
  dom := fun c e => a.dom c (b.dom c e)
  ff := a.ff.trans b.ff
  new := fun c e => by
    rcases a.new c e with z | z
    · rcases b.new c z with q | q | q
      · exact .inl q
      · rcases q with q | ⟨xs, q⟩
        · exact .inr (.inl (.inl (a.dom c q)))
        · by_cases hA : A c
          · exact .inr (.inr hA)
          · refine .inr (.inl ?_)
            cases hc : H c with
            | none => exact .inl hc
            | some o =>
              have z := a.fr c o hc hA
              rw [q] at z; cases z
              exact .inr ⟨xs, hc⟩
      · rcases a.own c q with t | t
        · exact .inr (.inr t)
        · exact .inr (.inl (.inl t))
    · exact .inr z
  own := fun c q => by
    rcases b.own c q with z | z
    · exact a.own c z
    · exact .inr (a.dom c z)
theorem Ext.less {H F H1 F1 : Hp} {A A1 A2 : Fp} (a : Ext H F A H1 F1 A1) (h : ∀ c, A2 c → A1 c) : Ext H F A H1 F1 A2 := ⟨a.fr, a.dom, a.ff, a.new, fun c q => a.own c (h c q)⟩
/-- what stands behind a step that lays new objects alone -/
structure Grow (H F H' F' : Hp) : Prop where
  hh : Same H H'
  ff : Same F F'
  keep : Keep F' H'
  new : ∀ a, F a = none → F' a = none ∨ Fx H a
theorem Grow.refl {H F : Hp} (k : Keep F H) : Grow H F H F := ⟨Same.refl _, Same.refl _, k, fun _ e => .inl e⟩
theorem Grow.trans {H F H1 F1 H2 F2 : Hp} (a : Grow H F H1 F1) (b : Grow H1 F1 H2 F2) : Grow H F H2 F2 := ⟨a.hh.trans b.hh, a.ff.trans b.ff, b.keep, fun c e => by
  rcases a.new c e with z | z
  · rcases b.new c z with q | q
    · exact .inl q
    · refine .inr ?_
      rcases q with q | ⟨xs, q⟩
      · exact .inl (a.hh.free q)
      · cases hc : H c with
        | none => exact .inl hc
        | some o =>
          have z := a.hh c o hc
          rw [q] at z; cases z
          exact .inr ⟨xs, hc⟩
  · exact .inr z⟩
theorem Grow.ext {H F H' F' : Hp} {A : Fp} (g : Grow H F H' F') : Ext H F A H' F' A := ⟨fun a o e _ => g.hh a o e, fun a e => g.hh.free e, g.ff, fun a e => (g.new a e).elim .inl fun z => .inr (.inl z), fun _ q => .inl q⟩
theorem Rel.own {K : PySem.W.Frag} {P : List V} {r : En} {σ : L2.St} {H F : Hp} {Af : Nat → Fp} (R : Rel K P r σ H F Af) {a : Addr} (h : U Af a) : H a ≠ none ∧ F a = none := by
  obtain ⟨i, h⟩ := h
  cases e : r[i]? with
  | none => exact (R.out i e a h).elim
  | some s =>
    have q := R.slot i s e
    cases s with
    | un => exact (q a h).elim
    | fz d => exact (q.2 a h).elim
    | own o =>
      obtain ⟨v, _, q⟩ := q
      exact ⟨(q.at h).1, (q.at h).2.1⟩
theorem OwnRep.nfx {K : PySem.W.Frag} {H F : Hp} {v : V} {T : Fp} {o : O} (h : OwnRep K H F v T o) {a : Addr} (t : T a) : ¬ Fx H a := by
  cases o with
  | lst l =>
    obtain ⟨b, xs, rfl, rfl, h1, h2, h3⟩ := h
    obtain rfl : a = b := t
    rintro (z | ⟨ys, z⟩) <;> rw [h1] at z <;> cases z
  | dK l =>
    obtain ⟨b, xs, rfl, rfl, h1, h2, h3, h4⟩ := h
    obtain rfl : a = b := t
    rintro (z | ⟨ys, z⟩) <;> rw [h1] at z <;> cases z
  | dT l =>
    obtain ⟨b, xs, rfl, rfl, h1, h2, h3, h4⟩ := h
    obtain rfl : a = b := t
    rintro (z | ⟨ys, z⟩) <;> rw [h1] at z <;> cases z
theorem Rel.nfx {K : PySem.W.Frag} {P : List V} {r : En} {σ : L2.St} {H F : Hp} {Af : Nat → Fp} (R : Rel K P r σ H F Af) {a : Addr} (h : U Af a) : ¬ Fx H a := by
  obtain ⟨i, h⟩ := h
  cases e : r[i]? with
  | none => exact (R.out i e a h).elim
  | some s =>
    have q := R.slot i s e
    cases s with
    | un => exact (q a h).elim
    | fz d => exact (q.2 a h).elim
    | own o =>
      obtain ⟨v, _, q⟩ := q
      exact q.nfx h
theorem SlRep.mono {K : PySem.W.Frag} {H F H' F' : Hp} {x : Option (Option V)} {T : Fp} {s : Sl} (h : SlRep K H F x T s) (e : Same F F') (k : ∀ a u, T a → H a = some u → H' a = some u ∧ F' a = none) : SlRep K H' F' x T s := by
  cases s with
  | un => exact h
  | fz d => obtain ⟨⟨v, e1, r⟩, t⟩ := h; exact ⟨⟨v, e1, r.mono e⟩, t⟩
  | own o => obtain ⟨v, e1, r⟩ := h; exact ⟨v, e1, r.mono e k⟩
theorem Rel.grow {K : PySem.W.Frag} {P : List V} {r : En} {σ : L2.St} {H F H' F' : Hp} {Af : Nat → Fp} (R : Rel K P r σ H F Af) (g : Grow H F H' F') : Rel K P r σ H' F' Af :=
  ⟨R.len, g.keep, R.par, fun i s e => (R.slot i s e).mono g.ff fun a u t h => ⟨g.hh a u h, by
    have z := R.own (a := a) ⟨i, t⟩
    rcases g.new a z.2 with q | q
    · exact q
    · exact (R.nfx ⟨i, t⟩ q).elim⟩, R.out, R.dis⟩
/-- what a pure step gives: a datum (perhaps laid anew), a new object -/
def Out (K : PySem.W.Frag) (H F : Hp) (z : Pl) (v : V) (H' : Hp) : Prop := ∃ F', Grow H F H' F' ∧ match z with
  | .v d => Rep K F' v d
  | .s _ => False
  | .n o => ∃ T : Fp, OwnRep K H' F' v T o ∧ ∀ a, T a → H a = none
end NT

set_option Elab.async false
set_option linter.all false
set_option maxRecDepth 100000
set_option maxHeartbeats 1000000
namespace NT
open PySem PySem.Spec PyProof.Rows L2

/-! ### judgements -/
section
variable (K : PySem.W.Frag) (mg : Str → Option Value) (P : List V) (E : XK)
def PostX (H F : Hp) (Af : Nat → Fp) (x : Exn) (r : En) (σok : L2.St → Prop) : Prop :=
  ∀ C od σ' H' F' Af', σok σ' → Ext H F (U Af) H' F' (U Af') → Rel K P r σ' H' F' Af' → ExRep K mg F' x C od → E C od H'
def Post (σ : L2.St) (H F : Hp) (Af : Nat → Fp) (r : R Pl) (Q : VK) : Prop := match r with
  | .ok p r' => ∀ v H' F' Af' T, Ext H F (U Af) H' F' (fun a => U Af' a ∨ T a) → Rel K P r' σ H' F' Af' → PlRep K H' F' Af' σ T v p → Q v H'
  | .ex x r' => PostX K mg P E H F Af x r' (fun _ => True)
  | .st => False
def PostF (σ : L2.St) (H F : Hp) (Af : Nat → Fp) (r : R D) (Q : VK) : Prop := match r with
  | .ok d r' => ∀ v H' F' Af', Ext H F (U Af) H' F' (U Af') → Rel K P r' σ H' F' Af' → Rep K F' v d → Q v H'
  | .ex x r' => PostX K mg P E H F Af x r' (fun _ => True)
  | .st => False
/-- operands of a call or a display, in order: no new objects among them -/
inductive PlL (K : PySem.W.Frag) (F : Hp) (σ : L2.St) : List V → List Pl → Prop
  | nil : PlL K F σ [] []
  | v {v : V} {d : D} {vs : List V} {ps : List Pl} : Rep K F v d → PlL K F σ vs ps → PlL K F σ (v :: vs) (.v d :: ps)
  | s {v : V} {i : Nat} {vs : List V} {ps : List Pl} : σ[i]? = some (some v) → PlL K F σ vs ps → PlL K F σ (v :: vs) (.s i :: ps)
def PostL (σ : L2.St) (H F : Hp) (Af : Nat → Fp) (r : R (List Pl)) (Q : List V → Hp → Prop) : Prop := match r with
  | .ok ps r' => ∀ vs H' F' Af', Ext H F (U Af) H' F' (U Af') → Rel K P r' σ H' F' Af' → PlL K F' σ vs ps → Q vs H'
  | .ex x r' => PostX K mg P E H F Af x r' (fun _ => True)
  | .st => False
def PostB (σ : L2.St) (H F : Hp) (Af : Nat → Fp) (r : R Bool) (Q : Bool → Hp → Prop) : Prop := match r with
  | .ok b r' => ∀ H' F' Af', Ext H F (U Af) H' F' (U Af') → Rel K P r' σ H' F' Af' → Q b H'
  | .ex x r' => PostX K mg P E H F Af x r' (fun _ => True)
  | .st => False
def PostS (H F : Hp) (Af : Nat → Fp) (r : RS) (Z : Ends) : Prop := match r with
  | .nx r' => ∀ σ' H' F' Af', Ext H F (U Af) H' F' (U Af') → Rel K P r' σ' H' F' Af' → Z.nx σ' H'
  | .bk r' => ∀ σ' H' F' Af', Ext H F (U Af) H' F' (U Af') → Rel K P r' σ' H' F' Af' → Z.bk σ' H'
  | .ct r' => ∀ σ' H' F' Af', Ext H F (U Af) H' F' (U Af') → Rel K P r' σ' H' F' Af' → Z.ct σ' H'
  | .rt p r' => ∀ v σ' H' F' Af' T, Ext H F (U Af) H' F' (fun a => U Af' a ∨ T a) → Rel K P r' σ' H' F' Af' → PlRep K H' F' Af' σ' T v p → Z.rt v H'
  | .ex x r' => PostX K mg P E H F Af x r' (fun _ => True)
  | .st => False
def tE (f : M Pl) : TE := fun σ H Q => ∃ r F Af, Rel K P r σ H F Af ∧ Post K mg P E σ H F Af (f r) Q
def tF (f : M D) : TE := fun σ H Q => ∃ r F Af, Rel K P r σ H F Af ∧ PostF K mg P E σ H F Af (f r) Q
def tL (f : M (List Pl)) : TA := fun σ H Q => ∃ r F Af, Rel K P r σ H F Af ∧ PostL K mg P E σ H F Af (f r) Q
def tT (f : M Bool) : TT := fun σ H Q => ∃ r F Af, Rel K P r σ H F Af ∧ PostB K mg P E σ H F Af (f r) Q
def tS (f : En → RS) : TS := fun Z σ H => ∃ r F Af, Rel K P r σ H F Af ∧ PostS K mg P E H F Af (f r) Z
end

section
variable {K : PySem.W.Frag} {mg : Str → Option Value} {P : List V} {E : XK} {σ : L2.St} {H F H1 F1 : Hp} {Af Af1 : Nat → Fp}
theorem PostX.from {x : Exn} {r : En} {k : L2.St → Prop} (h : PostX K mg P E H F Af x r k) (e : Ext H F (U Af) H1 F1 (U Af1)) : PostX K mg P E H1 F1 Af1 x r k :=
  fun C od σ' H' F' Af' kk e' q z => h C od σ' H' F' Af' kk (e.trans e') q z
theorem Post.from {r : R Pl} {Q : VK} (h : Post K mg P E σ H F Af r Q) (e : Ext H F (U Af) H1 F1 (U Af1)) : Post K mg P E σ H1 F1 Af1 r Q := by
  cases r with
  | ok p r' => exact fun v H' F' Af' T e' q z => h v H' F' Af' T (e.trans e') q z
  | ex x r' => exact PostX.from h e
  | st => exact h
theorem PostF.from {r : R D} {Q : VK} (h : PostF K mg P E σ H F Af r Q) (e : Ext H F (U Af) H1 F1 (U Af1)) : PostF K mg P E σ H1 F1 Af1 r Q := by
  cases r with
  | ok p r' => exact fun v H' F' Af' e' q z => h v H' F' Af' (e.trans e') q z
  | ex x r' => exact PostX.from h e
  | st => exact h
theorem PostL.from {r : R (List Pl)} {Q : List V → Hp → Prop} (h : PostL K mg P E σ H F Af r Q) (e : Ext H F (U Af) H1 F1 (U Af1)) : PostL K mg P E σ H1 F1 Af1 r Q := by
  cases r with
  | ok p r' => exact fun v H' F' Af' e' q z => h v H' F' Af' (e.trans e') q z
  | ex x r' => exact PostX.from h e
  | st => exact h
theorem PostB.from {r : R Bool} {Q : Bool → Hp → Prop} (h : PostB K mg P E σ H F Af r Q) (e : Ext H F (U Af) H1 F1 (U Af1)) : PostB K mg P E σ H1 F1 Af1 r Q := by
  cases r with
  | ok p r' => exact fun H' F' Af' e' q => h H' F' Af' (e.trans e') q
  | ex x r' => exact PostX.from h e
  | st => exact h
theorem PostS.from {r : RS} {Z : Ends} (h : PostS K mg P E H F Af r Z) (e : Ext H F (U Af) H1 F1 (U Af1)) : PostS K mg P E H1 F1 Af1 r Z := by
  cases r with
  | nx r' => exact fun σ' H' F' Af' e' q => h σ' H' F' Af' (e.trans e') q
  | bk r' => exact fun σ' H' F' Af' e' q => h σ' H' F' Af' (e.trans e') q
  | ct r' => exact fun σ' H' F' Af' e' q => h σ' H' F' Af' (e.trans e') q
  | rt p r' => exact fun v σ' H' F' Af' T e' q z => h v σ' H' F' Af' T (e.trans e') q z
  | ex x r' => exact PostX.from h e
  | st => exact h
theorem noT {A : Fp} {Af : Nat → Fp} (h : ∀ a, ¬ A a) : ∀ a, (U Af a ∨ A a) → U Af a := fun a q => q.elim id fun z => (h a z).elim
theorem Ext.noT {H F H1 F1 : Hp} {A T : Fp} {Af : Nat → Fp} (e : Ext H F A H1 F1 (fun a => U Af a ∨ T a)) : Ext H F A H1 F1 (U Af) := e.less fun _ q => .inl q
/-- from an expression to the statement or expression that goes on from it -/
theorem Post.bind {α : Type} {f : R Pl} {Q Q' : VK} (h : Post K mg P E σ H F Af f Q) (k : ∀ p r', f = .ok p r' → ∀ v H' F' Af' T, Ext H F (U Af) H' F' (fun a => U Af' a ∨ T a) → Rel K P r' σ H' F' Af' → PlRep K H' F' Af' σ T v p → Q v H' → Q' v H') : Post K mg P E σ H F Af f Q' := by
  cases f with
  | ok p r' => exact fun v H' F' Af' T e q z => k p r' rfl v H' F' Af' T e q z (h v H' F' Af' T e q z)
  | ex x r' => exact h
  | st => exact h
end

structure DE (X : Cx) (P : List V) (E : XK) (e : Expr) (f : M Pl) : Prop where
  pe : PE X e (tE X.K X.mg P E f)
structure DF (X : Cx) (P : List V) (E : XK) (e : Expr) (f : M D) : Prop where
  pe : PE X e (tF X.K X.mg P E f)
structure DA (X : Cx) (P : List V) (E : XK) (es : List Expr) (f : M (List Pl)) : Prop where
  pa : PA X es (tL X.K X.mg P E f)
structure DT (X : Cx) (P : List V) (E : XK) (e : Expr) (f : M Bool) : Prop where
  pt : PT X e (tT X.K X.mg P E f)
structure DW (X : Cx) (P : List V) (E : XK) (e : Expr) (f : M Bool) : Prop where
  pw : PW X e (tT X.K X.mg P E f)
structure DS (X : Cx) (P : List V) (E : XK) (s : Stmt) (f : En → RS) : Prop where
  ps : PS X s (tS X.K X.mg P E f)
structure DB (X : Cx) (P : List V) (E : XK) (s : List Stmt) (f : En → RS) : Prop where
  pss : PSs X s (tS X.K X.mg P E f)

section
variable {X : Cx}
theorem PE.wk {e : Expr} {t t' : TE} (h : PE X e t) (k : ∀ σ H Q, t' σ H Q → t σ H Q) : PE X e t' := ⟨fun pins s σ H Q I q => h.run pins s σ H Q I (k σ H Q q)⟩
theorem PA.wk {e : List Expr} {t t' : TA} (h : PA X e t) (k : ∀ σ H Q, t' σ H Q → t σ H Q) : PA X e t' := ⟨fun pos pins s σ H Q I q => h.run pos pins s σ H Q I (k σ H Q q)⟩
theorem PT.wk {e : Expr} {t t' : TT} (h : PT X e t) (k : ∀ σ H Q, t' σ H Q → t σ H Q) : PT X e t' := ⟨fun pins s σ H Q I q => h.run pins s σ H Q I (k σ H Q q)⟩
theorem PW.wk {e : Expr} {t t' : TT} (h : PW X e t) (k : ∀ σ H Q, t' σ H Q → t σ H Q) : PW X e t' := ⟨fun w pins s σ H Q I q => h.run w pins s σ H Q I (k σ H Q q)⟩
theorem PS.wk {e : Stmt} {t t' : TS} (h : PS X e t) (k : ∀ Z σ H, t' Z σ H → t Z σ H) : PS X e t' := ⟨fun pins s σ H Z I q => h.run pins s σ H Z I (k Z σ H q)⟩
theorem PSs.wk {e : List Stmt} {t t' : TS} (h : PSs X e t) (k : ∀ Z σ H, t' Z σ H → t Z σ H) : PSs X e t' := ⟨fun pins s σ H Z I q => h.run pins s σ H Z I (k Z σ H q)⟩
end

/-! ### operands, data made fast -/
def opd (f : M Pl) : M Pl := fun r => match f r with
  | .ok (.n o) r' => .ok (.v o.d) r'
  | .ok (.v d) r' => .ok (.v d) r'
  | .ok (.s i) r' => .ok (.s i) r'
  | .ex x r' => .ex x r'
  | .st => .st
def frz (f : M Pl) : M D := fun r => match f r with
  | .ok (.n o) r' => .ok o.d r'
  | .ok (.v d) r' => .ok d r'
  | .ok (.s i) r' => match r'[i]? with
    | some (.own o) => .ok o.d (r'.set i (.fz o.d))
    | some (.fz d) => .ok d r'
    | _ => .st
  | .ex x r' => .ex x r'
  | .st => .st
/-- the new object at T is made fast -/
theorem fast_step {K : PySem.W.Frag} {P : List V} {r : En} {σ : L2.St} {H F : Hp} {Af : Nat → Fp} {A : Fp} {H0 F0 : Hp} {v : V} {T : Fp} {o : O} (e : Ext H0 F0 A H F (fun a => U Af a ∨ T a)) (R : Rel K P r σ H F Af) (h : OwnRep K H F v T o) (n : ∀ a, T a → ¬ U Af a) :
    ∃ F', Ext H0 F0 A H F' (U Af) ∧ Rel K P r σ H F' Af ∧ Rep K F' v o.d := by
  obtain ⟨a, u, rfl, rfl, h1, h2, h3⟩ := h.fast
  have s := same_new (u := u) h2
  refine ⟨upd F a u, ⟨e.fr, e.dom, e.ff.trans s, fun b q => ?_, fun b q => e.own b (.inl q)⟩, ⟨R.len, fun b w q => ?_, R.par, fun i sl q => ?_, R.out, R.dis⟩, h3⟩
  · by_cases hb : b = a
    · subst hb
      exact .inr ((e.own b (.inr rfl)).symm.imp .inl id)
    · rw [upd_ne hb]; exact e.new b q
  · by_cases hb : b = a
    · subst hb
      rw [upd_same] at q; cases q
      exact .inl h1
    · rw [upd_ne hb] at q; exact R.keep b w q
  · refine (R.slot i sl q).mono s fun b w t hw => ⟨hw, ?_⟩
    have z := R.own (a := b) ⟨i, t⟩
    have hb : b ≠ a := fun z => n a rfl (z ▸ ⟨i, t⟩)
    rw [upd_ne hb]; exact z.2
theorem set_rel {K : PySem.W.Frag} {P : List V} {r : En} {σ : L2.St} {H F : Hp} {Af : Nat → Fp} (R : Rel K P r σ H F Af) (i : Nat) (s : Sl) (T : Fp) (hT : ∀ a, T a → ¬ ∃ j, j ≠ i ∧ Af j a) (h : SlRep K H F σ[i]? T s) (hi : i < r.length) : Rel K P (r.set i s) σ H F (fun j => if j = i then T else Af j) where
  len := by rw [List.length_set]; exact R.len
  keep := R.keep
  par := R.par
  slot := fun j t e => by
    by_cases hj : j = i
    · subst hj
      rw [List.getElem?_set_self hi] at e; cases e
      simp only [if_pos rfl]; exact h
    · rw [List.getElem?_set_ne (Ne.symm hj)] at e
      simp only [if_neg hj]; exact R.slot j t e
  out := fun j e a => by
    have hj : j ≠ i := fun z => by
      subst z
      rw [List.getElem?_set_self hi] at e; cases e
    rw [List.getElem?_set_ne (Ne.symm hj)] at e
    simp only [if_neg hj]; exact R.out j e a
  dis := fun j k a h1 h2 => by
    by_cases hj : j = i
    · subst hj
      by_cases hk : k = j
      · exact hk.symm
      · simp only [if_neg hk] at h2
        simp only [if_pos rfl] at h1
        exact (hT a h1 ⟨k, hk, h2⟩).elim
    · simp only [if_neg hj] at h1
      by_cases hk : k = i
      · subst hk
        simp only [if_pos rfl] at h2
        exact (hT a h2 ⟨j, hj, h1⟩).elim
      · simp only [if_neg hk] at h2
        exact R.dis j k a h1 h2
section
variable {X : Cx} {P : List V} {E : XK} {e : Expr} {f : M Pl}
theorem DE.opd (h : DE X P E e f) : DE X P E e (opd f) := ⟨PE.wk h.pe fun σ H Q ⟨r, F, Af, R, q⟩ => ⟨r, F, Af, R, by
  unfold NT.opd at q
  cases e : f r with
  | ex x r' => rw [e] at q; exact q
  | st => rw [e] at q; exact q
  | ok p r' =>
    rw [e] at q
    cases p with
    | v d => exact q
    | s i => exact q
    | n o =>
      intro v H' F' Af' T ex R' ⟨rp, n⟩
      obtain ⟨F2, e2, R2, r2⟩ := fast_step ex R' rp n
      exact q v H' F2 Af' (fun _ => False) (e2.less fun a q => q.elim id False.elim) R2 ⟨r2, fun _ => id⟩⟩⟩
theorem DE.frz (h : DE X P E e f) : DF X P E e (frz f) := ⟨PE.wk h.pe fun σ H Q ⟨r, F, Af, R, q⟩ => ⟨r, F, Af, R, by
  unfold NT.frz at q
  cases e : f r with
  | ex x r' => rw [e] at q; exact q
  | st => rw [e] at q; exact q
  | ok p r' =>
    rw [e] at q
    cases p with
    | v d => exact fun v H' F' Af' T ex R' rp => q v H' F' Af' ex.noT R' rp.1
    | n o =>
      intro v H' F' Af' T ex R' ⟨rp, n⟩
      obtain ⟨F2, e2, R2, r2⟩ := fast_step ex R' rp n
      exact q v H' F2 Af' e2 R2 r2
    | s i =>
      intro v H' F' Af' T ex R' ⟨hv, hT⟩
      simp only at q
      cases es : r'[i]? with
      | none => rw [es] at q; exact q.elim
      | some sl =>
        rw [es] at q
        cases sl with
        | un => exact q.elim
        | fz d =>
          obtain ⟨⟨v', e1, rp⟩, _⟩ := R'.slot i _ es
          rw [hv] at e1; cases e1
          exact q v H' F' Af' ex.noT R' rp
        | own o =>
          obtain ⟨v', e1, rp⟩ := R'.slot i _ es
          rw [hv] at e1; cases e1
          have hi : i < r'.length := (List.getElem?_eq_some_iff.mp es).1
          -- the slot gives up its object
          have R2 := set_rel R' i .un (fun _ => False) (fun _ z => z.elim) (fun _ => id) hi
          have ex2 : Ext H F (U Af) H' F' (fun a => U (fun j => if j = i then (fun _ => False) else Af' j) a ∨ Af' i a) := ex.noT.less fun a z => by
            rcases z with ⟨j, z⟩ | z
            · by_cases hj : j = i
              · simp only [if_pos hj] at z
              · simp only [if_neg hj] at z; exact ⟨j, z⟩
            · exact ⟨i, z⟩
          obtain ⟨F3, e3, R3, r3⟩ := fast_step ex2 R2 rp fun a t ⟨j, z⟩ => by
            by_cases hj : j = i
            · simp only [if_pos hj] at z
            · simp only [if_neg hj] at z; exact hj (R'.dis j i a z t)
          have R4 := set_rel R3 i (.fz o.d) (fun _ => False) (fun _ z => z.elim) ⟨⟨v, hv, r3⟩, fun _ => id⟩ (by rw [List.length_set]; exact hi)
          rw [List.set_set] at R4
          refine q v H' F3 _ ?_ R4 r3
          exact e3.less fun a ⟨j, z⟩ => by
            by_cases hj : j = i
            · simp only [if_pos hj] at z
            · simp only [if_neg hj] at z; exact ⟨j, by simp only [if_neg hj]; exact z⟩⟩⟩
/-- a datum made fast, as an operand -/
def ofD (f : M D) : M Pl := fun r => match f r with
  | .ok d r' => .ok (.v d) r'
  | .ex x r' => .ex x r'
  | .st => .st
theorem DF.de {g : M D} (h : DF X P E e g) : DE X P E e (ofD g) := ⟨PE.wk h.pe fun σ H Q ⟨r, F, Af, R, q⟩ => ⟨r, F, Af, R, by
  unfold ofD at q
  cases e : g r with
  | ex x r' => rw [e] at q; exact q
  | st => rw [e] at q; exact q
  | ok d r' =>
    rw [e] at q
    exact fun v H' F' Af' ex R' rp => q v H' F' Af' (fun _ => False) (ex.less fun a q => q.elim id False.elim) R' ⟨rp, fun _ => id⟩⟩⟩

/-! ### names and constants -/
def eV (i : Nat) : M Pl := fun r => match r[i]? with
  | some (.fz d) => .ok (.v d) r
  | some (.own _) => .ok (.s i) r
  | _ => .st
def eC (d : D) : M Pl := M.pure (.v d)
theorem de_v (i : Nat) {x : Str} {pos : Pos} (hN : X.N[i]? = some x := by rfl) (hv : Vis X.env.scope x := by first | exact Or.inl rfl | exact Or.inr (Or.inl rfl) | exact Or.inr (Or.inr rfl)) (hd : (x == ("__debug__" : Str)) = false := by decide)
    (hcd : (x == ("__classdict__" : Str)) = false := by decide) : DE X P E (.Name x pos) (eV i) := ⟨PE.wk (pe_var hN hv hd hcd) fun σ H Q ⟨r, F, Af, R, q⟩ => by
  unfold eV at q
  cases es : r[i]? with
  | none => rw [es] at q; exact q.elim
  | some sl =>
    rw [es] at q
    cases sl with
    | un => exact q.elim
    | fz d =>
      obtain ⟨⟨v, e1, rp⟩, _⟩ := R.slot i _ es
      exact ⟨v, e1, q v H F Af (fun _ => False) (Ext.refl.less fun a q => q.elim id False.elim) R ⟨rp, fun _ => id⟩⟩
    | own o =>
      obtain ⟨v, e1, rp⟩ := R.slot i _ es
      exact ⟨v, e1, q v H F Af (fun _ => False) (Ext.refl.less fun a q => q.elim id False.elim) R ⟨e1, fun _ => id⟩⟩⟩
theorem de_c {e : Expr} {v : V} {d : D} (h : PE X e (tC v)) (hd : ∀ K F, Rep K F v d) : DE X P E e (eC d) := ⟨PE.wk h fun σ H Q ⟨r, F, Af, R, q⟩ =>
  q v H F Af (fun _ => False) (Ext.refl.less fun a q => q.elim id False.elim) R ⟨hd _ _, fun _ => id⟩⟩
theorem de_int {i j pos} : DE X P E (.Constant (.int i) j pos) (eC (.int i)) := de_c pe_int fun _ _ => .int i
theorem de_bl {b j pos} : DE X P E (.Constant (.bool b) j pos) (eC (.bl b)) := de_c pe_bl fun _ _ => .bl b
theorem de_non {j pos} : DE X P E (.Constant .none j pos) (eC .non) := de_c pe_non fun _ _ => .non
theorem de_str {x j pos} : DE X P E (.Constant (.str x) j pos) (eC (.str x)) := de_c pe_str fun _ _ => .str x
end
end NT

set_option Elab.async false
set_option linter.all false
set_option maxRecDepth 100000
set_option maxHeartbeats 1000000
namespace NT
open PySem PySem.Spec PyProof.Rows L2

/-! ### what may be read now -/
def RdF (K : PySem.W.Frag) (H F : Hp) (x : V) : D → Prop
  | .non => x = .non
  | .bl b => x = .bl b
  | .int i => x = .int i
  | .str z => x = .str z
  | .tup ds => ∃ a xs, x = .ref a ∧ H a = some (.tup xs) ∧ RepL K F xs ds ∧ F a = some (.tup xs)
  | .lst ds => ∃ a xs, x = .ref a ∧ H a = some (.lst xs) ∧ RepL K F xs ds
  | .scr l => ∃ a, x = .ref a ∧ SqL K H a (l.map V.int)
  | .dK l => ∃ (a : Addr) (kvs : List (Key × V)), x = .ref a ∧ Rd H a (.dK kvs) ∧ kvs.map (·.1) = l.map (·.1) ∧ RepL K F (kvs.map (·.2)) (l.map (·.2))
  | .dT l => ∃ (a : Addr) (kvs : List (List Key × V)), x = .ref a ∧ Rd H a (.dT kvs) ∧ kvs.map (·.1) = l.map (·.1) ∧ RepL K F (kvs.map (·.2)) (l.map (·.2))
inductive RdL (K : PySem.W.Frag) (H F : Hp) : List V → List D → Prop
  | nil : RdL K H F [] []
  | cons {v : V} {vs : List V} {d : D} {ds : List D} : RdF K H F v d → RdL K H F vs ds → RdL K H F (v :: vs) (d :: ds)
theorem Rep.rd {K : PySem.W.Frag} {H F : Hp} {v : V} {d : D} (h : Rep K F v d) (k : Keep F H) : RdF K H F v d := by
  cases h with
  | non => exact rfl
  | bl b => exact rfl
  | int i => exact rfl
  | str x => exact rfl
  | tup h t => exact ⟨_, _, rfl, k.tup h, t, h⟩
  | lst h t => exact ⟨_, _, rfl, k.lst h, t⟩
  | scr h => exact ⟨_, rfl, k.sqL h⟩
  | dK h e t => exact ⟨_, _, rfl, k.rd h, e, t⟩
  | dT h e t => exact ⟨_, _, rfl, k.rd h, e, t⟩
theorem OwnRep.rd {K : PySem.W.Frag} {H F : Hp} {v : V} {T : Fp} {o : O} (h : OwnRep K H F v T o) : RdF K H F v o.d := by
  cases o with
  | lst l => obtain ⟨a, xs, rfl, _, h1, _, t⟩ := h; exact ⟨_, _, rfl, h1, t⟩
  | dK l => obtain ⟨a, xs, rfl, _, h1, _, e, t⟩ := h; exact ⟨_, _, rfl, .inl h1, e, t⟩
  | dT l => obtain ⟨a, xs, rfl, _, h1, _, e, t⟩ := h; exact ⟨_, _, rfl, .inl h1, e, t⟩

def deref (r : En) : Pl → Option D
  | .v d => some d
  | .s i => match r[i]? with
    | some (.own o) => some o.d
    | some (.fz d) => some d
    | _ => none
  | .n _ => none
def derefL (r : En) : List Pl → Option (List D)
  | [] => some []
  | p :: ps => match deref r p with
    | some d => match derefL r ps with
      | some ds => some (d :: ds)
      | none => none
    | none => none
section
variable {K : PySem.W.Frag} {P : List V} {r : En} {σ : L2.St} {H F : Hp} {Af : Nat → Fp}
theorem PlRep.rd {T : Fp} {v : V} {p : Pl} {d : D} (R : Rel K P r σ H F Af) (h : PlRep K H F Af σ T v p) (e : deref r p = some d) : RdF K H F v d := by
  cases p with
  | v d' => cases e; exact h.1.rd R.keep
  | n o => cases e
  | s i =>
    unfold deref at e
    simp only at e
    cases es : r[i]? with
    | none => rw [es] at e; cases e
    | some sl =>
      rw [es] at e
      cases sl with
      | un => cases e
      | fz d' =>
        cases e
        obtain ⟨⟨v', e1, rp⟩, _⟩ := R.slot i _ es
        rw [h.1] at e1; cases e1
        exact rp.rd R.keep
      | own o =>
        cases e
        obtain ⟨v', e1, rp⟩ := R.slot i _ es
        rw [h.1] at e1; cases e1
        exact rp.rd
theorem PlL.rd (R : Rel K P r σ H F Af) : ∀ {vs : List V} {ps : List Pl} {ds : List D}, PlL K F σ vs ps → derefL r ps = some ds → RdL K H F vs ds
  | _, _, _, .nil, e => by cases e; exact .nil
  | _, _, ds, .v (d := d) (ps := ps) h t, e => by
    unfold derefL at e
    cases e2 : derefL r ps with
    | none => rw [e2] at e; simp [deref] at e
    | some ds' =>
      rw [e2] at e
      simp only [deref] at e
      cases e
      exact .cons (h.rd R.keep) (PlL.rd R t e2)
  | _, _, ds, .s (i := i) (ps := ps) h t, e => by
    unfold derefL at e
    cases e1 : deref r (.s i) with
    | none => rw [e1] at e; cases e
    | some d =>
      cases e2 : derefL r ps with
      | none => rw [e1, e2] at e; cases e
      | some ds' =>
        rw [e1, e2] at e
        cases e
        exact .cons (PlRep.rd (p := .s i) (T := fun _ => False) R ⟨h, fun _ => id⟩ e1) (PlL.rd R t e2)
end
theorem PlL.mono {K : PySem.W.Frag} {F F' : Hp} {σ : L2.St} (s : Same F F') : ∀ {vs : List V} {ps : List Pl}, PlL K F σ vs ps → PlL K F' σ vs ps
  | _, _, .nil => .nil
  | _, _, .v h t => .v (h.mono s) (PlL.mono s t)
  | _, _, .s h t => .s h (PlL.mono s t)

/-- a rule of values, told by data -/
def CallSpec (K : PySem.W.Frag) (r : List V → Hp → VK → Prop) (g : List D → Option Pl) : Prop :=
  ∀ (H F : Hp) (xs : List V) (ds : List D) (z : Pl) (Q : VK), Keep F H → RdL K H F xs ds → g ds = some z → (∀ v H', Out K H F z v H' → Q v H') → r xs H Q
def BinSpec (K : PySem.W.Frag) (r : R2) (g : D → D → Option Pl) : Prop :=
  ∀ (H F : Hp) (x y : V) (d e : D) (z : Pl) (Q : VK), Keep F H → RdF K H F x d → RdF K H F y e → g d e = some z → (∀ v H', Out K H F z v H' → Q v H') → r x y H Q
def UnSpec (K : PySem.W.Frag) (r : V → Hp → VK → Prop) (g : D → Option Pl) : Prop :=
  ∀ (H F : Hp) (x : V) (d : D) (z : Pl) (Q : VK), Keep F H → RdF K H F x d → g d = some z → (∀ v H', Out K H F z v H' → Q v H') → r x H Q
/-- a comparison's answer -/
def CmpSpec (K : PySem.W.Frag) (r : R2) (g : D → D → Option Bool) : Prop :=
  ∀ (H F : Hp) (x y : V) (d e : D) (b : Bool) (Q : VK), Keep F H → RdF K H F x d → RdF K H F y e → g d e = some b → Q (.bl b) H → r x y H Q

/-! ### operands in a row -/
def aNil : M (List Pl) := M.pure []
def aCons (f : M Pl) (fs : M (List Pl)) : M (List Pl) := fun r => match opd f r with
  | .ok p r1 => match fs r1 with
    | .ok ps r2 => .ok (p :: ps) r2
    | .ex x r2 => .ex x r2
    | .st => .st
  | .ex x r1 => .ex x r1
  | .st => .st
theorem opd_ne {f : M Pl} {r r' : En} {o : O} (e : opd f r = .ok (.n o) r') : False := by
  unfold opd at e
  cases q : f r with
  | ex x r1 => rw [q] at e; cases e
  | st => rw [q] at e; cases e
  | ok p r1 =>
    rw [q] at e
    cases p <;> cases e
section
variable {X : Cx} {P : List V} {E : XK} {e : Expr} {es : List Expr} {f : M Pl} {fs : M (List Pl)} {pos : Pos}
theorem da_nil : DA X P E [] aNil := ⟨PA.wk pa_nil fun σ H Q ⟨r, F, Af, R, q⟩ => q [] H F Af Ext.refl R .nil⟩
theorem da_cons (h : DE X P E e f) (hs : DA X P E es fs) (hst : starEach (e :: es) X.env = (false, eval e X.env) :: starEach es X.env := by rfl) : DA X P E (e :: es) (aCons f fs) :=
  ⟨PA.wk (pa_cons h.opd.pe hs.pa hst) fun σ H Q ⟨r, F, Af, R, q⟩ => ⟨r, F, Af, R, by
    unfold aCons at q
    cases e1 : opd f r with
    | ex x r' => rw [e1] at q; exact q
    | st => rw [e1] at q; exact q
    | ok p r1 =>
      rw [e1] at q
      simp only at q
      intro v H1 F1 Af1 T ex1 R1 rp1
      refine ⟨r1, F1, Af1, R1, ?_⟩
      cases e2 : fs r1 with
      | ex x r' => rw [e2] at q; exact PostX.from q ex1.noT
      | st => rw [e2] at q; exact q
      | ok ps r2 =>
        rw [e2] at q
        simp only at q
        intro vs H2 F2 Af2 ex2 R2 rp2
        refine q (v :: vs) H2 F2 Af2 (ex1.noT.trans ex2) R2 ?_
        cases p with
        | v d => exact .v (rp1.1.mono ex2.ff) rp2
        | s i => exact .s rp1.1 rp2
        | n o => exact (opd_ne e1).elim⟩⟩
/-- behind a pure step -/
theorem out_post {K : PySem.W.Frag} {r : En} {σ : L2.St} {H0 F0 : Hp} {A : Fp} {H F : Hp} {Af : Nat → Fp} {z : Pl} {v : V} {H' : Hp} (R : Rel K P r σ H F Af) (ex : Ext H0 F0 A H F (U Af)) (o : Out K H F z v H') :
    ∃ F' T, Ext H0 F0 A H' F' (fun a => U Af a ∨ T a) ∧ Rel K P r σ H' F' Af ∧ PlRep K H' F' Af σ T v z := by
  obtain ⟨F', g, o⟩ := o
  cases z with
  | v d => exact ⟨F', fun _ => False, (ex.trans g.ext).less fun a q => q.elim id False.elim, R.grow g, o, fun _ => id⟩
  | s i => exact o.elim
  | n ob =>
    obtain ⟨T, ow, nw⟩ := o
    refine ⟨F', T, ?_, R.grow g, ow, fun a t u => (R.own u).1 (nw a t)⟩
    have e1 := ex.trans (g.ext (A := U Af))
    refine ⟨e1.fr, e1.dom, e1.ff, e1.new, fun a q => q.elim (e1.own a) fun t => .inr (ex.dom a (nw a t))⟩
def mCall (g : List D → Option Pl) (fs : M (List Pl)) : M Pl := fun r => match fs r with
  | .ok ps r1 => match derefL r1 ps with
    | some ds => match g ds with
      | some z => .ok z r1
      | none => .st
    | none => .st
  | .ex x r1 => .ex x r1
  | .st => .st
theorem mCall_tL {rr : List V → Hp → VK → Prop} {g : List D → Option Pl} (sp : CallSpec X.K rr g) (σ : L2.St) (H : Hp) (Q : VK) (h : tE X.K X.mg P E (mCall g fs) σ H Q) : tL X.K X.mg P E fs σ H fun vs H1 => rr vs H1 Q := by
  obtain ⟨r, F, Af, R, q⟩ := h
  refine ⟨r, F, Af, R, ?_⟩
  unfold mCall at q
  cases e1 : fs r with
  | ex x r' => rw [e1] at q; exact q
  | st => rw [e1] at q; exact q
  | ok ps r1 =>
    rw [e1] at q
    simp only at q
    intro vs H1 F1 Af1 ex1 R1 rp1
    cases e2 : derefL r1 ps with
    | none => rw [e2] at q; exact q.elim
    | some ds =>
      rw [e2] at q
      simp only at q
      cases e3 : g ds with
      | none => rw [e3] at q; exact q.elim
      | some z =>
        rw [e3] at q
        simp only at q
        refine sp H1 F1 vs ds z Q R1.keep (PlL.rd R1 rp1 e2) e3 fun v H' o => ?_
        obtain ⟨F', T, ex2, R2, rp2⟩ := out_post R1 ex1 o
        exact q v H' F' Af1 T ex2 R2 rp2
theorem de_callB {id : String} {x : Str} {p : Pos} {rr : List V → Hp → VK → Prop} {g : List D → Option Pl} (hc : CallR X (.builtin id) rr) (sp : CallSpec X.K rr g) (hg : Gl X x) (hm : X.mg x = none) (hv : bootBuiltins x = some (.builtin id)) (ha : DA X P E (e :: es) fs)
    (hn : x ≠ "__name__" := by decide) (hdb : (x == ("__debug__" : Str)) = false := by decide)
    (he : starEach (e :: es) X.env = (false, eval e X.env) :: starEach es X.env := by rfl) (hpl : (backTo pos (starEach es X.env)).any (·.1) = false := by rfl) : DE X P E (.Call (.Name x p) (e :: es) [] pos) (mCall g fs) :=
  ⟨PE.wk (pe_callB hc hg hm hv ha.pa hn hdb he hpl) (mCall_tL sp)⟩
theorem de_callTy {T : String} {x : Str} {p : Pos} {rr : List V → Hp → VK → Prop} {g : List D → Option Pl} (hc : CallR X (.type T) rr) (sp : CallSpec X.K rr g) (hg : Gl X x) (hm : X.mg x = none) (hv : bootBuiltins x = some (.type T)) (ha : DA X P E (e :: es) fs)
    (hn : x ≠ "__name__" := by decide) (hdb : (x == ("__debug__" : Str)) = false := by decide)
    (he : starEach (e :: es) X.env = (false, eval e X.env) :: starEach es X.env := by rfl) (hpl : (backTo pos (starEach es X.env)).any (·.1) = false := by rfl) : DE X P E (.Call (.Name x p) (e :: es) [] pos) (mCall g fs) :=
  ⟨PE.wk (pe_callTy hc hg hm hv ha.pa hn hdb he hpl) (mCall_tL sp)⟩
end

/-! ### two operands -/
def mBin (g : D → D → Option Pl) (fa fb : M Pl) : M Pl := fun r => match opd fa r with
  | .ok p r1 => match opd fb r1 with
    | .ok q r2 => match deref r2 p, deref r2 q with
      | some d, some e => match g d e with
        | some z => .ok z r2
        | none => .st
      | _, _ => .st
    | .ex x r2 => .ex x r2
    | .st => .st
  | .ex x r1 => .ex x r1
  | .st => .st
def mUn (g : D → Option Pl) (fa : M Pl) : M Pl := fun r => match opd fa r with
  | .ok p r1 => match deref r1 p with
    | some d => match g d with
      | some z => .ok z r1
      | none => .st
    | none => .st
  | .ex x r1 => .ex x r1
  | .st => .st
section
variable {X : Cx} {P : List V} {E : XK} {a b : Expr} {fa fb : M Pl} {pos : Pos}
theorem mBin_t {rr : R2} {g : D → D → Option Pl} (sp : BinSpec X.K rr g) (σ : L2.St) (H : Hp) (Q : VK) (h : tE X.K X.mg P E (mBin g fa fb) σ H Q) : tOp rr (tE X.K X.mg P E (opd fa)) (tE X.K X.mg P E (opd fb)) σ H Q := by
  obtain ⟨r, F, Af, R, q⟩ := h
  refine ⟨r, F, Af, R, ?_⟩
  unfold mBin at q
  cases e1 : opd fa r with
  | ex x r' => rw [e1] at q; exact q
  | st => rw [e1] at q; exact q
  | ok p r1 =>
    rw [e1] at q
    simp only at q
    intro v1 H1 F1 Af1 T1 ex1 R1 rp1
    refine ⟨r1, F1, Af1, R1, ?_⟩
    cases e2 : opd fb r1 with
    | ex x r' => rw [e2] at q; exact PostX.from q ex1.noT
    | st => rw [e2] at q; exact q
    | ok p2 r2 =>
      rw [e2] at q
      simp only at q
      intro v2 H2 F2 Af2 T2 ex2 R2 rp2
      have l1 : PlL X.K F2 σ [v1] [p] := by
        cases p with
        | v d => exact .v (rp1.1.mono ex2.ff) .nil
        | s i => exact .s rp1.1 .nil
        | n o => exact (opd_ne e1).elim
      cases e3 : deref r2 p with
      | none => rw [e3] at q; exact q.elim
      | some d =>
        cases e4 : deref r2 p2 with
        | none => rw [e3, e4] at q; exact q.elim
        | some d2 =>
          rw [e3, e4] at q
          simp only at q
          cases e5 : g d d2 with
          | none => rw [e5] at q; exact q.elim
          | some z =>
            rw [e5] at q
            simp only at q
            have rd1 : RdF X.K H2 F2 v1 d := by
              have t := PlL.rd (ds := [d]) R2 l1 (by unfold derefL; rw [e3]; rfl)
              cases t with
              | cons t _ => exact t
            refine sp H2 F2 v1 v2 d d2 z Q R2.keep rd1 (PlRep.rd R2 rp2 e4) e5 fun v H' o => ?_
            obtain ⟨F', T, ex3, R3, rp3⟩ := out_post R2 (ex1.noT.trans ex2.noT) o
            exact q v H' F' Af2 T ex3 R3 rp3
theorem de_op {op : Operator} {rr : R2} {g : D → D → Option Pl} (ho : OpR X (binaryOp op) rr) (sp : BinSpec X.K rr g) (ha : DE X P E a fa) (hb : DE X P E b fb) : DE X P E (.BinOp a op b pos) (mBin g fa fb) :=
  ⟨PE.wk (pe_op ho ha.opd.pe hb.opd.pe) (mBin_t sp)⟩
theorem de_ix {rr : R2} {g : D → D → Option Pl} (ho : IxR X rr) (sp : BinSpec X.K rr g) (ha : DE X P E a fa) (hb : DE X P E b fb) (hs : PlainIx b) : DE X P E (.Subscript a b pos) (mBin g fa fb) :=
  ⟨PE.wk (pe_ix ho ha.opd.pe hb.opd.pe hs) (mBin_t sp)⟩
theorem de_un {op : UnaryOp} {rr : V → Hp → VK → Prop} {g : D → Option Pl} (ho : UnR X (unaryOp op) rr) (sp : UnSpec X.K rr g) (ha : DE X P E a fa) : DE X P E (.UnaryOp op a pos) (mUn g fa) :=
  ⟨PE.wk (pe_un ho ha.opd.pe) fun σ H Q h => by
    obtain ⟨r, F, Af, R, q⟩ := h
    refine ⟨r, F, Af, R, ?_⟩
    unfold mUn at q
    cases e1 : opd fa r with
    | ex x r' => rw [e1] at q; exact q
    | st => rw [e1] at q; exact q
    | ok p r1 =>
      rw [e1] at q
      simp only at q
      intro v1 H1 F1 Af1 T1 ex1 R1 rp1
      cases e3 : deref r1 p with
      | none => rw [e3] at q; exact q.elim
      | some d =>
        rw [e3] at q
        simp only at q
        cases e5 : g d with
        | none => rw [e5] at q; exact q.elim
        | some z =>
          rw [e5] at q
          simp only at q
          refine sp H1 F1 v1 d z Q R1.keep (PlRep.rd R1 rp1 e3) e5 fun v H' o => ?_
          obtain ⟨F', T, ex3, R3, rp3⟩ := out_post R1 ex1.noT o
          exact q v H' F' Af1 T ex3 R3 rp3⟩
/-! comparisons -/
def bo (g : D → D → Option Bool) : D → D → Option Pl := fun d e => match g d e with
  | some b => some (.v (.bl b))
  | none => none
theorem CmpSpec.bin {K : PySem.W.Frag} {rr : R2} {g : D → D → Option Bool} (sp : CmpSpec K rr g) : BinSpec K rr (bo g) := fun H F x y d e z Q k h1 h2 hz q => by
  unfold bo at hz
  cases e1 : g d e with
  | none => rw [e1] at hz; cases hz
  | some b =>
    rw [e1] at hz
    cases hz
    exact sp H F x y d e b Q k h1 h2 e1 (q _ _ ⟨F, Grow.refl k, .bl b⟩)
theorem bo_n {g : D → D → Option Bool} {d e : D} {o : O} (h : bo g d e = some (.n o)) : False := by
  unfold bo at h
  cases e1 : g d e with
  | none => rw [e1] at h; cases h
  | some b => rw [e1] at h; cases h
theorem mBin_ok {g : D → D → Option Pl} {fa fb : M Pl} {r r' : En} {z : Pl} (h : mBin g fa fb r = .ok z r') : ∃ d e, g d e = some z := by
  unfold mBin at h
  cases e1 : opd fa r with
  | ex x r' => rw [e1] at h; cases h
  | st => rw [e1] at h; cases h
  | ok p r1 =>
    rw [e1] at h
    simp only at h
    cases e2 : opd fb r1 with
    | ex x r' => rw [e2] at h; cases h
    | st => rw [e2] at h; cases h
    | ok p2 r2 =>
      rw [e2] at h
      simp only at h
      cases e3 : deref r2 p with
      | none => rw [e3] at h; cases h
      | some d =>
        cases e4 : deref r2 p2 with
        | none => rw [e3, e4] at h; cases h
        | some d2 =>
          rw [e3, e4] at h
          simp only at h
          cases e5 : g d d2 with
          | none => rw [e5] at h; cases h
          | some z' =>
            rw [e5] at h
            cases h
            exact ⟨_, _, e5⟩
def tst (f : M Pl) : M Bool := fun r => match opd f r with
  | .ok p r1 => match deref r1 p with
    | some (.bl b) => .ok b r1
    | _ => .st
  | .ex x r1 => .ex x r1
  | .st => .st
theorem tst_t {f : M Pl} (σ : L2.St) (H : Hp) (Q : Bool → Hp → Prop) (h : tT X.K X.mg P E (tst f) σ H Q) : tE X.K X.mg P E (opd f) σ H fun x H1 => ∃ k, x = V.bl k ∧ Q k H1 := by
  obtain ⟨r, F, Af, R, q⟩ := h
  refine ⟨r, F, Af, R, ?_⟩
  unfold tst at q
  cases e1 : opd f r with
  | ex x r' => rw [e1] at q; exact q
  | st => rw [e1] at q; exact q
  | ok p r1 =>
    rw [e1] at q
    simp only at q
    intro v1 H1 F1 Af1 T1 ex1 R1 rp1
    cases e3 : deref r1 p with
    | none => rw [e3] at q; exact q.elim
    | some d =>
      rw [e3] at q
      cases d with
      | bl b =>
        simp only at q
        exact ⟨b, PlRep.rd R1 rp1 e3, q H1 F1 Af1 ex1.noT R1⟩
      | _ => exact q.elim
theorem de_cmp {op : CmpOp} {rr : R2} {g : D → D → Option Bool} (ho : OpR X (compareOp op) rr) (sp : CmpSpec X.K rr g) (ha : DE X P E a fa) (hb : DE X P E b fb) (hm : behindInMarks op b = false) : DE X P E (.Compare a [op] [b] pos) (mBin (bo g) fa fb) :=
  ⟨PE.wk (pe_cmpR ho ha.opd.pe hb.opd.pe hm) (mBin_t sp.bin)⟩
theorem dt_cmp {op : CmpOp} {rr : R2} {g : D → D → Option Bool} (ho : OpR X (compareOp op) rr) (sp : CmpSpec X.K rr g) (ha : DE X P E a fa) (hb : DE X P E b fb) (hm : behindInMarks op b = false) : DT X P E (.Compare a [op] [b] pos) (tst (mBin (bo g) fa fb)) :=
  ⟨PT.wk (pt_cmpR ho ha.opd.pe hb.opd.pe hm) fun σ H Q h => by
    have h2 := tst_t σ H Q h
    have h3 : tE X.K X.mg P E (mBin (bo g) fa fb) σ H fun x H1 => ∃ k, x = V.bl k ∧ Q k H1 := by
      obtain ⟨r, F, Af, R, q⟩ := h2
      refine ⟨r, F, Af, R, ?_⟩
      unfold opd at q
      cases e : mBin (bo g) fa fb r with
      | ex x r' => rw [e] at q; exact q
      | st => rw [e] at q; exact q
      | ok p r' =>
        rw [e] at q
        cases p with
        | v d => exact q
        | s i => exact q
        | n o =>
          obtain ⟨d1, d2, hz⟩ := mBin_ok e
          exact (bo_n hz).elim
    exact mBin_t sp.bin σ H _ h3⟩
/-- an expression that gives True or False, as a test -/
theorem dt_val {e : Expr} {f : M Pl} (h : DE X P E e f) (he : ∀ whole, isTrue e X.env whole = (do let v ← whole; standAt e.pos; holding [v] (truthy v)) := by intro _; rfl) : DT X P E e (tst f) :=
  ⟨PT.wk (pt_val h.opd.pe he) fun σ H Q h => tst_t σ H Q h⟩
end
end NT

set_option Elab.async false
set_option linter.all false
set_option maxRecDepth 100000
set_option maxHeartbeats 1000000
namespace NT
open PySem PySem.Spec PyProof.Rows L2

/-! ### tests -/
def mNot (c : M Bool) : M Bool := fun r => match c r with
  | .ok b r1 => .ok (!b) r1
  | .ex x r1 => .ex x r1
  | .st => .st
def mAnd (c d : M Bool) : M Bool := fun r => match c r with
  | .ok b r1 => if b = true then d r1 else .ok false r1
  | .ex x r1 => .ex x r1
  | .st => .st
def mOr (c d : M Bool) : M Bool := fun r => match c r with
  | .ok b r1 => if b = true then .ok true r1 else d r1
  | .ex x r1 => .ex x r1
  | .st => .st
def mIf {α : Type} (c : M Bool) (f g : M α) : M α := fun r => match c r with
  | .ok b r1 => if b = true then f r1 else g r1
  | .ex x r1 => .ex x r1
  | .st => .st
def eAnd (f g : M Pl) : M Pl := fun r => match opd f r with
  | .ok p r1 => match deref r1 p with
    | some (.bl b) => if b = true then g r1 else .ok (.v (.bl false)) r1
    | _ => .st
  | .ex x r1 => .ex x r1
  | .st => .st
def eOr (f g : M Pl) : M Pl := fun r => match opd f r with
  | .ok p r1 => match deref r1 p with
    | some (.bl b) => if b = true then .ok (.v (.bl true)) r1 else g r1
    | _ => .st
  | .ex x r1 => .ex x r1
  | .st => .st
def eNot (f : M Pl) : M Pl := fun r => match opd f r with
  | .ok p r1 => match deref r1 p with
    | some (.bl b) => .ok (.v (.bl !b)) r1
    | _ => .st
  | .ex x r1 => .ex x r1
  | .st => .st
def eChain (g g' : D → D → Option Bool) (fa fb fc : M Pl) : M Pl := fun r => match opd fa r with
  | .ok p r1 => match opd fb r1 with
    | .ok q r2 => match deref r2 p, deref r2 q with
      | some d, some e => match g d e with
        | some b => if b = true then (match opd fc r2 with
          | .ok t r3 => match deref r3 q, deref r3 t with
            | some e', some c => match g' e' c with
              | some b' => .ok (.v (.bl b')) r3
              | none => .st
            | _, _ => .st
          | .ex x r3 => .ex x r3
          | .st => .st) else .ok (.v (.bl false)) r2
        | none => .st
      | _, _ => .st
    | .ex x r2 => .ex x r2
    | .st => .st
  | .ex x r1 => .ex x r1
  | .st => .st
theorem extF {H F H1 F1 : Hp} {A : Fp} {Af : Nat → Fp} (e : Ext H F A H1 F1 (U Af)) : Ext H F A H1 F1 (fun a => U Af a ∨ False) := e.less fun a q => q.elim id False.elim
section
variable {X : Cx} {P : List V} {E : XK} {a b c : Expr} {fa fb fc : M Pl} {ca cb : M Bool} {pos : Pos} {rest : List Expr}
theorem dt_not (h : DT X P E a ca) : DT X P E (.UnaryOp .Not a pos) (mNot ca) := ⟨PT.wk (pt_not h.pt) fun σ H Q ⟨r, F, Af, R, q⟩ => ⟨r, F, Af, R, by
  unfold mNot at q
  cases e : ca r with
  | ok b r1 => rw [e] at q; exact q
  | ex x r1 => rw [e] at q; exact q
  | st => rw [e] at q; exact q⟩⟩
theorem DW.dt {e : Expr} (h : DW X P E e ca) : DT X P E e ca := ⟨h.pw.pt⟩
theorem dw_and1 (h : DT X P E a ca) : DW X P E (.BoolOp .And [a] pos) ca := ⟨pw_and1 h.pt⟩
theorem dw_or1 (h : DT X P E a ca) : DW X P E (.BoolOp .Or [a] pos) ca := ⟨pw_or1 h.pt⟩
theorem dw_and (h : DT X P E a ca) (h2 : DW X P E (.BoolOp .And (b :: rest) pos) cb) : DW X P E (.BoolOp .And (a :: b :: rest) pos) (mAnd ca cb) := ⟨PW.wk (pw_and h.pt h2.pw) fun σ H Q ⟨r, F, Af, R, q⟩ => ⟨r, F, Af, R, by
  unfold mAnd at q
  cases e : ca r with
  | ex x r1 => rw [e] at q; exact q
  | st => rw [e] at q; exact q
  | ok k r1 =>
    rw [e] at q
    intro H1 F1 Af1 ex R1
    cases k with
    | false => rw [if_neg Bool.false_ne_true]; exact q H1 F1 Af1 ex R1
    | true =>
      rw [if_pos rfl]
      simp only [if_pos] at q
      exact ⟨r1, F1, Af1, R1, PostB.from q ex⟩⟩⟩
theorem dw_or (h : DT X P E a ca) (h2 : DW X P E (.BoolOp .Or (b :: rest) pos) cb) : DW X P E (.BoolOp .Or (a :: b :: rest) pos) (mOr ca cb) := ⟨PW.wk (pw_or h.pt h2.pw) fun σ H Q ⟨r, F, Af, R, q⟩ => ⟨r, F, Af, R, by
  unfold mOr at q
  cases e : ca r with
  | ex x r1 => rw [e] at q; exact q
  | st => rw [e] at q; exact q
  | ok k r1 =>
    rw [e] at q
    intro H1 F1 Af1 ex R1
    cases k with
    | true => rw [if_pos rfl]; exact q H1 F1 Af1 ex R1
    | false =>
      rw [if_neg Bool.false_ne_true]
      simp only [if_neg Bool.false_ne_true] at q
      exact ⟨r1, F1, Af1, R1, PostB.from q ex⟩⟩⟩
theorem de_one {op} (h : DE X P E a fa) : DE X P E (.BoolOp op [a] pos) fa := ⟨pe_one h.pe⟩
theorem de_and (h : DE X P E a fa) (h2 : DE X P E (.BoolOp .And (b :: rest) pos) fb) : DE X P E (.BoolOp .And (a :: b :: rest) pos) (eAnd fa fb) := ⟨PE.wk (pe_and h.opd.pe h2.pe) fun σ H Q ⟨r, F, Af, R, q⟩ => ⟨r, F, Af, R, by
  unfold eAnd at q
  cases e : opd fa r with
  | ex x r1 => rw [e] at q; exact q
  | st => rw [e] at q; exact q
  | ok p r1 =>
    rw [e] at q
    simp only at q
    intro v H1 F1 Af1 T ex R1 rp
    cases e2 : deref r1 p with
    | none => rw [e2] at q; exact q.elim
    | some d =>
      rw [e2] at q
      cases d with
      | bl k =>
        simp only at q
        refine ⟨k, PlRep.rd R1 rp e2, ?_⟩
        cases k with
        | false =>
          rw [if_neg Bool.false_ne_true]
          exact q (.bl false) H1 F1 Af1 (fun _ => False) (extF ex.noT) R1 ⟨.bl false, fun _ => id⟩
        | true =>
          rw [if_pos rfl]
          simp only [if_pos] at q
          exact ⟨r1, F1, Af1, R1, Post.from q ex.noT⟩
      | _ => exact q.elim⟩⟩
theorem de_or (h : DE X P E a fa) (h2 : DE X P E (.BoolOp .Or (b :: rest) pos) fb) : DE X P E (.BoolOp .Or (a :: b :: rest) pos) (eOr fa fb) := ⟨PE.wk (pe_or h.opd.pe h2.pe) fun σ H Q ⟨r, F, Af, R, q⟩ => ⟨r, F, Af, R, by
  unfold eOr at q
  cases e : opd fa r with
  | ex x r1 => rw [e] at q; exact q
  | st => rw [e] at q; exact q
  | ok p r1 =>
    rw [e] at q
    simp only at q
    intro v H1 F1 Af1 T ex R1 rp
    cases e2 : deref r1 p with
    | none => rw [e2] at q; exact q.elim
    | some d =>
      rw [e2] at q
      cases d with
      | bl k =>
        simp only at q
        refine ⟨k, PlRep.rd R1 rp e2, ?_⟩
        cases k with
        | true =>
          rw [if_pos rfl]
          exact q (.bl true) H1 F1 Af1 (fun _ => False) (extF ex.noT) R1 ⟨.bl true, fun _ => id⟩
        | false =>
          rw [if_neg Bool.false_ne_true]
          simp only [if_neg Bool.false_ne_true] at q
          exact ⟨r1, F1, Af1, R1, Post.from q ex.noT⟩
      | _ => exact q.elim⟩⟩
theorem de_not (h : DE X P E a fa) : DE X P E (.UnaryOp .Not a pos) (eNot fa) := ⟨PE.wk (pe_not h.opd.pe) fun σ H Q ⟨r, F, Af, R, q⟩ => ⟨r, F, Af, R, by
  unfold eNot at q
  cases e : opd fa r with
  | ex x r1 => rw [e] at q; exact q
  | st => rw [e] at q; exact q
  | ok p r1 =>
    rw [e] at q
    simp only at q
    intro v H1 F1 Af1 T ex R1 rp
    cases e2 : deref r1 p with
    | none => rw [e2] at q; exact q.elim
    | some d =>
      rw [e2] at q
      cases d with
      | bl k => exact ⟨k, PlRep.rd R1 rp e2, q (.bl !k) H1 F1 Af1 (fun _ => False) (extF ex.noT) R1 ⟨.bl !k, fun _ => id⟩⟩
      | _ => exact q.elim⟩⟩
theorem de_if (hc : DT X P E c ca) (ha : DE X P E a fa) (hb : DE X P E b fb) : DE X P E (.IfExp c a b pos) (mIf ca fa fb) := ⟨PE.wk (pe_ifExp hc.pt ha.pe hb.pe) fun σ H Q ⟨r, F, Af, R, q⟩ => ⟨r, F, Af, R, by
  unfold mIf at q
  cases e : ca r with
  | ex x r1 => rw [e] at q; exact q
  | st => rw [e] at q; exact q
  | ok k r1 =>
    rw [e] at q
    intro H1 F1 Af1 ex R1
    cases k with
    | true =>
      rw [if_pos rfl]
      simp only [if_pos] at q
      exact ⟨r1, F1, Af1, R1, Post.from q ex⟩
    | false =>
      rw [if_neg Bool.false_ne_true]
      simp only [if_neg Bool.false_ne_true] at q
      exact ⟨r1, F1, Af1, R1, Post.from q ex⟩⟩⟩
theorem PlL.one {K : PySem.W.Frag} {F F' : Hp} {σ : L2.St} {H : Hp} {Af : Nat → Fp} {T : Fp} {v : V} {p : Pl} (h : PlRep K H F Af σ T v p) (n : ∀ o, p ≠ .n o) (s : Same F F') : PlL K F' σ [v] [p] := by
  cases p with
  | v d => exact .v (h.1.mono s) .nil
  | s i => exact .s h.1 .nil
  | n o => exact (n o rfl).elim
theorem PlL.rd1 {K : PySem.W.Frag} {P : List V} {r : En} {σ : L2.St} {H F : Hp} {Af : Nat → Fp} {v : V} {p : Pl} {d : D} (R : Rel K P r σ H F Af) (l : PlL K F σ [v] [p]) (e : deref r p = some d) : RdF K H F v d := by
  have t := PlL.rd (ds := [d]) R l (by unfold derefL; rw [e]; rfl)
  cases t with
  | cons t _ => exact t
theorem opd_nn {f : M Pl} {r r' : En} {p : Pl} (e : opd f r = .ok p r') : ∀ o, p ≠ .n o := fun o z => opd_ne (z ▸ e)
theorem chain_t {op op' : CmpOp} {rr rr' : R2} {g g' : D → D → Option Bool} (sp : CmpSpec X.K rr g) (sp' : CmpSpec X.K rr' g') (σ : L2.St) (H : Hp) (Q : VK) (h : tE X.K X.mg P E (eChain g g' fa fb fc) σ H Q) :
    tChain rr rr' (tE X.K X.mg P E (opd fa)) (tE X.K X.mg P E (opd fb)) (tE X.K X.mg P E (opd fc)) σ H Q := by
  obtain ⟨r, F, Af, R, q⟩ := h
  refine ⟨r, F, Af, R, ?_⟩
  unfold eChain at q
  cases e1 : opd fa r with
  | ex x r' => rw [e1] at q; exact q
  | st => rw [e1] at q; exact q
  | ok p r1 =>
    rw [e1] at q
    simp only at q
    intro v1 H1 F1 Af1 T1 ex1 R1 rp1
    refine ⟨r1, F1, Af1, R1, ?_⟩
    cases e2 : opd fb r1 with
    | ex x r' => rw [e2] at q; exact PostX.from q ex1.noT
    | st => rw [e2] at q; exact q
    | ok p2 r2 =>
      rw [e2] at q
      simp only at q
      intro v2 H2 F2 Af2 T2 ex2 R2 rp2
      have ex12 := ex1.noT.trans ex2.noT
      cases e3 : deref r2 p with
      | none => rw [e3] at q; exact q.elim
      | some d =>
        cases e4 : deref r2 p2 with
        | none => rw [e3, e4] at q; exact q.elim
        | some d2 =>
          rw [e3, e4] at q
          simp only at q
          cases e5 : g d d2 with
          | none => rw [e5] at q; exact q.elim
          | some k =>
            rw [e5] at q
            simp only at q
            refine sp H2 F2 v1 v2 d d2 k _ R2.keep ((PlL.one rp1 (opd_nn e1) ex2.ff).rd1 R2 e3) (PlRep.rd R2 rp2 e4) e5 ⟨k, rfl, ?_⟩
            cases k with
            | false =>
              rw [if_neg Bool.false_ne_true]
              exact q (.bl false) H2 F2 Af2 (fun _ => False) (extF ex12) R2 ⟨.bl false, fun _ => id⟩
            | true =>
              rw [if_pos rfl]
              simp only [if_pos] at q
              refine ⟨r2, F2, Af2, R2, ?_⟩
              cases e6 : opd fc r2 with
              | ex x r' => rw [e6] at q; exact PostX.from q ex12
              | st => rw [e6] at q; exact q
              | ok p3 r3 =>
                rw [e6] at q
                simp only at q
                intro v3 H3 F3 Af3 T3 ex3 R3 rp3
                cases e7 : deref r3 p2 with
                | none => rw [e7] at q; exact q.elim
                | some d2' =>
                  cases e8 : deref r3 p3 with
                  | none => rw [e7, e8] at q; exact q.elim
                  | some d3 =>
                    rw [e7, e8] at q
                    simp only at q
                    cases e9 : g' d2' d3 with
                    | none => rw [e9] at q; exact q.elim
                    | some k' =>
                      rw [e9] at q
                      simp only at q
                      refine sp' H3 F3 v2 v3 d2' d3 k' _ R3.keep ((PlL.one rp2 (opd_nn e2) ex3.ff).rd1 R3 e7) (PlRep.rd R3 rp3 e8) e9 ?_
                      exact q (.bl k') H3 F3 Af3 (fun _ => False) (extF (ex12.trans ex3.noT)) R3 ⟨.bl k', fun _ => id⟩
theorem de_chain {op op' : CmpOp} {rr rr' : R2} {g g' : D → D → Option Bool} (ho : OpR X (compareOp op) rr) (sp : CmpSpec X.K rr g) (ho' : OpR X (compareOp op') rr') (sp' : CmpSpec X.K rr' g') (ha : DE X P E a fa) (hb : DE X P E b fb) (hc : DE X P E c fc)
    (hm : lastMarks [op, op'] [b, c] = false := by with_unfolding_all rfl) : DE X P E (.Compare a [op, op'] [b, c] pos) (eChain g g' fa fb fc) :=
  ⟨PE.wk (pe_chain ho ho' ha.opd.pe hb.opd.pe hc.opd.pe hm) (chain_t (op := op) (op' := op') sp sp')⟩
theorem eChain_nn {g g' : D → D → Option Bool} {r r' : En} {p : Pl} (h : eChain g g' fa fb fc r = .ok p r') : ∃ b, p = .v (.bl b) := by
  unfold eChain at h
  cases e1 : opd fa r with
  | ex x r' => rw [e1] at h; cases h
  | st => rw [e1] at h; cases h
  | ok p r1 =>
    rw [e1] at h
    simp only at h
    cases e2 : opd fb r1 with
    | ex x r' => rw [e2] at h; cases h
    | st => rw [e2] at h; cases h
    | ok p2 r2 =>
      rw [e2] at h
      simp only at h
      cases e3 : deref r2 p with
      | none => rw [e3] at h; cases h
      | some d =>
        cases e4 : deref r2 p2 with
        | none => rw [e3, e4] at h; cases h
        | some d2 =>
          rw [e3, e4] at h
          simp only at h
          cases e5 : g d d2 with
          | none => rw [e5] at h; cases h
          | some k =>
            rw [e5] at h
            cases k with
            | false => cases h; exact ⟨_, rfl⟩
            | true =>
              simp only [if_pos] at h
              cases e6 : opd fc r2 with
              | ex x r' => rw [e6] at h; cases h
              | st => rw [e6] at h; cases h
              | ok p3 r3 =>
                rw [e6] at h
                simp only at h
                cases e7 : deref r3 p2 with
                | none => rw [e7] at h; cases h
                | some d2' =>
                  cases e8 : deref r3 p3 with
                  | none => rw [e7, e8] at h; cases h
                  | some d3 =>
                    rw [e7, e8] at h
                    simp only at h
                    cases e9 : g' d2' d3 with
                    | none => rw [e9] at h; cases h
                    | some k' => rw [e9] at h; cases h; exact ⟨_, rfl⟩
theorem dt_chain {op op' : CmpOp} {rr rr' : R2} {g g' : D → D → Option Bool} (ho : OpR X (compareOp op) rr) (sp : CmpSpec X.K rr g) (ho' : OpR X (compareOp op') rr') (sp' : CmpSpec X.K rr' g') (ha : DE X P E a fa) (hb : DE X P E b fb) (hc : DE X P E c fc)
    (hm : lastMarks [op, op'] [b, c] = false := by with_unfolding_all rfl) : DT X P E (.Compare a [op, op'] [b, c] pos) (tst (eChain g g' fa fb fc)) :=
  ⟨PT.wk (pt_chain ho ho' ha.opd.pe hb.opd.pe hc.opd.pe hm) fun σ H Q h => by
    have h2 := tst_t σ H Q h
    refine chain_t (op := op) (op' := op') sp sp' σ H _ ?_
    obtain ⟨r, F, Af, R, q⟩ := h2
    refine ⟨r, F, Af, R, ?_⟩
    unfold opd at q
    cases e : eChain g g' fa fb fc r with
    | ex x r' => rw [e] at q; exact q
    | st => rw [e] at q; exact q
    | ok p r' =>
      rw [e] at q
      obtain ⟨k, rfl⟩ := eChain_nn e
      exact q⟩
end
end NT

set_option Elab.async false
set_option linter.all false
set_option maxRecDepth 100000
set_option maxHeartbeats 1000000
namespace NT
open PySem PySem.Spec PyProof.Rows L2

/-! ### statements -/
def sNil : En → RS := .nx
def sSeq (f g : En → RS) : En → RS := fun r => match f r with
  | .nx r1 => g r1
  | .rt p r1 => .rt p r1
  | .bk r1 => .bk r1
  | .ct r1 => .ct r1
  | .ex x r1 => .ex x r1
  | .st => .st
def sIf (c : M Bool) (f g : En → RS) : En → RS := fun r => match c r with
  | .ok b r1 => if b = true then f r1 else g r1
  | .ex x r1 => .ex x r1
  | .st => .st
def sNever : En → RS := fun _ => .st
def sBreak : En → RS := .bk
def sCont : En → RS := .ct
def sRetN : En → RS := .rt (.v .non)
def sRet (f : M Pl) : En → RS := fun r => match f r with
  | .ok (.s i) r1 => match r1[i]? with
    | some (.own o) => .rt (.n o) (r1.set i .un)
    | some (.fz d) => .rt (.v d) r1
    | _ => .st
  | .ok p r1 => .rt p r1
  | .ex x r1 => .ex x r1
  | .st => .st
def sExpr (f : M Pl) : En → RS := fun r => match f r with
  | .ok _ r1 => .nx r1
  | .ex x r1 => .ex x r1
  | .st => .st
/-- name i = f: a new object is the name's own, anything else is made fast -/
def sSet (i : Nat) (f : M Pl) : En → RS := fun r => match f r with
  | .ok (.n o) r1 => if i < r1.length then .nx (r1.set i (.own o)) else .st
  | .ok p r1 => match frz (fun _ => .ok p r1) r with
    | .ok d r2 => if i < r2.length then .nx (r2.set i (.fz d)) else .st
    | _ => .st
  | .ex x r1 => .ex x r1
  | .st => .st
section
variable {X : Cx} {P : List V} {E : XK} {e : Expr} {f : M Pl} {s : Stmt} {ss : List Stmt} {g h k : En → RS} {c : M Bool} {pos : Pos}
theorem db_nil : DB X P E [] sNil := ⟨PSs.wk pss_nil fun Z σ H ⟨r, F, Af, R, q⟩ => q σ H F Af Ext.refl R⟩
theorem seq_t (Z : Ends) (σ : L2.St) (H : Hp) (hq : tS X.K X.mg P E (sSeq g h) Z σ H) : tSeq (tS X.K X.mg P E g) (tS X.K X.mg P E h) Z σ H := by
  obtain ⟨r, F, Af, R, q⟩ := hq
  refine ⟨r, F, Af, R, ?_⟩
  unfold sSeq at q
  cases e : g r with
  | nx r1 =>
    rw [e] at q
    exact fun σ' H' F' Af' ex R' => ⟨r1, F', Af', R', PostS.from q ex⟩
  | rt p r1 => rw [e] at q; exact q
  | bk r1 => rw [e] at q; exact q
  | ct r1 => rw [e] at q; exact q
  | ex x r1 => rw [e] at q; exact q
  | st => rw [e] at q; exact q
theorem db_cons (h1 : DS X P E s g) (h2 : DB X P E ss h) : DB X P E (s :: ss) (sSeq g h) := ⟨PSs.wk (pss_cons h1.ps h2.pss) seq_t⟩
theorem db_one (h1 : DS X P E s g) : DB X P E [s] g := ⟨pss_one h1.ps⟩
theorem db_never : DB X P E ss sNever := ⟨PSs.wk pss_never fun Z σ H ⟨r, F, Af, R, q⟩ => q⟩
theorem ds_never : DS X P E s sNever := ⟨PS.wk ps_never fun Z σ H ⟨r, F, Af, R, q⟩ => q⟩
theorem ds_break : DS X P E (.Break pos) sBreak := ⟨PS.wk ps_break fun Z σ H ⟨r, F, Af, R, q⟩ => q σ H F Af Ext.refl R⟩
theorem ds_cont : DS X P E (.Continue pos) sCont := ⟨PS.wk ps_continue fun Z σ H ⟨r, F, Af, R, q⟩ => q σ H F Af Ext.refl R⟩
theorem ds_pass : DS X P E (.Pass pos) sNil := ⟨PS.wk ps_pass fun Z σ H ⟨r, F, Af, R, q⟩ => q σ H F Af Ext.refl R⟩
theorem ds_if {e : Expr} {a b : List Stmt} (hc : DT X P E e c) (ha : DB X P E a g) (hb : DB X P E b h) : DS X P E (.If e a b pos) (sIf c g h) := ⟨PS.wk (ps_if hc.pt ha.pss hb.pss) fun Z σ H ⟨r, F, Af, R, q⟩ => ⟨r, F, Af, R, by
  unfold sIf at q
  cases e : c r with
  | ex x r1 => rw [e] at q; exact q
  | st => rw [e] at q; exact q
  | ok k r1 =>
    rw [e] at q
    intro H1 F1 Af1 ex R1
    cases k with
    | true =>
      rw [if_pos rfl]
      simp only [if_pos] at q
      exact ⟨r1, F1, Af1, R1, PostS.from q ex⟩
    | false =>
      rw [if_neg Bool.false_ne_true]
      simp only [if_neg Bool.false_ne_true] at q
      exact ⟨r1, F1, Af1, R1, PostS.from q ex⟩⟩⟩
theorem ds_retN : DS X P E (.Return none pos) sRetN := ⟨PS.wk ps_retN fun Z σ H ⟨r, F, Af, R, q⟩ => q .non σ H F Af (fun _ => False) (extF Ext.refl) R ⟨.non, fun _ => id⟩⟩
/-- a slot gives up its object -/
theorem give_rel {K : PySem.W.Frag} {P : List V} {r : En} {σ : L2.St} {H F : Hp} {Af : Nat → Fp} {i : Nat} {o : O} {v : V} {H0 F0 : Hp} {A : Fp} (R : Rel K P r σ H F Af) (ex : Ext H0 F0 A H F (U Af)) (es : r[i]? = some (.own o)) (hv : σ[i]? = some (some v)) :
    ∃ Af', Ext H0 F0 A H F (fun a => U Af' a ∨ Af i a) ∧ Rel K P (r.set i .un) σ H F Af' ∧ OwnRep K H F v (Af i) o ∧ ∀ a, Af i a → ¬ U Af' a := by
  obtain ⟨v', e1, rp⟩ := R.slot i _ es
  rw [hv] at e1; cases e1
  have hi : i < r.length := (List.getElem?_eq_some_iff.mp es).1
  refine ⟨_, ?_, set_rel R i .un (fun _ => False) (fun _ z => z.elim) (fun _ => id) hi, rp, ?_⟩
  · exact ex.less fun a z => by
      rcases z with ⟨j, z⟩ | z
      · by_cases hj : j = i
        · simp only [if_pos hj] at z
        · simp only [if_neg hj] at z; exact ⟨j, z⟩
      · exact ⟨i, z⟩
  · rintro a t ⟨j, z⟩
    by_cases hj : j = i
    · simp only [if_pos hj] at z
    · simp only [if_neg hj] at z; exact hj (R.dis j i a z t)
theorem ds_ret (he : DE X P E e f) : DS X P E (.Return (some e) pos) (sRet f) := ⟨PS.wk (ps_ret he.pe) fun Z σ H ⟨r, F, Af, R, q⟩ => ⟨r, F, Af, R, by
  unfold sRet at q
  cases e : f r with
  | ex x r1 => rw [e] at q; exact q
  | st => rw [e] at q; exact q
  | ok p r1 =>
    rw [e] at q
    intro v H1 F1 Af1 T ex R1 rp
    cases p with
    | v d => exact q v σ H1 F1 Af1 T ex R1 rp
    | n o => exact q v σ H1 F1 Af1 T ex R1 rp
    | s i =>
      simp only at q
      cases es : r1[i]? with
      | none => rw [es] at q; exact q.elim
      | some sl =>
        rw [es] at q
        cases sl with
        | un => exact q.elim
        | fz d =>
          obtain ⟨⟨v', e1, rp'⟩, _⟩ := R1.slot i _ es
          rw [rp.1] at e1; cases e1
          exact q v σ H1 F1 Af1 (fun _ => False) (extF ex.noT) R1 ⟨rp', fun _ => id⟩
        | own o =>
          obtain ⟨Af2, e2, R2, rp2, n2⟩ := give_rel R1 ex.noT es rp.1
          exact q v σ H1 F1 Af2 (Af1 i) e2 R2 ⟨rp2, n2⟩⟩⟩
theorem ds_expr (he : DE X P E e f) (hs : swapsWith e none pos.line X.env = pure false := by rfl) : DS X P E (.Expr e pos) (sExpr f) := ⟨PS.wk (ps_expr he.pe hs) fun Z σ H ⟨r, F, Af, R, q⟩ => ⟨r, F, Af, R, by
  unfold sExpr at q
  cases e : f r with
  | ex x r1 => rw [e] at q; exact q
  | st => rw [e] at q; exact q
  | ok p r1 =>
    rw [e] at q
    exact fun v H1 F1 Af1 T ex R1 rp => q σ H1 F1 Af1 ex.noT R1⟩⟩
/-- a slot of the frame itself is stored -/
theorem put_rel {K : PySem.W.Frag} {P : List V} {r : En} {σ : L2.St} {H F : Hp} {Af : Nat → Fp} (R : Rel K P r σ H F Af) (i : Nat) (s : Sl) (v : V) (T : Fp) (hP : P.length ≤ i) (hT : ∀ a, T a → ¬ ∃ j, j ≠ i ∧ Af j a) (h : SlRep K H F (some (some v)) T s) (hi : i < r.length) :
    Rel K P (r.set i s) (σ.set i (some v)) H F (fun j => if j = i then T else Af j) where
  len := by rw [List.length_set, List.length_set]; exact R.len
  keep := R.keep
  par := fun j w e => by
    have hj : j < P.length := (List.getElem?_eq_some_iff.mp e).1
    rw [List.getElem?_set_ne (by omega)]
    exact R.par j w e
  slot := fun j t e => by
    by_cases hj : j = i
    · subst hj
      rw [List.getElem?_set_self hi] at e; cases e
      rw [List.getElem?_set_self (by rw [← R.len]; exact hi)]
      simp only [if_pos rfl]; exact h
    · rw [List.getElem?_set_ne (Ne.symm hj)] at e
      rw [List.getElem?_set_ne (Ne.symm hj)]
      simp only [if_neg hj]; exact R.slot j t e
  out := fun j e a => by
    have hj : j ≠ i := fun z => by
      subst z
      rw [List.getElem?_set_self hi] at e; cases e
    rw [List.getElem?_set_ne (Ne.symm hj)] at e
    simp only [if_neg hj]; exact R.out j e a
  dis := fun j k a h1 h2 => by
    by_cases hj : j = i
    · subst hj
      by_cases hk : k = j
      · exact hk.symm
      · simp only [if_neg hk] at h2
        simp only [if_pos rfl] at h1
        exact (hT a h1 ⟨k, hk, h2⟩).elim
    · simp only [if_neg hj] at h1
      by_cases hk : k = i
      · subst hk
        simp only [if_pos rfl] at h2
        exact (hT a h2 ⟨j, hj, h1⟩).elim
      · simp only [if_neg hk] at h2
        exact R.dis j k a h1 h2
theorem put_ext {H F H1 F1 : Hp} {A T : Fp} {Af : Nat → Fp} {i : Nat} (ex : Ext H F A H1 F1 (fun a => U Af a ∨ T a)) : Ext H F A H1 F1 (U fun j => if j = i then T else Af j) := ex.less fun a ⟨j, z⟩ => by
  by_cases hj : j = i
  · simp only [if_pos hj] at z; exact .inr z
  · simp only [if_neg hj] at z; exact .inl ⟨j, z⟩
theorem frz_at {K : PySem.W.Frag} {mg : Str → Option Value} {H0 F0 H F : Hp} {A : Fp} {Af : Nat → Fp} {T : Fp} {r0 r r' : En} {σ : L2.St} {p : Pl} {d : D} {v : V} (R : Rel K P r σ H F Af) (ex : Ext H0 F0 A H F (fun a => U Af a ∨ T a)) (rp : PlRep K H F Af σ T v p)
    (hf : frz (fun _ => .ok p r) r0 = .ok d r') : ∃ F' Af', Ext H0 F0 A H F' (U Af') ∧ Rel K P r' σ H F' Af' ∧ Rep K F' v d := by
  unfold frz at hf
  cases p with
  | v d' => cases hf; exact ⟨F, Af, ex.noT, R, rp.1⟩
  | n o =>
    cases hf
    obtain ⟨F2, e2, R2, r2⟩ := fast_step ex R rp.1 rp.2
    exact ⟨F2, Af, e2, R2, r2⟩
  | s i =>
    simp only at hf
    cases es : r[i]? with
    | none => rw [es] at hf; cases hf
    | some sl =>
      rw [es] at hf
      cases sl with
      | un => cases hf
      | fz d' =>
        cases hf
        obtain ⟨⟨v', e1, rp'⟩, _⟩ := R.slot i _ es
        rw [rp.1] at e1; cases e1
        exact ⟨F, Af, ex.noT, R, rp'⟩
      | own o =>
        cases hf
        obtain ⟨Af2, e2, R2, rp2, n2⟩ := give_rel R ex.noT es rp.1
        obtain ⟨F3, e3, R3, r3⟩ := fast_step e2 R2 rp2 n2
        have hi : i < r.length := (List.getElem?_eq_some_iff.mp es).1
        have R4 := set_rel R3 i (.fz o.d) (fun _ => False) (fun _ z => z.elim) ⟨⟨v, rp.1, r3⟩, fun _ => id⟩ (by rw [List.length_set]; exact hi)
        rw [List.set_set] at R4
        exact ⟨F3, _, e3.less fun a ⟨j, z⟩ => by
            by_cases hj : j = i
            · simp only [if_pos hj] at z
            · simp only [if_neg hj] at z; exact ⟨j, z⟩, R4, r3⟩
theorem set_t {i : Nat} (hP : P.length ≤ i) (Z : Ends) (σ : L2.St) (H : Hp) (h : tS X.K X.mg P E (sSet i f) Z σ H) : tAsg (tE X.K X.mg P E f) (gName i) Z σ H := by
  obtain ⟨r, F, Af, R, q⟩ := h
  refine ⟨r, F, Af, R, ?_⟩
  unfold sSet at q
  cases e : f r with
  | ex x r1 => rw [e] at q; exact q
  | st => rw [e] at q; exact q
  | ok p r1 =>
  rw [e] at q
  intro v H1 F1 Af1 T ex R1 rp
  have gen : ∀ d r2, frz (fun _ => .ok p r1) r = .ok d r2 → PostS X.K X.mg P E H F Af (if i < r2.length then .nx (r2.set i (.fz d)) else .st) Z → gName i v σ H1 Z.nx := fun d r2 hz q => by
    obtain ⟨F2, Af2, e2, R2, r2'⟩ := frz_at (mg := X.mg) R1 ex rp hz
    by_cases hl : i < r2.length
    · rw [if_pos hl] at q
      exact q _ H1 F2 _ (put_ext (extF e2)) (put_rel R2 i (.fz d) v (fun _ => False) hP (fun _ z => z.elim) ⟨⟨v, rfl, r2'⟩, fun _ => id⟩ hl)
    · rw [if_neg hl] at q; exact q.elim
  cases p with
  | n o =>
    simp only at q
    by_cases hl : i < r1.length
    · rw [if_pos hl] at q
      exact q _ H1 F1 _ (put_ext ex) (put_rel R1 i (.own o) v T hP (fun a t ⟨j, _, z⟩ => rp.2 a t ⟨j, z⟩) ⟨v, rfl, rp.1⟩ hl)
    · rw [if_neg hl] at q; exact q.elim
  | v d =>
    simp only at q
    cases hz : frz (fun _ => .ok (.v d) r1) r with
    | ok d' r2 => rw [hz] at q; exact gen d' r2 hz q
    | ex x r2 => rw [hz] at q; exact q.elim
    | st => rw [hz] at q; exact q.elim
  | s j =>
    simp only at q
    cases hz : frz (fun _ => .ok (.s j) r1) r with
    | ok d' r2 => rw [hz] at q; exact gen d' r2 hz q
    | ex x r2 => rw [hz] at q; exact q.elim
    | st => rw [hz] at q; exact q.elim
theorem ds_set {i : Nat} {x : Str} {pos' : Pos} (hN : X.N.Nodup) (hi : X.N[i]? = some x) (hx : Loc X.env.scope x) (hP : P.length ≤ i) (he : DE X P E e f) (hs : swapsWith e (some (.Name x pos')) pos.line X.env = pure false := by rfl) (hf : X.fn x = true ∨ X.env.scope.names.lookup x = some .local := by first | exact .inl rfl | exact .inr rfl | assumption) :
    DS X P E (.Assign [.Name x pos'] e pos) (sSet i f) := ⟨PS.wk (ps_set hN hi hx he.pe hs hf) (set_t hP)⟩
end

/-! ### targets -/
def PostG (K : PySem.W.Frag) (mg : Str → Option Value) (P : List V) (E : XK) (sl : List Nat) (σ : L2.St) (H F : Hp) (Af : Nat → Fp) (r : R Unit) (Q : L2.St → Hp → Prop) : Prop := match r with
  | .ok _ r' => ∀ σ' H' F' Af', σ'.length = σ.length → (∀ j, j ∉ sl → σ'[j]? = σ[j]?) → Ext H F (U Af) H' F' (U Af') → Rel K P r' σ' H' F' Af' → Q σ' H'
  | .ex x r' => PostX K mg P E H F Af x r' (fun _ => True)
  | .st => False
def tG (K : PySem.W.Frag) (mg : Str → Option Value) (P : List V) (E : XK) (sl : List Nat) (f : D → M Unit) : TG := fun v σ H Q => ∃ d r F Af, Rel K P r σ H F Af ∧ Rep K F v d ∧ PostG K mg P E sl σ H F Af (f d r) Q
def tGs (K : PySem.W.Frag) (mg : Str → Option Value) (P : List V) (E : XK) (sl : List Nat) (f : List D → M Unit) : TGs := fun vs σ H Q => ∃ ds r F Af, Rel K P r σ H F Af ∧ RepL K F vs ds ∧ PostG K mg P E sl σ H F Af (f ds r) Q
structure DG (X : Cx) (P : List V) (E : XK) (sl : List Nat) (e : Expr) (f : D → M Unit) : Prop where
  pg : PG X e (tG X.K X.mg P E sl f)
structure DGs (X : Cx) (P : List V) (E : XK) (sl : List Nat) (e : List Expr) (f : List D → M Unit) : Prop where
  pgs : PGs X e (tGs X.K X.mg P E sl f)
theorem PG.wk {X : Cx} {e : Expr} {t t' : TG} (h : PG X e t) (k : ∀ v σ H Q, t' v σ H Q → t v σ H Q) : PG X e t' := ⟨fun pins s σ H v u Q I rv q => h.run pins s σ H v u Q I rv (k v σ H Q q)⟩
theorem PGs.wk {X : Cx} {e : List Expr} {t t' : TGs} (h : PGs X e t) (k : ∀ v σ H Q, t' v σ H Q → t v σ H Q) : PGs X e t' := ⟨fun pins s σ H v u Q I rv q => h.run pins s σ H v u Q I rv (k v σ H Q q)⟩
def gN (i : Nat) : D → M Unit := fun d r => if i < r.length then .ok () (r.set i (.fz d)) else .st
def gsNil : List D → M Unit := fun ds r => match ds with
  | [] => .ok () r
  | _ :: _ => .st
def gsCons (f : D → M Unit) (fs : List D → M Unit) : List D → M Unit := fun ds r => match ds with
  | [] => .st
  | d :: ds' => match f d r with
    | .ok _ r1 => fs ds' r1
    | .ex x r1 => .ex x r1
    | .st => .st
def gT (n : Nat) (fs : List D → M Unit) : D → M Unit := fun d r => match d with
  | .tup ds => if ds.length = n then fs ds r else .st
  | _ => .st
section
variable {X : Cx} {P : List V} {E : XK} {sl : List Nat} {e : Expr} {es : List Expr} {f : D → M Unit} {fs : List D → M Unit} {pos : Pos}
theorem dg_name {i : Nat} {x : Str} (hN : X.N.Nodup) (hi : X.N[i]? = some x) (hx : Loc X.env.scope x) (hP : P.length ≤ i) (hs : i ∈ sl) (hf : X.fn x = true ∨ X.env.scope.names.lookup x = some .local := by first | exact .inl rfl | exact .inr rfl | assumption) : DG X P E sl (.Name x pos) (gN i) :=
  ⟨PG.wk (pg_name hN hi hx hf) fun v σ H Q ⟨d, r, F, Af, R, rp, q⟩ => by
    unfold gN at q
    by_cases hl : i < r.length
    · rw [if_pos hl] at q
      exact q _ H F _ (by rw [List.length_set]) (fun j hj => List.getElem?_set_ne fun z => hj (by rw [← z]; exact hs)) (put_ext (extF Ext.refl)) (put_rel R i (.fz d) v (fun _ => False) hP (fun _ z => z.elim) ⟨⟨v, rfl, rp⟩, fun _ => id⟩ hl)
    · rw [if_neg hl] at q; exact q.elim⟩
theorem dgs_nil : DGs X P E sl [] gsNil := ⟨PGs.wk pgs_nil fun vs σ H Q ⟨ds, r, F, Af, R, rp, q⟩ => by
  cases rp with
  | nil => exact ⟨rfl, q σ H F Af rfl (fun _ _ => rfl) Ext.refl R⟩
  | cons _ _ => exact q.elim⟩
theorem dgs_cons (h : DG X P E sl e f) (hs : DGs X P E sl es fs) (hse : (assignEach (e :: es) X.env).map (·.2) = assign e X.env :: (assignEach es X.env).map (·.2) := by rfl) : DGs X P E sl (e :: es) (gsCons f fs) :=
  ⟨PGs.wk (pgs_cons h.pg hs.pgs hse) fun vs σ H Q ⟨ds, r, F, Af, R, rp, q⟩ => by
    cases rp with
    | nil => exact q.elim
    | @cons v vs d ds hr ht =>
      refine ⟨v, vs, rfl, d, r, F, Af, R, hr, ?_⟩
      unfold gsCons at q
      simp only at q
      cases e1 : f d r with
      | st => rw [e1] at q; exact q
      | ex x r1 => rw [e1] at q; exact q
      | ok u r1 =>
        rw [e1] at q
        simp only at q
        intro σ1 H1 F1 Af1 l1 n1 ex1 R1
        refine ⟨ds, r1, F1, Af1, R1, ht.mono ex1.ff, ?_⟩
        cases e2 : fs ds r1 with
        | st => rw [e2] at q; exact q
        | ex x r2 => rw [e2] at q; exact PostX.from q ex1
        | ok u2 r2 =>
          rw [e2] at q
          exact fun σ2 H2 F2 Af2 l2 n2 ex2 R2 => q σ2 H2 F2 Af2 (l2.trans l1) (fun j hj => (n2 j hj).trans (n1 j hj)) (ex1.trans ex2) R2⟩
theorem dg_tup {k n : Nat} (hc : X.calm = true) (h : DGs X P E sl es fs) (hn : (assignEach es X.env).length = n := by rfl) (hst : (assignEach es X.env).findIdx? (·.1) = none := by rfl) : DG X P E sl (.Tuple es k pos) (gT n fs) :=
  ⟨PG.wk (pg_tup hc h.pgs hn hst) fun v σ H Q ⟨d, r, F, Af, R, rp, q⟩ => by
    unfold gT at q
    cases rp with
    | @tup a xs ds hq ht =>
      simp only at q
      by_cases hl : ds.length = n
      · rw [if_pos hl] at q
        exact ⟨a, xs, rfl, .inl (.inl (R.keep.tup hq)), ht.length.trans hl, ds, r, F, Af, R, ht, q⟩
      · rw [if_neg hl] at q; exact q.elim
    | _ => exact q.elim⟩
/-- target = value, the value made fast -/
def sAsg (f : M D) (g : D → M Unit) : En → RS := fun r => match f r with
  | .ok d r1 => match g d r1 with
    | .ok _ r2 => .nx r2
    | .ex x r2 => .ex x r2
    | .st => .st
  | .ex x r1 => .ex x r1
  | .st => .st
theorem ds_asg {tg : Expr} {fv : M D} (he : DF X P E e fv) (hg : DG X P E sl tg f) (hs : swapsWithSole [tg] e pos.line X.env = pure false := by rfl) (hw : swappedStores [tg] e X.env = pure none := by rfl)
    (h1 : (assignEach [tg] X.env).map (·.2) = [assign tg X.env] := by rfl) : DS X P E (.Assign [tg] e pos) (sAsg fv f) := ⟨PS.wk (ps_asg he.pe hg.pg hs hw h1) fun Z σ H ⟨r, F, Af, R, q⟩ => ⟨r, F, Af, R, by
  unfold sAsg at q
  cases e1 : fv r with
  | ex x r1 => rw [e1] at q; exact q
  | st => rw [e1] at q; exact q
  | ok d r1 =>
    rw [e1] at q
    simp only at q
    intro v H1 F1 Af1 ex1 R1 rp1
    refine ⟨d, r1, F1, Af1, R1, rp1, ?_⟩
    cases e2 : f d r1 with
    | ex x r2 => rw [e2] at q; exact PostX.from q ex1
    | st => rw [e2] at q; exact q
    | ok u r2 =>
      rw [e2] at q
      exact fun σ2 H2 F2 Af2 _ _ ex2 R2 => q σ2 H2 F2 Af2 (ex1.trans ex2) R2⟩⟩
end

/-! ### loops -/
def OutV (K : PySem.W.Frag) (H F : Hp) (d : D) (v : V) (H' : Hp) : Prop := ∃ F', Grow H F H' F' ∧ Rep K F' v d
/-- the walk J gives the data ds, whatever is laid besides -/
def ItOk (K : PySem.W.Frag) (J : It) (F0 G0 : Hp) (ds : List D) : Prop := ∀ H F, Same F0 F → Same G0 H → Keep F H → ∀ i, (ds.length ≤ i → i ≤ ds.length → J.stop i H) ∧ ∀ d, ds[i]? = some d → J.go i H ∧ ∀ x H', J.yld i H x H' → OutV K H F d x H'
theorem ItOk.mono {K : PySem.W.Frag} {J : It} {F0 F1 G0 : Hp} {ds : List D} (h : ItOk K J F0 G0 ds) (s : Same F0 F1) : ItOk K J F1 G0 ds := fun H F e g k i => h H F (s.trans e) g k i
/-- what a walk holds locked stands and is nobody's -/
def Held (G0 H : Hp) (A : Fp) : Prop := Same G0 H ∧ ∀ a, G0 a ≠ none → ¬ A a
theorem Held.none {H : Hp} {A : Fp} : Held (fun _ => none) H A := ⟨fun a o e => (by cases e), fun a h => (h rfl).elim⟩
theorem Held.ext {G0 H F H' F' : Hp} {A A' : Fp} (h : Held G0 H A) (e : Ext H F A H' F' A') : Held G0 H' A' := ⟨fun a o q => e.fr a o (h.1 a o q) (h.2 a (by rw [q]; simp)), fun a n z => by
  rcases e.own a z with q | q
  · exact h.2 a n q
  · cases g : G0 a with
    | none => exact n g
    | some o => have := h.1 a o g; rw [q] at this; cases this⟩
def PostI (K : PySem.W.Frag) (mg : Str → Option Value) (P : List V) (E : XK) (σ : L2.St) (H F : Hp) (Af : Nat → Fp) (r : R (List D)) (Q : It → Hp → Prop) : Prop := match r with
  | .ok ds r' => ∀ J G0 H' F' Af', Ext H F (U Af) H' F' (U Af') → Rel K P r' σ H' F' Af' → Held G0 H' (U Af') → ItOk K J F' G0 ds → Q J H'
  | .ex x r' => PostX K mg P E H F Af x r' (fun _ => True)
  | .st => False
def tI (K : PySem.W.Frag) (mg : Str → Option Value) (P : List V) (E : XK) (f : M (List D)) : TI := fun σ H Q => ∃ r F Af, Rel K P r σ H F Af ∧ PostI K mg P E σ H F Af (f r) Q
structure DI (X : Cx) (P : List V) (E : XK) (tg e : Expr) (f : M (List D)) : Prop where
  pi : PI X tg e (tI X.K X.mg P E f)
theorem PI.wk {X : Cx} {tg e : Expr} {t t' : TI} (h : PI X tg e t) (k : ∀ σ H Q, t' σ H Q → t σ H Q) : PI X tg e t' := ⟨fun pins s σ H Q I q => h.run pins s σ H Q I (k σ H Q q)⟩
def forL (g : D → M Unit) (b : En → RS) : List D → En → RS
  | [], r => .nx r
  | d :: ds, r => match g d r with
    | .ok _ r1 => match b r1 with
      | .nx r2 => forL g b ds r2
      | .ct r2 => forL g b ds r2
      | .bk r2 => .nx r2
      | .rt p r2 => .rt p r2
      | .ex x r2 => .ex x r2
      | .st => .st
    | .ex x r1 => .ex x r1
    | .st => .st
def sFor (it : M (List D)) (g : D → M Unit) (b : En → RS) : En → RS := fun r => match it r with
  | .ok ds r1 => forL g b ds r1
  | .ex x r1 => .ex x r1
  | .st => .st
def whileN (c : M Bool) (b : En → RS) : Nat → En → RS
  | 0, _ => .st
  | n + 1, r => match c r with
    | .ok k r1 => if k = true then (match b r1 with
      | .nx r2 => whileN c b n r2
      | .ct r2 => whileN c b n r2
      | .bk r2 => .nx r2
      | .rt p r2 => .rt p r2
      | .ex x r2 => .ex x r2
      | .st => .st) else .nx r1
    | .ex x r1 => .ex x r1
    | .st => .st
section
variable {X : Cx} {P : List V} {E : XK} {sl : List Nat} {tg e : Expr} {f : D → M Unit} {it : M (List D)} {b : En → RS} {c : M Bool} {body : List Stmt} {pos : Pos}
theorem ds_while (n : Nat) (hp : PassesOwn (model X.prog X.w) X.A X.env X.xe) (hc : DT X P E e c) (hb : DB X P E body b) : DS X P E (.While e body [] pos) (whileN c b n) :=
  ⟨PS.wk (ps_while hp hc.pt hb.pss) fun Z σ H ⟨r, F, Af, R, q⟩ => by
    refine ⟨fun m σ H => ∃ r F Af, Rel X.K P r σ H F Af ∧ PostS X.K X.mg P E H F Af (whileN c b m r) Z, ⟨n, r, F, Af, R, q⟩, ?_⟩
    rintro m σ H ⟨r, F, Af, R, q⟩
    cases m with
    | zero => exact q.elim
    | succ m =>
      refine ⟨r, F, Af, R, ?_⟩
      unfold whileN at q
      cases e1 : c r with
      | ex x r1 => rw [e1] at q; exact q
      | st => rw [e1] at q; exact q
      | ok k r1 =>
        rw [e1] at q
        simp only at q
        intro H1 F1 Af1 ex1 R1
        cases k with
        | false => rw [if_neg Bool.false_ne_true] at q ⊢; exact q σ H1 F1 Af1 ex1 R1
        | true =>
          rw [if_pos rfl] at q ⊢
          refine ⟨fun σ' H' => ∃ r' F' Af', Rel X.K P r' σ' H' F' Af' ∧ PostS X.K X.mg P E H' F' Af' (whileN c b m r') Z, fun σ' H' w => ⟨m, Nat.lt_succ_self m, w⟩, r1, F1, Af1, R1, ?_⟩
          cases e2 : b r1 with
          | nx r2 => rw [e2] at q; exact fun σ' H' F' Af' ex R' => ⟨r2, F', Af', R', PostS.from q (ex1.trans ex)⟩
          | ct r2 => rw [e2] at q; exact fun σ' H' F' Af' ex R' => ⟨r2, F', Af', R', PostS.from q (ex1.trans ex)⟩
          | bk r2 => rw [e2] at q; exact fun σ' H' F' Af' ex R' => q σ' H' F' Af' (ex1.trans ex) R'
          | rt p r2 => rw [e2] at q; exact fun v σ' H' F' Af' T ex R' rp => q v σ' H' F' Af' T (ex1.trans ex) R' rp
          | ex x r2 => rw [e2] at q; exact PostX.from q ex1
          | st => rw [e2] at q; exact q.elim⟩
theorem ds_for (hp : PassesOwn (model X.prog X.w) X.A X.env X.xe) (hcm : X.calm = true) (hi : DI X P E tg e it) (hg : DG X P E sl tg f) (hb : DB X P E body b) (hs : ∀ x, foldedSetIterable e X.env x = pure x := by intro _; rfl) : DS X P E (.For tg e body [] pos) (sFor it f b) :=
  ⟨PS.wk (ps_for hp hcm hi.pi hg.pg hb.pss hs) fun Z σ H ⟨r, F, Af, R, q⟩ => ⟨r, F, Af, R, by
    unfold sFor at q
    cases e0 : it r with
    | ex x r1 => rw [e0] at q; exact q
    | st => rw [e0] at q; exact q
    | ok ds r0 =>
      rw [e0] at q
      simp only at q
      intro J G0 H0 F0 Af0 ex0 R0 hd0 io
      refine ⟨fun i m σ H => m + i = ds.length ∧ ∃ r F Af, Rel X.K P r σ H F Af ∧ Same F0 F ∧ Held G0 H (U Af) ∧ PostS X.K X.mg P E H F Af (forL f b (ds.drop i) r) Z, ⟨ds.length, by omega, r0, F0, Af0, R0, Same.refl _, hd0, PostS.from q ex0⟩, ?_⟩
      rintro i m σ H ⟨em, r, F, Af, R, sm, hd, q⟩
      obtain ⟨i1, i2⟩ := io H F sm hd.1 R.keep i
      by_cases hi : i < ds.length
      · rw [List.drop_eq_getElem_cons hi] at q
        obtain ⟨g1, g2⟩ := i2 ds[i] (List.getElem?_eq_getElem hi)
        refine .inr ⟨g1, fun σ' H' => ∃ r' F' Af', Rel X.K P r' σ' H' F' Af' ∧ Same F0 F' ∧ Held G0 H' (U Af') ∧ PostS X.K X.mg P E H' F' Af' (forL f b (ds.drop (i + 1)) r') Z, fun σ' H' w => ⟨m - 1, by omega, by omega, w⟩, fun x H' y => ?_⟩
        obtain ⟨F1, gr, rp⟩ := g2 x H' y
        have R1 := R.grow gr
        have ex1 : Ext H F (U Af) H' F1 (U Af) := gr.ext
        refine ⟨ds[i], r, F1, Af, R1, rp, ?_⟩
        unfold forL at q
        cases e1 : f ds[i] r with
        | ex x r2 => rw [e1] at q; exact PostX.from q ex1
        | st => rw [e1] at q; exact q.elim
        | ok u r2 =>
          rw [e1] at q
          simp only at q
          intro σ2 H2 F2 Af2 _ _ ex2 R2
          have ex12 := ex1.trans ex2
          refine ⟨r2, F2, Af2, R2, ?_⟩
          cases e2 : b r2 with
          | nx r3 => rw [e2] at q; exact fun σ' H' F' Af' ex R' => ⟨r3, F', Af', R', (sm.trans gr.ff).trans (ex2.ff.trans ex.ff), hd.ext (ex12.trans ex), PostS.from q (ex12.trans ex)⟩
          | ct r3 => rw [e2] at q; exact fun σ' H' F' Af' ex R' => ⟨r3, F', Af', R', (sm.trans gr.ff).trans (ex2.ff.trans ex.ff), hd.ext (ex12.trans ex), PostS.from q (ex12.trans ex)⟩
          | bk r3 => rw [e2] at q; exact fun σ' H' F' Af' ex R' => q σ' H' F' Af' (ex12.trans ex) R'
          | rt p r3 => rw [e2] at q; exact fun v σ' H' F' Af' T ex R' rp => q v σ' H' F' Af' T (ex12.trans ex) R' rp
          | ex x r3 => rw [e2] at q; exact PostX.from q ex12
          | st => rw [e2] at q; exact q.elim
      · rw [List.drop_of_length_le (by omega)] at q
        exact .inl ⟨i1 (by omega) (by omega), q σ H F Af Ext.refl R⟩⟩⟩
end
end NT

set_option Elab.async false
set_option linter.all false
set_option maxRecDepth 100000
set_option maxHeartbeats 1000000
namespace NT
open PySem PySem.Spec PyProof.Rows L2

/-! ### new objects -/
theorem keep_none {F H : Hp} {a : Addr} (k : Keep F H) (h : H a = none) : F a = none := by
  cases e : F a with
  | none => rfl
  | some u => exact (k.some e h).elim
theorem keep_same {F H H' : Hp} (k : Keep F H) (s : Same H H') : Keep F H' := k.up s
theorem grow_own {F H : Hp} {p : Addr} {o : HO} (k : Keep F H) (h : H p = none) : Grow H F (upd H p o) F :=
  ⟨same_new h, Same.refl _, k.up (same_new h), fun _ e => .inl e⟩
theorem grow_fz {F H : Hp} {p : Addr} {o : HO} (k : Keep F H) (h : H p = none) : Grow H F (upd H p o) (upd F p o) := by
  have hF := keep_none k h
  refine ⟨same_new h, same_new hF, fun a u e => ?_, fun a e => ?_⟩
  · by_cases ha : a = p
    · subst ha; rw [upd_same] at e; cases e; exact .inl upd_same
    · rw [upd_ne ha] at e ⊢; exact k a u e
  · by_cases ha : a = p
    · subst ha; exact .inr (.inl h)
    · rw [upd_ne ha]; exact .inl e
theorem out_lst {K : PySem.W.Frag} {F H : Hp} {p : Addr} {xs : List V} {l : List D} (k : Keep F H) (h : H p = none) (r : RepL K F xs l) : Out K H F (.n (.lst l)) (.ref p) (upd H p (.lst xs)) :=
  ⟨F, grow_own k h, fun b => b = p, ⟨p, xs, rfl, rfl, upd_same, keep_none k h, r⟩, fun a e => by rw [e]; exact h⟩
theorem out_tup {K : PySem.W.Frag} {F H : Hp} {p : Addr} {xs : List V} {l : List D} (k : Keep F H) (h : H p = none) (r : RepL K F xs l) : Out K H F (.v (.tup l)) (.ref p) (upd H p (.tup xs)) :=
  ⟨_, grow_fz k h, .tup upd_same (r.mono (same_new (keep_none k h)))⟩
theorem out_v {K : PySem.W.Frag} {F H : Hp} {v : V} {d : D} (k : Keep F H) (r : Rep K F v d) : Out K H F (.v d) v H := ⟨F, Grow.refl k, r⟩

/-! ### displays -/
def PostFL (K : PySem.W.Frag) (mg : Str → Option Value) (P : List V) (E : XK) (σ : L2.St) (H F : Hp) (Af : Nat → Fp) (r : R (List D)) (Q : List V → Hp → Prop) : Prop := match r with
  | .ok ds r' => ∀ vs H' F' Af', Ext H F (U Af) H' F' (U Af') → Rel K P r' σ H' F' Af' → RepL K F' vs ds → Q vs H'
  | .ex x r' => PostX K mg P E H F Af x r' (fun _ => True)
  | .st => False
def tFL (K : PySem.W.Frag) (mg : Str → Option Value) (P : List V) (E : XK) (f : M (List D)) : TA := fun σ H Q => ∃ r F Af, Rel K P r σ H F Af ∧ PostFL K mg P E σ H F Af (f r) Q
structure DL (X : Cx) (P : List V) (E : XK) (es : List Expr) (f : M (List D)) : Prop where
  pa : PA X es (tFL X.K X.mg P E f)
  len : ∀ r ds r', f r = .ok ds r' → ds.length = es.length
def lNil : M (List D) := M.pure []
def lCons (f : M D) (fs : M (List D)) : M (List D) := fun r => match f r with
  | .ok d r1 => match fs r1 with
    | .ok ds r2 => .ok (d :: ds) r2
    | .ex x r2 => .ex x r2
    | .st => .st
  | .ex x r1 => .ex x r1
  | .st => .st
def eTup (fs : M (List D)) : M Pl := fun r => match fs r with
  | .ok ds r1 => if ds.length ≤ sizeLine then .ok (.v (.tup ds)) r1 else .st
  | .ex x r1 => .ex x r1
  | .st => .st
def eLst (fs : M (List D)) : M Pl := fun r => match fs r with
  | .ok ds r1 => if ds.length ≤ sizeLine then .ok (.n (.lst ds)) r1 else .st
  | .ex x r1 => .ex x r1
  | .st => .st
section
variable {X : Cx} {P : List V} {E : XK} {e : Expr} {es : List Expr} {f : M D} {fs : M (List D)} {pos : Pos}
theorem lCons_ok {r r' : En} {ds : List D} (h : lCons f fs r = .ok ds r') : ∃ d r1 ds', f r = .ok d r1 ∧ fs r1 = .ok ds' r' ∧ ds = d :: ds' := by
  unfold lCons at h
  cases e1 : f r with
  | ex x r1 => rw [e1] at h; cases h
  | st => rw [e1] at h; cases h
  | ok d r1 =>
    rw [e1] at h
    simp only at h
    cases e2 : fs r1 with
    | ex x r2 => rw [e2] at h; cases h
    | st => rw [e2] at h; cases h
    | ok ds' r2 => rw [e2] at h; cases h; exact ⟨d, r1, ds', rfl, e2, rfl⟩
theorem dl_nil : DL X P E [] lNil := ⟨PA.wk pa_nil fun σ H Q ⟨r, F, Af, R, q⟩ => q [] H F Af Ext.refl R .nil, fun r ds r' h => by cases h; rfl⟩
theorem dl_cons (h : DF X P E e f) (hs : DL X P E es fs) (hst : starEach (e :: es) X.env = (false, eval e X.env) :: starEach es X.env := by rfl) : DL X P E (e :: es) (lCons f fs) :=
  ⟨PA.wk (pa_cons h.pe hs.pa hst) fun σ H Q ⟨r, F, Af, R, q⟩ => ⟨r, F, Af, R, by
    unfold lCons at q
    cases e1 : f r with
    | ex x r' => rw [e1] at q; exact q
    | st => rw [e1] at q; exact q
    | ok d r1 =>
      rw [e1] at q
      simp only at q
      intro v H1 F1 Af1 ex1 R1 rp1
      refine ⟨r1, F1, Af1, R1, ?_⟩
      cases e2 : fs r1 with
      | ex x r' => rw [e2] at q; exact PostX.from q ex1
      | st => rw [e2] at q; exact q
      | ok ps r2 =>
        rw [e2] at q
        simp only at q
        intro vs H2 F2 Af2 ex2 R2 rp2
        exact q (v :: vs) H2 F2 Af2 (ex1.trans ex2) R2 (.cons (rp1.mono ex2.ff) rp2)⟩, fun r ds r' h => by
    obtain ⟨d, r1, ds', _, h2, rfl⟩ := lCons_ok h
    rw [List.length_cons, List.length_cons, hs.len _ _ _ h2]⟩
theorem de_tup {k} (h : DL X P E es fs) : DE X P E (.Tuple es k pos) (eTup fs) := ⟨PE.wk (pe_tup h.pa) fun σ H Q ⟨r, F, Af, R, q⟩ => ⟨r, F, Af, R, by
  unfold eTup at q
  cases e1 : fs r with
  | ex x r' => rw [e1] at q; exact q
  | st => rw [e1] at q; exact q
  | ok ds r1 =>
    rw [e1] at q
    simp only at q
    intro vs H1 F1 Af1 ex1 R1 rp1
    by_cases hl : ds.length ≤ sizeLine
    · rw [if_pos hl] at q
      refine ⟨by rw [rp1.length]; exact hl, fun p hp => ?_⟩
      obtain ⟨F2, T, ex2, R2, rp2⟩ := out_post R1 ex1 (out_tup R1.keep hp rp1)
      exact q _ _ F2 Af1 T ex2 R2 rp2
    · rw [if_neg hl] at q; exact q.elim⟩⟩
theorem de_lst (h : DL X P E es fs) : DE X P E (.List es pos) (eLst fs) := ⟨PE.wk (pe_lst h.pa) fun σ H Q ⟨r, F, Af, R, q⟩ => ⟨r, F, Af, R, by
  unfold eLst at q
  cases e1 : fs r with
  | ex x r' => rw [e1] at q; exact q
  | st => rw [e1] at q; exact q
  | ok ds r1 =>
    rw [e1] at q
    simp only at q
    intro vs H1 F1 Af1 ex1 R1 rp1
    by_cases hl : ds.length ≤ sizeLine
    · rw [if_pos hl] at q
      refine ⟨by rw [rp1.length]; exact hl, fun p hp => ?_⟩
      obtain ⟨F2, T, ex2, R2, rp2⟩ := out_post R1 ex1 (out_lst R1.keep hp rp1)
      exact q _ _ F2 Af1 T ex2 R2 rp2
    · rw [if_neg hl] at q; exact q.elim⟩⟩
def eDK : M Pl := M.pure (.n (.dK []))
def eDT : M Pl := M.pure (.n (.dT []))
theorem de_dK : DE X P E (.Dict [] [] pos) eDK := ⟨PE.wk pe_dnewK fun σ H Q ⟨r, F, Af, R, q⟩ => fun p hp => by
  have o : Out X.K H F (.n (.dK [])) (.ref p) (upd H p (.dK [])) := ⟨F, grow_own R.keep hp, fun b => b = p, ⟨p, [], rfl, rfl, upd_same, keep_none R.keep hp, rfl, .nil⟩, fun a e => by rw [e]; exact hp⟩
  obtain ⟨F2, T, ex2, R2, rp2⟩ := out_post R Ext.refl o
  exact q _ _ F2 Af T ex2 R2 rp2⟩
theorem de_dT : DE X P E (.Dict [] [] pos) eDT := ⟨PE.wk pe_dnewT fun σ H Q ⟨r, F, Af, R, q⟩ => fun p hp => by
  have o : Out X.K H F (.n (.dT [])) (.ref p) (upd H p (.dT [])) := ⟨F, grow_own R.keep hp, fun b => b = p, ⟨p, [], rfl, rfl, upd_same, keep_none R.keep hp, rfl, .nil⟩, fun a e => by rw [e]; exact hp⟩
  obtain ⟨F2, T, ex2, R2, rp2⟩ := out_post R Ext.refl o
  exact q _ _ F2 Af T ex2 R2 rp2⟩
end

/-! ### walks -/
def itemsOf : D → Option (List D)
  | .lst l => some l
  | .tup l => some l
  | .str x => some (x.cps.toList.map fun c => .str ⟨#[c]⟩)
  | _ => none
def mIter (f : M D) : M (List D) := fun r => match f r with
  | .ok d r1 => match itemsOf d with
    | some ds => .ok ds r1
    | none => .st
  | .ex x r1 => .ex x r1
  | .st => .st
theorem ItOk.list {K : PySem.W.Frag} {F : Hp} {a : Addr} {xs : List V} {ds : List D} (h : F a = some (.lst xs)) (r : RepL K F xs ds) : ItOk K (Itl K a) F (fun _ => none) ds := fun H F' s _ k i => by
  have hq : SqL K H a xs := .inl (.inl (k.lst (s _ _ h)))
  refine ⟨fun hi _ => ⟨xs, hq, by rw [r.length]; exact hi⟩, fun d hd => ?_⟩
  obtain ⟨v, hv, rv⟩ := r.get hd
  refine ⟨⟨xs, v, hq, hv⟩, fun x H' y => ?_⟩
  obtain ⟨rfl, y⟩ := y
  have e := y xs hq
  rw [hv] at e; cases e
  exact ⟨F', Grow.refl k, rv.mono s⟩
theorem ItOk.tuple {K : PySem.W.Frag} {F : Hp} {a : Addr} {xs : List V} {ds : List D} (h : F a = some (.tup xs)) (r : RepL K F xs ds) : ItOk K (Itt K a) F (fun _ => none) ds := fun H F' s _ k i => by
  have hq : SqT K H a xs := .inl (.inl (k.tup (s _ _ h)))
  refine ⟨fun hi _ => ⟨xs, hq, by rw [r.length]; exact hi⟩, fun d hd => ?_⟩
  obtain ⟨v, hv, rv⟩ := r.get hd
  refine ⟨⟨xs, v, hq, hv⟩, fun x H' y => ?_⟩
  obtain ⟨rfl, y⟩ := y
  have e := y xs hq
  rw [hv] at e; cases e
  exact ⟨F', Grow.refl k, rv.mono s⟩
theorem ItOk.text {K : PySem.W.Frag} {F : Hp} {x : Str} : ItOk K (Its x) F (fun _ => none) (x.cps.toList.map fun c => .str ⟨#[c]⟩) := fun H F' s _ k i => by
  refine ⟨fun hi _ => (show x.cps.size ≤ i by simpa using hi), fun d hd => ?_⟩
  rw [List.getElem?_map] at hd
  cases e : x.cps.toList[i]? with
  | none => rw [e] at hd; cases hd
  | some c =>
    rw [e] at hd
    cases hd
    have hi : i < x.cps.size := by simpa using (List.getElem?_eq_some_iff.mp e).1
    refine ⟨hi, fun v H' ⟨hH, c', hc, hv⟩ => ?_⟩
    subst hH hv
    have e2 : x.cps.toList[i]? = some c' := by simpa using hc
    rw [e] at e2; cases e2
    exact ⟨F', Grow.refl k, .str _⟩
theorem ItOk.range {K : PySem.W.Frag} {F : Hp} {lo : Int} {n : Nat} : ItOk K (Itr lo n) F (fun _ => none) ((List.range n).map fun i => .int (lo + (i : Nat))) := fun H F' s _ k i => by
  refine ⟨fun hi _ => (show n ≤ i by simpa using hi), fun d hd => ?_⟩
  rw [List.getElem?_map] at hd
  by_cases hi : i < n
  · rw [List.getElem?_range hi] at hd
    cases hd
    refine ⟨hi, fun v H' ⟨hH, hv⟩ => ?_⟩
    subst hH hv
    exact ⟨F', Grow.refl k, .int _⟩
  · rw [List.getElem?_eq_none (by simpa using hi)] at hd; cases hd
/-- what iterates v -/
def JOf (K : PySem.W.Frag) : V → D → It
  | .ref a, .tup _ => Itt K a
  | .ref a, _ => Itl K a
  | .str x, _ => Its x
  | _, _ => ⟨fun _ _ => False, fun _ _ _ _ => False, fun _ _ => False⟩
theorem ItOk.of {K : PySem.W.Frag} {F : Hp} {v : V} {d : D} {ds : List D} (r : Rep K F v d) (h : itemsOf d = some ds) : ItOk K (JOf K v d) F (fun _ => none) ds := by
  cases r with
  | lst hq t => cases h; exact ItOk.list hq t
  | tup hq t => cases h; exact ItOk.tuple hq t
  | str x => cases h; exact ItOk.text
  | _ => cases h
theorem pi_data {X : Cx} {tg e : Expr} {te : TE} (he : PE X e te) : PI X tg e (fun σ H R => te σ H fun x H1 => ∃ d ds F, Keep F H1 ∧ Rep X.K F x d ∧ itemsOf d = some ds ∧ R (JOf X.K x d) H1) := by
  refine ⟨fun pins s σ H R I h => thn (he.run pins s σ H _ I h) fun v s1 ⟨x, H1, I1, r1, d, ds, F, kp, rp, hd, q⟩ => ?_⟩
  have new : ∀ b, b ∈ [s1.heap.objs.size] → FpOk X pins H1 b := fun b hb => by
    obtain rfl : b = s1.heap.objs.size := by simpa using hb
    exact I1.fpOk (Nat.le_refl _) (I1.hok.fresh (Nat.le_refl _))
  cases rp with
  | lst hq t =>
    cases r1
    obtain ⟨its, rv, p, hz⟩ := I1.list (.inl (.inl (kp.lst hq)))
    exact wpAny_pyIter_list p.isList ⟨_, [s1.heap.objs.size], _, _, H1, rfl, I1.kept (t' := s1.toks) fun b o g => Heap.get?_push_of_some _ g, turn_list _ _, ⟨_, Heap.get?_push_size _ rfl, rfl, rfl⟩, new, q⟩
  | tup hq t =>
    cases r1
    obtain ⟨its, rv, p, hz⟩ := I1.tuple (.inl (.inl (kp.tup hq)))
    exact wpAny_pyIter_tuple (show s1.heap.IsTuple _ its.toArray from p) ⟨_, [s1.heap.objs.size], _, _, H1, rfl, I1.kept (t' := s1.toks) fun b o g => Heap.get?_push_of_some _ g, turn_tuple _ _, ⟨_, Heap.get?_push_size _ rfl, rfl, rfl⟩, new, q⟩
  | str x =>
    obtain ⟨t, rfl⟩ := r1
    cases ha : x.cps.all (· < 128) with
    | false => exact wpAny_pyIter_wide ha (pi_one (tk := s1.toks) I1 _ (turn_str _ x t "str_iterator" (Or.inr rfl)) ⟨_, Heap.get?_push_size _ rfl, rfl, rfl⟩ q)
    | true => exact wpAny_pyIter_ascii ha (pi_one (tk := s1.toks) I1 _ (turn_str _ x t "str_ascii_iterator" (Or.inl rfl)) ⟨_, Heap.get?_push_size _ rfl, rfl, rfl⟩ q)
  | _ => cases hd
section
variable {X : Cx} {P : List V} {E : XK} {tg e e2 : Expr} {es : List Expr} {f f2 : M D} {fs : M (List Pl)} {pos p tpos : Pos} {elts : List Expr} {kk : Nat}
theorem di_seq (h : DF X P E e f) : DI X P E tg e (mIter f) := ⟨PI.wk (pi_data h.pe) fun σ H R ⟨r, F, Af, Rl, q⟩ => ⟨r, F, Af, Rl, by
  unfold mIter at q
  cases e1 : f r with
  | ex x r' => rw [e1] at q; exact q
  | st => rw [e1] at q; exact q
  | ok d r1 =>
    rw [e1] at q
    simp only at q
    intro v H1 F1 Af1 ex1 R1 rp1
    cases e2 : itemsOf d with
    | none => rw [e2] at q; exact q.elim
    | some ds =>
      rw [e2] at q
      exact ⟨d, ds, F1, R1.keep, rp1, e2, q _ _ H1 F1 Af1 ex1 R1 Held.none (ItOk.of rp1 e2)⟩⟩⟩
/-! range -/
def mRange1 (fs : M (List Pl)) : M (List D) := fun r => match fs r with
  | .ok ps r1 => match derefL r1 ps with
    | some [.int j] => if -(2 ^ 62) ≤ j ∧ j < 2 ^ 62 then .ok ((List.range j.toNat).map fun i => .int (0 + (i : Nat))) r1 else .st
    | _ => .st
  | .ex x r1 => .ex x r1
  | .st => .st
theorem RdL.int1 {K : PySem.W.Frag} {H F : Hp} {vs : List V} {j : Int} (h : RdL K H F vs [.int j]) : vs = [.int j] := by
  cases h with
  | cons h t =>
    cases t
    rw [show _ = V.int j from h]
theorem di_range1 {a : Expr} (hg : Gl X "range") (hm : X.mg "range" = none) (ha : DA X P E [a] fs) (hs : starEach [a] X.env = [(false, eval a X.env)] := by rfl) : DI X P E tg (.Call (.Name "range" p) [a] [] pos) (mRange1 fs) :=
  ⟨PI.wk (pi_range1 hg hm ha.pa hs) fun σ H R ⟨r, F, Af, Rl, q⟩ => ⟨r, F, Af, Rl, by
    unfold mRange1 at q
    cases e1 : fs r with
    | ex x r' => rw [e1] at q; exact q
    | st => rw [e1] at q; exact q
    | ok ps r1 =>
      rw [e1] at q
      simp only at q
      intro vs H1 F1 Af1 ex1 R1 rp1
      cases e2 : derefL r1 ps with
      | none => rw [e2] at q; exact q.elim
      | some ds =>
        rw [e2] at q
        have rd := PlL.rd R1 rp1 e2
        match ds, rd, q with
        | [], _, q => exact q.elim
        | d :: _ :: _, _, q => cases d <;> exact q.elim
        | [.non], _, q => exact q.elim
        | [.bl _], _, q => exact q.elim
        | [.str _], _, q => exact q.elim
        | [.tup _], _, q => exact q.elim
        | [.lst _], _, q => exact q.elim
        | [.dK _], _, q => exact q.elim
        | [.dT _], _, q => exact q.elim
        | [.scr _], _, q => exact q.elim
        | [.int j], rd, q =>
          simp only at q
          by_cases hj : -(2 ^ 62) ≤ j ∧ j < 2 ^ 62
          · rw [if_pos hj] at q
            exact ⟨j, rd.int1, hj.1, hj.2, q _ _ H1 F1 Af1 ex1 R1 Held.none ItOk.range⟩
          · rw [if_neg hj] at q; exact q.elim⟩⟩
/-! zip of two lists, of two tuples -/
def zipD : List D → List D → List D
  | a :: as, b :: bs => .tup [a, b] :: zipD as bs
  | _, _ => []
theorem zipD_get : ∀ (as bs : List D) (i : Nat), (zipD as bs)[i]? = match as[i]?, bs[i]? with
    | some a, some b => some (.tup [a, b])
    | _, _ => none
  | [], bs, i => by simp [zipD]
  | a :: as, [], i => by
    simp only [zipD, List.getElem?_nil]
    cases (a :: as)[i]? <;> rfl
  | a :: as, b :: bs, 0 => by simp [zipD]
  | a :: as, b :: bs, i + 1 => by
    simp only [zipD, List.getElem?_cons_succ]
    exact zipD_get as bs i
theorem zipD_len : ∀ (as bs : List D), (zipD as bs).length = min as.length bs.length
  | [], _ => by simp [zipD]
  | _ :: _, [] => by simp [zipD]
  | a :: as, b :: bs => by
    simp only [zipD, List.length_cons, zipD_len as bs]
    omega
theorem outV_pair {K : PySem.W.Frag} {H F : Hp} {T : Addr} {x y : V} {a b : D} (k : Keep F H) (h : H T = none) (rx : Rep K F x a) (ry : Rep K F y b) : OutV K H F (.tup [a, b]) (.ref T) (upd H T (.tup [x, y])) :=
  ⟨_, grow_fz k h, .tup upd_same (RepL.mono (same_new (keep_none k h)) (.cons rx (.cons ry .nil)))⟩
theorem ItOk.zipL {K : PySem.W.Frag} {F : Hp} {a b : Addr} {xs ys : List V} {as bs : List D} (ha : F a = some (.lst xs)) (hb : F b = some (.lst ys)) (ra : RepL K F xs as) (rb : RepL K F ys bs) : ItOk K (Itz K a b) F (fun _ => none) (zipD as bs) := fun H F' s _ k i => by
  have qa : SqL K H a xs := .inl (.inl (k.lst (s _ _ ha)))
  have qb : SqL K H b ys := .inl (.inl (k.lst (s _ _ hb)))
  refine ⟨fun hi _ => ⟨xs, ys, qa, qb, ?_⟩, fun d hd => ?_⟩
  · rw [zipD_len] at hi
    rw [ra.length, rb.length]
    omega
  · rw [zipD_get] at hd
    cases e1 : as[i]? with
    | none => rw [e1] at hd; cases hd
    | some da =>
      cases e2 : bs[i]? with
      | none => rw [e1, e2] at hd; cases hd
      | some db =>
        rw [e1, e2] at hd
        cases hd
        obtain ⟨x, hx, rx⟩ := ra.get e1
        obtain ⟨y, hy, ry⟩ := rb.get e2
        refine ⟨⟨xs, ys, x, y, qa, qb, hx, hy⟩, fun v H' ⟨T, x', y', hv, hT, hH, q1, q2⟩ => ?_⟩
        subst hv hH
        have z1 := q1 xs qa
        have z2 := q2 ys qb
        rw [hx] at z1; cases z1
        rw [hy] at z2; cases z2
        exact outV_pair k hT (rx.mono s) (ry.mono s)
theorem ItOk.zipT {K : PySem.W.Frag} {F : Hp} {a b : Addr} {xs ys : List V} {as bs : List D} (ha : F a = some (.tup xs)) (hb : F b = some (.tup ys)) (ra : RepL K F xs as) (rb : RepL K F ys bs) : ItOk K (RZ.ItzT K a b) F (fun _ => none) (zipD as bs) := fun H F' s _ k i => by
  have qa : SqT K H a xs := .inl (.inl (k.tup (s _ _ ha)))
  have qb : SqT K H b ys := .inl (.inl (k.tup (s _ _ hb)))
  refine ⟨fun hi _ => ⟨xs, ys, qa, qb, ?_⟩, fun d hd => ?_⟩
  · rw [zipD_len] at hi
    rw [ra.length, rb.length]
    omega
  · rw [zipD_get] at hd
    cases e1 : as[i]? with
    | none => rw [e1] at hd; cases hd
    | some da =>
      cases e2 : bs[i]? with
      | none => rw [e1, e2] at hd; cases hd
      | some db =>
        rw [e1, e2] at hd
        cases hd
        obtain ⟨x, hx, rx⟩ := ra.get e1
        obtain ⟨y, hy, ry⟩ := rb.get e2
        refine ⟨⟨xs, ys, x, y, qa, qb, hx, hy⟩, fun v H' ⟨T, x', y', hv, hT, hH, q1, q2⟩ => ?_⟩
        subst hv hH
        have z1 := q1 xs qa
        have z2 := q2 ys qb
        rw [hx] at z1; cases z1
        rw [hy] at z2; cases z2
        exact outV_pair k hT (rx.mono s) (ry.mono s)
def zipDD : D → D → Option (List D)
  | .lst as, .lst bs => some (zipD as bs)
  | .tup as, .tup bs => some (zipD as bs)
  | _, _ => none
def mZip (fs : M (List D)) : M (List D) := fun r => match fs r with
  | .ok [a, b] r1 => match zipDD a b with
    | some ds => .ok ds r1
    | none => .st
  | .ok _ _ => .st
  | .ex x r1 => .ex x r1
  | .st => .st
theorem di_zip {fl : M (List D)} (hg : Gl X "zip") (hm : X.mg "zip" = none) (ha : DL X P E [e, e2] fl) (hs : starEach [e, e2] X.env = (false, eval e X.env) :: starEach [e2] X.env := by rfl) (hpl : (backTo pos (starEach [e2] X.env)).any (·.1) = false := by rfl) :
    DI X P E (.Tuple elts kk tpos) (.Call (.Name "zip" p) [e, e2] [] pos) (mZip fl) := ⟨PI.wk (RZ.pi_zipA hg hm ha.pa hs hpl) fun σ H R ⟨r, F, Af, Rl, q⟩ => ⟨r, F, Af, Rl, by
  unfold mZip at q
  cases e1 : fl r with
  | ex x r' => rw [e1] at q; exact q
  | st => rw [e1] at q; exact q
  | ok ds r1 =>
    rw [e1] at q
    intro vs H1 F1 Af1 ex1 R1 rp1
    match ds, rp1, q with
    | [], _, q => exact q.elim
    | [_], _, q => exact q.elim
    | _ :: _ :: _ :: _, _, q => exact q.elim
    | [a, b], .cons (v := va) ra (.cons (v := vb) rb .nil), q =>
      simp only at q
      cases ra with
      | lst ha ta =>
        cases rb with
        | lst hb tb => exact ⟨_, _, _, _, rfl, .inl ⟨.inl (.inl (R1.keep.lst ha)), .inl (.inl (R1.keep.lst hb)), q _ _ H1 F1 Af1 ex1 R1 Held.none (ItOk.zipL ha hb ta tb)⟩⟩
        | _ => exact q.elim
      | tup ha ta =>
        cases rb with
        | tup hb tb => exact ⟨_, _, _, _, rfl, .inr ⟨.inl (.inl (R1.keep.tup ha)), .inl (.inl (R1.keep.tup hb)), q _ _ H1 F1 Af1 ex1 R1 Held.none (ItOk.zipT ha hb ta tb)⟩⟩
        | _ => exact q.elim
      | _ => exact q.elim⟩⟩
/-! enumerate of a list -/
def enumD (n : Nat) : List D → List D
  | [] => []
  | d :: ds => .tup [.int (n : Nat), d] :: enumD (n + 1) ds
theorem enumD_len : ∀ (ds : List D) (n : Nat), (enumD n ds).length = ds.length
  | [], _ => rfl
  | _ :: ds, n => congrArg (· + 1) (enumD_len ds (n + 1))
theorem enumD_get : ∀ (ds : List D) (n i : Nat), (enumD n ds)[i]? = (ds[i]?).map fun d => .tup [.int ((n + i : Nat) : Int), d]
  | [], _, _ => by simp [enumD]
  | d :: ds, n, 0 => by simp [enumD]
  | d :: ds, n, i + 1 => by
    simp only [enumD, List.getElem?_cons_succ, enumD_get ds (n + 1) i]
    rw [show n + 1 + i = n + (i + 1) by omega]
theorem ItOk.enum {K : PySem.W.Frag} {F : Hp} {a : Addr} {xs : List V} {ds : List D} (h : F a = some (.lst xs)) (r : RepL K F xs ds) : ItOk K (Ite K a) F (fun _ => none) (enumD 0 ds) := fun H F' s _ k i => by
  have hq : SqL K H a xs := .inl (.inl (k.lst (s _ _ h)))
  refine ⟨fun hi _ => ⟨xs, hq, by rw [enumD_len] at hi; rw [r.length]; exact hi⟩, fun d hd => ?_⟩
  rw [enumD_get] at hd
  cases e1 : ds[i]? with
  | none => rw [e1] at hd; cases hd
  | some d' =>
    rw [e1] at hd
    simp only [Option.map_some, Option.some.injEq, Nat.zero_add] at hd
    subst hd
    obtain ⟨v, hv, rv⟩ := r.get e1
    refine ⟨⟨xs, v, hq, hv⟩, fun x H' ⟨T, x', hx, hT, hH, y⟩ => ?_⟩
    subst hx hH
    have z := y xs hq
    rw [hv] at z; cases z
    exact outV_pair k hT (.int _) (rv.mono s)
def mEnum (fs : M (List D)) : M (List D) := fun r => match fs r with
  | .ok [.lst ds] r1 => .ok (enumD 0 ds) r1
  | .ok _ _ => .st
  | .ex x r1 => .ex x r1
  | .st => .st
theorem di_enum {fl : M (List D)} (hg : Gl X "enumerate") (hm : X.mg "enumerate" = none) (ha : DL X P E [e] fl) (hs : starEach [e] X.env = [(false, eval e X.env)] := by rfl) : DI X P E (.Tuple elts kk tpos) (.Call (.Name "enumerate" p) [e] [] pos) (mEnum fl) :=
  ⟨PI.wk (pi_enum hg hm ha.pa hs) fun σ H R ⟨r, F, Af, Rl, q⟩ => ⟨r, F, Af, Rl, by
    unfold mEnum at q
    cases e1 : fl r with
    | ex x r' => rw [e1] at q; exact q
    | st => rw [e1] at q; exact q
    | ok ds r1 =>
      rw [e1] at q
      intro vs H1 F1 Af1 ex1 R1 rp1
      match ds, rp1, q with
      | [], _, q => exact q.elim
      | d :: _ :: _, _, q => cases d <;> exact q.elim
      | [d], .cons ra .nil, q =>
        cases ra with
        | lst ha ta => exact ⟨_, _, rfl, .inl (.inl (R1.keep.lst ha)), q _ _ H1 F1 Af1 ex1 R1 Held.none (ItOk.enum ha ta)⟩
        | _ => exact q.elim⟩⟩
end
end NT

set_option Elab.async false
set_option linter.all false
set_option maxRecDepth 100000
set_option maxHeartbeats 1000000
namespace NT
open PySem PySem.Spec PyProof.Rows L2

/-! ### the slots of a comprehension -/
def wipeE (r : En) : List Nat → En
  | [] => r
  | v :: vs => (wipeE r vs).set v .un
def restE (r0 r : En) : List Nat → En
  | [] => r
  | v :: vs => (restE r0 r vs).set v (r0.getD v .un)
theorem wipeE_len (r : En) : ∀ vs, (wipeE r vs).length = r.length
  | [] => rfl
  | v :: vs => by unfold wipeE; rw [List.length_set, wipeE_len r vs]
theorem restE_len (r0 r : En) : ∀ vs, (restE r0 r vs).length = r.length
  | [] => rfl
  | v :: vs => by unfold restE; rw [List.length_set, restE_len r0 r vs]
theorem wipeE_out (r : En) {j : Nat} : ∀ {vs : List Nat}, j ∉ vs → (wipeE r vs)[j]? = r[j]?
  | [], _ => rfl
  | v :: vs, h => by
    simp only [List.mem_cons, not_or] at h
    unfold wipeE
    rw [List.getElem?_set_ne (Ne.symm h.1), wipeE_out r h.2]
theorem wipeE_in (r : En) {j : Nat} (hj : j < r.length) : ∀ {vs : List Nat}, j ∈ vs → (wipeE r vs)[j]? = some .un
  | [], h => by simp at h
  | v :: vs, h => by
    unfold wipeE
    by_cases e : v = j
    · subst e; rw [List.getElem?_set_self (by rw [wipeE_len]; exact hj)]
    · rw [List.getElem?_set_ne e]
      exact wipeE_in r hj ((List.mem_cons.mp h).resolve_left fun z => e z.symm)
theorem restE_out (r0 r : En) {j : Nat} : ∀ {vs : List Nat}, j ∉ vs → (restE r0 r vs)[j]? = r[j]?
  | [], _ => rfl
  | v :: vs, h => by
    simp only [List.mem_cons, not_or] at h
    unfold restE
    rw [List.getElem?_set_ne (Ne.symm h.1), restE_out r0 r h.2]
theorem restE_in (r0 r : En) {j : Nat} (hj : j < r.length) : ∀ {vs : List Nat}, j ∈ vs → (restE r0 r vs)[j]? = some (r0.getD j .un)
  | [], h => by simp at h
  | v :: vs, h => by
    unfold restE
    by_cases e : v = j
    · subst e; rw [List.getElem?_set_self (by rw [restE_len]; exact hj)]
    · rw [List.getElem?_set_ne e]
      exact restE_in r0 r hj ((List.mem_cons.mp h).resolve_left fun z => e z.symm)
theorem wipe_out (σ : L2.St) {j : Nat} : ∀ {vs : List Nat}, j ∉ vs → (wipe σ vs)[j]? = σ[j]?
  | [], _ => rfl
  | v :: vs, h => by
    simp only [List.mem_cons, not_or] at h
    unfold wipe
    rw [List.getElem?_set_ne (Ne.symm h.1), wipe_out σ h.2]
theorem wipe_in (σ : L2.St) {j : Nat} (hj : j < σ.length) : ∀ {vs : List Nat}, j ∈ vs → (wipe σ vs)[j]? = some none
  | [], h => by simp at h
  | v :: vs, h => by
    unfold wipe
    by_cases e : v = j
    · subst e; rw [List.getElem?_set_self (by rw [wipe_length]; exact hj)]
    · rw [List.getElem?_set_ne e]
      exact wipe_in σ hj ((List.mem_cons.mp h).resolve_left fun z => e z.symm)
theorem wipe_same {σ σ2 : L2.St} {vs : List Nat} (hl : σ2.length = (wipe σ vs).length) (h : ∀ j, j ∉ vs → σ2[j]? = (wipe σ vs)[j]?) : wipe σ2 vs = wipe σ vs := by
  have hl' : σ2.length = σ.length := by rw [hl, wipe_length]
  refine List.ext_getElem? fun j => ?_
  by_cases hj : j ∈ vs
  · by_cases hlt : j < σ.length
    · rw [wipe_in σ2 (by omega) hj, wipe_in σ hlt hj]
    · rw [List.getElem?_eq_none (by rw [wipe_length]; omega), List.getElem?_eq_none (by rw [wipe_length]; omega)]
  · rw [wipe_out σ2 hj, h j hj]
def wA (Af : Nat → Fp) (vs : List Nat) : Nat → Fp := fun j => if j ∈ vs then (fun _ => False) else Af j
theorem U_wA {Af : Nat → Fp} {vs : List Nat} {a : Addr} (h : U (wA Af vs) a) : U Af a := by
  obtain ⟨j, z⟩ := h
  unfold wA at z
  by_cases hj : j ∈ vs
  · simp only [if_pos hj] at z
  · simp only [if_neg hj] at z; exact ⟨j, z⟩
theorem Rel.wipe {K : PySem.W.Frag} {P : List V} {r : En} {σ : L2.St} {H F : Hp} {Af : Nat → Fp} (R : Rel K P r σ H F Af) {vs : List Nat} (hP : ∀ v ∈ vs, P.length ≤ v) : Rel K P (wipeE r vs) (L2.wipe σ vs) H F (wA Af vs) where
  len := by rw [wipeE_len, wipe_length]; exact R.len
  keep := R.keep
  par := fun j v e => by
    have hj : j < P.length := (List.getElem?_eq_some_iff.mp e).1
    rw [wipe_out σ (fun z => absurd (hP j z) (by omega))]
    exact R.par j v e
  slot := fun j s e => by
    by_cases hj : j ∈ vs
    · have hl : j < r.length := by
        have := (List.getElem?_eq_some_iff.mp e).1
        rwa [wipeE_len] at this
      rw [wipeE_in r hl hj] at e; cases e
      show ∀ a, ¬ wA Af vs j a
      intro a
      unfold wA
      simp only [if_pos hj]; exact id
    · rw [wipeE_out r hj] at e
      rw [wipe_out σ hj]
      unfold wA
      simp only [if_neg hj]
      exact R.slot j s e
  out := fun j e a => by
    by_cases hj : j ∈ vs
    · unfold wA; simp only [if_pos hj]; exact id
    · rw [wipeE_out r hj] at e
      unfold wA; simp only [if_neg hj]; exact R.out j e a
  dis := fun j k a h1 h2 => by
    unfold wA at h1 h2
    by_cases hj : j ∈ vs
    · simp only [if_pos hj] at h1
    · by_cases hk : k ∈ vs
      · simp only [if_pos hk] at h2
      · simp only [if_neg hj] at h1
        simp only [if_neg hk] at h2
        exact R.dis j k a h1 h2
/-- an object beside is written -/
theorem Rel.beside {K : PySem.W.Frag} {P : List V} {r : En} {σ : L2.St} {H F : Hp} {Af : Nat → Fp} {p : Addr} {o : HO} (R : Rel K P r σ H F Af) (hF : F p = none) (hA : ¬ U Af p) : Rel K P r σ (upd H p o) F Af where
  len := R.len
  keep := fun a u e => by
    have ne : a ≠ p := ne_of_none e hF
    rw [upd_ne ne]; exact R.keep a u e
  par := R.par
  slot := fun j s e => (R.slot j s e).mono (Same.refl _) fun a u t h => by
    have ne : a ≠ p := fun z => hA (z ▸ ⟨j, t⟩)
    rw [upd_ne ne]; exact ⟨h, (R.own ⟨j, t⟩).2⟩
  out := R.out
  dis := R.dis
/-- the slots that a comprehension had taken are as they were -/
theorem Rel.rest {K : PySem.W.Frag} {P : List V} {r r1 : En} {σ : L2.St} {H F H1 F1 : Hp} {Af Af1 : Nat → Fp} {vs : List Nat} (R1 : Rel K P r1 σ H1 F1 Af1) (R : Rel K P r (L2.wipe σ vs) H F Af) (ex : Ext H1 F1 (U (wA Af1 vs)) H F (U Af)) :
    Rel K P (restE r1 r vs) σ H F (fun j => if j ∈ vs then Af1 j else Af j) := by
  have hlen : r.length = r1.length := by rw [R.len, wipe_length, ← R1.len]
  have nw : ∀ j a, j ∈ vs → Af1 j a → ¬ U (wA Af1 vs) a := fun j a hj t ⟨k, z⟩ => by
    unfold wA at z
    by_cases hk : k ∈ vs
    · simp only [if_pos hk] at z
    · simp only [if_neg hk] at z
      exact hk (R1.dis j k a t z ▸ hj)
  refine ⟨by rw [restE_len, hlen]; exact R1.len, R.keep, R1.par, fun j s e => ?_, fun j e a => ?_, fun j k a h1 h2 => ?_⟩
  · by_cases hj : j ∈ vs
    · have hl : j < r.length := by
        have := (List.getElem?_eq_some_iff.mp e).1
        rwa [restE_len] at this
      rw [restE_in r1 r hl hj] at e
      have e2 : r1[j]? = some s := by
        have hl1 : j < r1.length := by omega
        rw [List.getD_eq_getElem?_getD, List.getElem?_eq_getElem hl1] at e
        rw [List.getElem?_eq_getElem hl1]; exact e
      simp only [if_pos hj]
      refine (R1.slot j s e2).mono ex.ff fun a u t h => ⟨ex.fr a u h (nw j a hj t), ?_⟩
      have z := R1.own (a := a) ⟨j, t⟩
      rcases ex.new a z.2 with q | q | q
      · exact q
      · exact (R1.nfx ⟨j, t⟩ q).elim
      · exact (nw j a hj t q).elim
    · rw [restE_out r1 r hj] at e
      simp only [if_neg hj]
      have z := R.slot j s e
      rwa [wipe_out σ hj] at z
  · by_cases hj : j ∈ vs
    · simp only [if_pos hj]
      refine R1.out j ?_ a
      cases e2 : r1[j]? with
      | none => rfl
      | some s =>
        have hl1 := (List.getElem?_eq_some_iff.mp e2).1
        rw [restE_in r1 r (by omega) hj] at e; cases e
    · rw [restE_out r1 r hj] at e
      simp only [if_neg hj]; exact R.out j e a
  · have cross : ∀ j k, j ∈ vs → k ∉ vs → Af1 j a → Af k a → False := fun j k hj hk t z => by
      rcases ex.own a ⟨k, z⟩ with q | q
      · exact nw j a hj t q
      · exact (R1.own ⟨j, t⟩).1 q
    by_cases hj : j ∈ vs
    · simp only [if_pos hj] at h1
      by_cases hk : k ∈ vs
      · simp only [if_pos hk] at h2; exact R1.dis j k a h1 h2
      · simp only [if_neg hk] at h2; exact (cross j k hj hk h1 h2).elim
    · simp only [if_neg hj] at h1
      by_cases hk : k ∈ vs
      · simp only [if_pos hk] at h2; exact (cross k j hk hj h2 h1).elim
      · simp only [if_neg hk] at h2; exact R.dis j k a h1 h2
theorem rest_ext {H1 F1 H F : Hp} {Af Af1 : Nat → Fp} {vs : List Nat} {Dd : Addr} (ex : Ext H1 F1 (U (wA Af1 vs)) H F (U Af)) (hD : H1 Dd = none) :
    Ext H1 F1 (U Af1) H F (fun a => U (fun j => if j ∈ vs then Af1 j else Af j) a ∨ a = Dd) where
  fr := fun a o e n => ex.fr a o e fun z => n (U_wA z)
  dom := ex.dom
  ff := ex.ff
  new := fun a e => (ex.new a e).elim .inl fun z => z.elim (fun q => .inr (.inl q)) fun q => .inr (.inr (U_wA q))
  own := fun a z => by
    rcases z with ⟨j, z⟩ | rfl
    · by_cases hj : j ∈ vs
      · simp only [if_pos hj] at z; exact .inl ⟨j, z⟩
      · simp only [if_neg hj] at z
        exact (ex.own a ⟨j, z⟩).elim (fun q => .inl (U_wA q)) .inr
    · exact .inr hD

/-! ### list comprehensions -/
structure DP (X : Cx) (P : List V) (E : XK) (ifs : List Expr) (c : M Bool) : Prop where
  pts : PTs X ifs (tT X.K X.mg P E c)
theorem dp_nil {X : Cx} {P : List V} {E : XK} : DP X P E [] (M.pure true) := ⟨⟨fun pins s σ H Q I ⟨r, F, Af, R, q⟩ => pts_nil.run pins s σ H Q I (q H F Af Ext.refl R)⟩⟩
theorem dp_one {X : Cx} {P : List V} {E : XK} {e : Expr} {c : M Bool} (h : DT X P E e c) : DP X P E [e] c := ⟨pts_one h.pt⟩
def compL (vs : List Nat) (g : D → M Unit) (tt : M Bool) (te : M D) : List D → En → R (List D)
  | [], r => .ok [] r
  | d :: ds, r => match g d r with
    | .ok _ r1 => match tt r1 with
      | .ok b r2 => if b = true then (match te r2 with
        | .ok x r3 => match compL vs g tt te ds (wipeE r3 vs) with
          | .ok xs r4 => .ok (x :: xs) r4
          | _ => .st
        | _ => .st) else compL vs g tt te ds (wipeE r2 vs)
      | _ => .st
    | _ => .st
def mCompA (vs : List Nat) (g : D → M Unit) (tt : M Bool) (te : M D) (ds : List D) : M Pl := fun r0 => match compL vs g tt te ds (wipeE r0 vs) with
  | .ok xs r1 => if xs.length ≤ sizeLine then .ok (.n (.lst xs)) (restE r0 r1 vs) else .st
  | _ => .st
def mComp (vs : List Nat) (it : M (List D)) (g : D → M Unit) (tt : M Bool) (te : M D) : M Pl := fun r => match it r with
  | .ok ds r0 => mCompA vs g tt te ds r0
  | .ex x r1 => .ex x r1
  | .st => .st
/-- one turn of a walk in a block: the target is set, the tests are asked -/
theorem turn_test {K : PySem.W.Frag} {mg : Str → Option Value} {P : List V} {vs : List Nat} {g : D → M Unit} {tt : M Bool} {d : D} {r r1 r2 : En} {b : Bool} {σ : L2.St} {H F : Hp} {Af : Nat → Fp} {x : V} {H' : Hp} {Q : L2.St → Bool → Hp → Prop}
    (R : Rel K P r (wipe σ vs) H F Af) (o : OutV K H F d x H') (h1 : g d r = .ok () r1) (h2 : tt r1 = .ok b r2)
    (h : ∀ σ2 H2 F2 Af2, wipe σ2 vs = wipe σ vs → Ext H F (U Af) H2 F2 (U Af2) → Rel K P r2 σ2 H2 F2 Af2 → Q σ2 b H2) :
    tG K mg P (fun _ _ _ => False) vs g x (wipe σ vs) H' fun σ2 H2 => wipe σ2 vs = wipe σ vs ∧ tT K mg P (fun _ _ _ => False) tt σ2 H2 fun b H3 => Q σ2 b H3 := by
  obtain ⟨F1, gr, rp⟩ := o
  refine ⟨d, r, F1, Af, R.grow gr, rp, ?_⟩
  rw [h1]
  intro σ2 H2 F2 Af2 l2 n2 ex2 R2
  have hw : wipe σ2 vs = wipe σ vs := wipe_same l2 n2
  refine ⟨hw, r1, F2, Af2, R2, ?_⟩
  rw [h2]
  exact fun H3 F3 Af3 ex3 R3 => h σ2 H3 F3 Af3 hw ((gr.ext.trans ex2).trans ex3) R3
/-- what a comprehension's walk asks once its iterator has come -/
theorem comp_in {K : PySem.W.Frag} {mg : Str → Option Value} {P : List V} {E : XK} {vs : List Nat} {g : D → M Unit} {tt : M Bool} {te : M D} {ds : List D} {r1 : En} {σ : L2.St} {J : It} {G0 H1 F1 : Hp} {Af1 : Nat → Fp} {Q : VK} (hP : ∀ v ∈ vs, P.length ≤ v) (R1 : Rel K P r1 σ H1 F1 Af1) (hd1 : Held G0 H1 (U Af1)) (io : ItOk K J F1 G0 ds)
    (q : Post K mg P E σ H1 F1 Af1 (mCompA vs g tt te ds r1) Q) : ∀ D, H1 D = none → ∃ W : Nat → Nat → Hp → Prop, (∃ m, W 0 m (upd H1 D (.lst []))) ∧ ∀ i m H, W i m H →
      (J.stop i H ∧ Q (.ref D) H) ∨ (J.go i H ∧ ∃ Nx : Hp → Prop, (∀ H', Nx H' → ∃ m', m' < m ∧ W (i + 1) m' H') ∧ ∀ x H', J.yld i H x H' → tG K mg P (fun _ _ _ => False) vs g x (wipe σ vs) H' fun σ2 H2 => wipe σ2 vs = wipe σ vs ∧ tT K mg P (fun _ _ _ => False) tt σ2 H2 fun b H3 =>
        if b = true then tF K mg P (fun _ _ _ => False) te σ2 H3 fun y H4 => ∃ acc, H4 D = some (.lst acc) ∧ acc.length < sizeLine ∧ Nx (upd H4 D (.lst (acc ++ [y]))) else Nx H3) := by
  intro D hD
  unfold mCompA at q
  cases e1 : compL vs g tt te ds (wipeE r1 vs) with
  | ex x r2 => rw [e1] at q; exact q.elim
  | st => rw [e1] at q; exact q.elim
  | ok xs re =>
    rw [e1] at q
    simp only at q
    by_cases hln : ¬ xs.length ≤ sizeLine
    · rw [if_neg hln] at q; exact q.elim
    have hl : xs.length ≤ sizeLine := Decidable.not_not.mp hln
    rw [if_pos hl] at q
    have Rw := R1.wipe hP
    have nD : ¬ U (wA Af1 vs) D := fun z => (R1.own (U_wA z)).1 hD
    have fD : F1 D = none := keep_none R1.keep hD
    refine ⟨fun i m H => m + i = ds.length ∧ Same G0 H ∧ ∃ r F Af accV acc rs, Rel K P r (wipe σ vs) H F Af ∧ Ext H1 F1 (U (wA Af1 vs)) H F (U Af) ∧ ¬ U Af D ∧ F D = none ∧ H D = some (.lst accV) ∧ RepL K F accV acc ∧ compL vs g tt te (ds.drop i) r = .ok rs re ∧ acc ++ rs = xs,
      ⟨ds.length, by omega, fun a o e => by rw [upd_ne (ne_of_none (hd1.1 a o e) hD)]; exact hd1.1 a o e, wipeE r1 vs, F1, wA Af1 vs, [], [], xs, Rw.beside fD nD, ⟨fun a o e n => by rw [upd_ne (ne_of_none e hD)]; exact e, fun a e => ?_, Same.refl _, fun _ e => .inl e, fun _ e => .inl e⟩, nD, fD, upd_same, .nil, e1, rfl⟩, ?_⟩
    · by_cases ha : a = D
      · rw [ha, upd_same] at e; cases e
      · rw [upd_ne ha] at e; exact e
    rintro i m H ⟨em, sg, r, F, Af, accV, acc, rs, R, ex, nA, fA, hA, rA, ec, ea⟩
    obtain ⟨i1, i2⟩ := io H F ex.ff sg R.keep i
    have nG : ∀ a, G0 a ≠ none → ¬ U Af a := fun a n z => (ex.own a z).elim (fun z => hd1.2 a n (U_wA z)) fun z => by
      cases g : G0 a with
      | none => exact n g
      | some o => have := hd1.1 a o g; rw [z] at this; cases this
    by_cases hi : i < ds.length
    · obtain ⟨g1, g2⟩ := i2 ds[i] (List.getElem?_eq_getElem hi)
      rw [List.drop_eq_getElem_cons hi] at ec
      unfold compL at ec
      cases c1 : g ds[i] r with
      | ex x r2 => rw [c1] at ec; cases ec
      | st => rw [c1] at ec; cases ec
      | ok u r2 =>
        rw [c1] at ec
        simp only at ec
        cases c2 : tt r2 with
        | ex x r3 => rw [c2] at ec; cases ec
        | st => rw [c2] at ec; cases ec
        | ok b r3 =>
          rw [c2] at ec
          simp only at ec
          refine .inr ⟨g1, fun H' => Same G0 H' ∧ ∃ r F Af accV acc rs, Rel K P r (wipe σ vs) H' F Af ∧ Ext H1 F1 (U (wA Af1 vs)) H' F (U Af) ∧ ¬ U Af D ∧ F D = none ∧ H' D = some (.lst accV) ∧ RepL K F accV acc ∧ compL vs g tt te (ds.drop (i + 1)) r = .ok rs re ∧ acc ++ rs = xs, fun H' w => ⟨m - 1, by omega, by omega, w⟩, fun x H' y => ?_⟩
          refine turn_test R (g2 x H' y) c1 c2 fun σ2 H2 F2 Af2 hw ex2 R2 => ?_
          have nA2 : ¬ U Af2 D := fun z => (ex2.own D z).elim nA fun z => by rw [hA] at z; cases z
          have fA2 : F2 D = none := (ex2.new D fA).elim id fun z => z.elim (fun z => by rcases z with z | ⟨_, z⟩ <;> (rw [hA] at z; cases z)) fun z => (nA z).elim
          have hA2 : H2 D = some (.lst accV) := ex2.fr D _ hA nA
          cases b with
          | false =>
            rw [if_neg Bool.false_ne_true] at ec ⊢
            have R3 := R2.wipe hP
            rw [hw] at R3
            exact ⟨(Held.ext ⟨sg, nG⟩ ex2).1, wipeE r3 vs, F2, wA Af2 vs, accV, acc, rs, R3, (ex.trans ex2).less fun _ z => U_wA z, fun z => nA2 (U_wA z), fA2, hA2, rA.mono ex2.ff, ec, ea⟩
          | true =>
            rw [if_pos rfl] at ec ⊢
            cases c3 : te r3 with
            | ex x r4 => rw [c3] at ec; cases ec
            | st => rw [c3] at ec; cases ec
            | ok xd r4 =>
              rw [c3] at ec
              simp only at ec
              cases c4 : compL vs g tt te (ds.drop (i + 1)) (wipeE r4 vs) with
              | ex x r5 => rw [c4] at ec; cases ec
              | st => rw [c4] at ec; cases ec
              | ok rs' r5 =>
                rw [c4] at ec
                cases ec
                refine ⟨r3, F2, Af2, R2, ?_⟩
                rw [c3]
                intro v H3 F3 Af3 ex3 R3 rp3
                have nA3 : ¬ U Af3 D := fun z => (ex3.own D z).elim nA2 fun z => by rw [hA2] at z; cases z
                have fA3 : F3 D = none := (ex3.new D fA2).elim id fun z => z.elim (fun z => by rcases z with z | ⟨_, z⟩ <;> (rw [hA2] at z; cases z)) fun z => (nA2 z).elim
                have hA3 : H3 D = some (.lst accV) := ex3.fr D _ hA2 nA2
                have hacc : accV.length < sizeLine := by
                  rw [rA.length]
                  have : (acc ++ xd :: rs').length ≤ sizeLine := by rw [ea]; exact hl
                  rw [List.length_append, List.length_cons] at this
                  omega
                have R4 := R3.wipe hP
                rw [hw] at R4
                have exf := (ex.trans ex2).trans ex3
                refine ⟨accV, hA3, hacc, fun a o e => by rw [upd_ne (ne_of_none (hd1.1 a o e) hD)]; exact (Held.ext ⟨sg, nG⟩ (ex2.trans ex3)).1 a o e, wipeE r4 vs, F3, wA Af3 vs, accV ++ [v], acc ++ [xd], rs', R4.beside fA3 fun z => nA3 (U_wA z), ⟨fun a o e n => ?_, fun a e => ?_, exf.ff, exf.new, fun a z => exf.own a (U_wA z)⟩, fun z => nA3 (U_wA z), fA3, upd_same, (rA.mono (ex2.ff.trans ex3.ff)).append (.cons rp3 .nil), c4, by rw [← ea]; simp⟩
                · rw [upd_ne (ne_of_none e hD)]; exact exf.fr a o e n
                · by_cases ha : a = D
                  · rw [ha, upd_same] at e; cases e
                  · rw [upd_ne ha] at e; exact exf.dom a e
    · rw [List.drop_of_length_le (by omega)] at ec
      unfold compL at ec
      cases ec
      rw [List.append_nil] at ea
      subst ea
      refine .inl ⟨i1 (by omega) (by omega), q (.ref D) H F _ (fun a => a = D) ?_ (R1.rest R ex) ⟨⟨D, accV, rfl, rfl, hA, fA, rA⟩, fun a ha ⟨j, z⟩ => ?_⟩⟩
      · have e2 := rest_ext ex hD
        exact ⟨fun a o e n => e2.fr a o e n, e2.dom, e2.ff, e2.new, e2.own⟩
      · subst ha
        by_cases hj : j ∈ vs
        · simp only [if_pos hj] at z; exact (R1.own ⟨j, z⟩).1 hD
        · simp only [if_neg hj] at z; exact nA ⟨j, z⟩

theorem comp_t {K : PySem.W.Frag} {mg : Str → Option Value} {P : List V} {E : XK} {vs : List Nat} {it : M (List D)} {g : D → M Unit} {tt : M Bool} {te : M D} (hP : ∀ v ∈ vs, P.length ≤ v) (σ : L2.St) (H : Hp) (Q : VK) (h : tE K mg P E (mComp vs it g tt te) σ H Q) :
    tLc (tI K mg P E it) (tG K mg P (fun _ _ _ => False) vs g) (tT K mg P (fun _ _ _ => False) tt) (tF K mg P (fun _ _ _ => False) te) vs σ H Q := by
  obtain ⟨r, F, Af, R, q⟩ := h
  refine ⟨r, F, Af, R, ?_⟩
  unfold mComp at q
  cases e0 : it r with
  | ex x r1 => rw [e0] at q; exact q
  | st => rw [e0] at q; exact q
  | ok ds r1 =>
    rw [e0] at q
    exact fun J G0 H1 F1 Af1 ex1 R1 hd1 io => comp_in hP R1 hd1 io (Post.from q ex1)
section
variable {X : Cx} {P : List V} {E : XK} {elt tg iter : Expr} {ifs : List Expr} {scope : Scope} {own : List (Str × Nat)} {pos : Pos} {it : M (List D)} {g : D → M Unit} {tt : M Bool} {te : M D}
theorem de_comp (hc : X.calm = true) (hN : X.N.Nodup) (hP : ∀ v ∈ own.map (·.2), P.length ≤ v) (hi : DI X P E tg iter it) (ok : BlkOk X.N X.env.scope scope own)
    (hg : ∀ (s : Shared) (H : Hp) (C : Addr) (cl : List (Str × Addr)) (fp : List Addr), DG (X.blk s H scope (compEnvC scope cl C X.env) fp) P (fun _ _ _ => False) (own.map (·.2)) tg g) (ht : ∀ (s : Shared) (H : Hp) (C : Addr) (cl : List (Str × Addr)) (fp : List Addr), DP (X.blk s H scope (compEnvC scope cl C X.env) fp) P (fun _ _ _ => False) ifs tt)
    (he : ∀ (s : Shared) (H : Hp) (C : Addr) (cl : List (Str × Addr)) (fp : List Addr), DF (X.blk s H scope (compEnvC scope cl C X.env) fp) P (fun _ _ _ => False) elt te) (hs : ∀ x, foldedSetIterable iter X.env x = pure x := by intro _; rfl) :
    DE X P E (.ListComp elt [⟨tg, iter, ifs, 0⟩] scope pos) (mComp (own.map (·.2)) it g tt te) := by
  exact ⟨PE.wk (pe_lc (g := tG X.K X.mg P (fun _ _ _ => False) (own.map (·.2)) g) (tt := tT X.K X.mg P (fun _ _ _ => False) tt) (te := tF X.K X.mg P (fun _ _ _ => False) te) hc hN hi.pi ok (fun s H C cl fp => (hg s H C cl fp).pg) (fun s H C cl fp => (ht s H C cl fp).pts) (fun s H C cl fp => (he s H C cl fp).pe) hs) (comp_t hP)⟩
end
end NT

set_option Elab.async false
set_option linter.all false
set_option maxRecDepth 100000
set_option maxHeartbeats 1000000
namespace NT
open PySem PySem.Spec PyProof.Rows L2

/-! ### calls of the text's own defs -/
inductive RC where
  | ok (p : Pl) (io : En) | ex (x : Exn) (io : En) | st
abbrev Fn := En → RC
/-- what a def of n parameters promises; the first nio are objects of the caller's that it may change -/
def spOf (K : PySem.W.Frag) (mg : Str → Option Value) (n nio : Nat) (m : Fn) : Sp := fun vs H Q E => vs.length = n ∧ ∃ ss F Af, Rel K (vs.take nio) ss (vs.map some) H F Af ∧ match m ss with
  | .ok p io => ∀ v H' F' Af' T, Ext H F (U Af) H' F' (fun a => U Af' a ∨ T a) → Rel K (vs.take nio) io ((vs.take nio).map some) H' F' Af' → PlRep K H' F' Af' [] T v p → Q v H'
  | .ex x io => ∀ C od H' F' Af', Ext H F (U Af) H' F' (U Af') → Rel K (vs.take nio) io ((vs.take nio).map some) H' F' Af' → ExRep K mg F' x C od → E C od H'
  | .st => False
/-- a def by its body: more: the names beside the parameters -/
def fnOf (more nio : Nat) (b : En → RS) : Fn := fun ss => match b (ss ++ List.replicate more .un) with
  | .nx r => .ok (.v .non) (r.take nio)
  | .rt (.v d) r => .ok (.v d) (r.take nio)
  | .rt (.n o) r => .ok (.n o) (r.take nio)
  | .ex x r => .ex x (r.take nio)
  | _ => .st
theorem Rel.io {K : PySem.W.Frag} {P : List V} {r : En} {σ : L2.St} {H F : Hp} {Af : Nat → Fp} (R : Rel K P r σ H F Af) (n : Nat) (hP : P.length = n) : Rel K P (r.take n) (P.map some) H F (fun j => if j < n then Af j else fun _ => False) := by
  have hσ : ∀ j, j < n → (P.map some)[j]? = σ[j]? := fun j hj => by
    have hj' : j < P.length := by omega
    rw [List.getElem?_map, List.getElem?_eq_getElem hj', R.par j P[j] (List.getElem?_eq_getElem hj')]
    rfl
  have hr : n ≤ r.length := by
    rw [R.len]
    by_cases h0 : n = 0
    · omega
    · have hj : n - 1 < P.length := by omega
      have := (List.getElem?_eq_some_iff.mp (R.par (n - 1) P[n - 1] (List.getElem?_eq_getElem hj))).1
      omega
  refine ⟨by rw [List.length_take, List.length_map]; omega, R.keep, fun j v e => by rw [List.getElem?_map, e]; rfl, fun j s e => ?_, fun j e a => ?_, fun j k a h1 h2 => ?_⟩
  · have hj : j < n := by
      have := (List.getElem?_eq_some_iff.mp e).1
      rw [List.length_take] at this
      omega
    rw [List.getElem?_take_of_lt hj] at e
    rw [hσ j hj]
    simp only [if_pos hj]
    exact R.slot j s e
  · by_cases hj : j < n
    · rw [List.getElem?_take_of_lt hj] at e
      simp only [if_pos hj]; exact R.out j e a
    · simp only [if_neg hj]; exact id
  · by_cases hj : j < n
    · by_cases hk : k < n
      · simp only [if_pos hj] at h1; simp only [if_pos hk] at h2; exact R.dis j k a h1 h2
      · simp only [if_neg hk] at h2
    · simp only [if_neg hj] at h1
theorem U_io {Af : Nat → Fp} {n : Nat} {a : Addr} (h : U (fun j => if j < n then Af j else fun _ => False) a) : U Af a := by
  obtain ⟨j, z⟩ := h
  by_cases hj : j < n
  · simp only [if_pos hj] at z; exact ⟨j, z⟩
  · simp only [if_neg hj] at z
theorem Rel.more {K : PySem.W.Frag} {P : List V} {r : En} {σ : L2.St} {H F : Hp} {Af : Nat → Fp} (R : Rel K P r σ H F Af) (n : Nat) (τ : L2.St) (hτ : τ.length = n) : Rel K P (r ++ List.replicate n .un) (σ ++ τ) H F Af := by
  refine ⟨by rw [List.length_append, List.length_append, List.length_replicate, R.len, hτ], R.keep, fun j v e => ?_, fun j s e => ?_, fun j e a => ?_, R.dis⟩
  · have z := R.par j v e
    rw [List.getElem?_append_left (List.getElem?_eq_some_iff.mp z).1]
    exact z
  · by_cases hj : j < r.length
    · rw [List.getElem?_append_left hj] at e
      rw [List.getElem?_append_left (by rw [← R.len]; exact hj)]
      exact R.slot j s e
    · rw [List.getElem?_append_right (by omega)] at e
      have : s = .un := by
        have := List.mem_of_getElem? e
        exact (List.mem_replicate.mp this).2
      subst this
      exact fun a => R.out j (List.getElem?_eq_none (by omega)) a
  · refine R.out j ?_ a
    have := List.getElem?_eq_none_iff.mp e
    rw [List.length_append] at this
    exact List.getElem?_eq_none (by omega)
theorem PlRep.any {K : PySem.W.Frag} {H F : Hp} {Af Af' : Nat → Fp} {σ σ' : L2.St} {T : Fp} {v : V} {p : Pl} (h : PlRep K H F Af σ T v p) (n : ∀ i, p ≠ .s i) (k : ∀ a, T a → U Af' a → U Af a) : PlRep K H F Af' σ' T v p := by
  cases p with
  | v d => exact h
  | s i => exact (n i rfl).elim
  | n o => exact ⟨h.1, fun a t z => h.2 a t (k a t z)⟩
section
variable {P : Program} {w : World} {K : PySem.W.Frag} {mg : Str → Option Value} {base : Heap}
/-- THE RULE for a def: from what its body does -/
theorem fn_ok {x qual : Str} {st : Stmt} {f : Addr} {fd : FuncData} {N ps : List Str} {k nio : Nat} {b : En → RS} (F : Fun K x qual st f fd) (S : FnScope N ps (defScope st)) (hio : nio ≤ ps.length)
    (hbody : ∀ (cdv : Value) (A : Around) (outer : List Env) (s : Shared) (H : Hp) (P' : List V) (E : XK), Room k (A.deeper (envOfC qual (defScope st) s.heap.objs.size f cdv)) → P'.length = nio → DB (cxOf (L2.CX P w) P w K mg base N qual (defScope st) f cdv A outer s H E) P' E (defBody st) b)
    (hst : ∀ vs : List V, vs.length = ps.length → ∃ τ : L2.St, start N vs = vs.map some ++ τ ∧ τ.length = N.length - ps.length) : FnOk P w K mg base (L2.CX P w) (k + 1) f fd ps (spOf K mg ps.length nio (fnOf (N.length - ps.length) nio b)) := by
  refine F.okX S (fun vs H Q E h => h.1) fun cdv A outer s H vs Q E hr hsp => ?_
  obtain ⟨hl, ss, F0, Af, R, q⟩ := hsp
  have hP : (vs.take nio).length = nio := by rw [List.length_take]; omega
  refine ⟨_, (hbody cdv A outer s H (vs.take nio) E hr hP).pss, ?_⟩
  obtain ⟨τ, e1, e2⟩ := hst vs hl
  rw [e1]
  show ∃ r F Af, Rel K (vs.take nio) r (vs.map some ++ τ) H F Af ∧ PostS K mg (vs.take nio) E H F Af (b r) { nx := fun _ H' => Q .non H', rt := Q }
  refine ⟨ss ++ List.replicate (N.length - ps.length) Sl.un, F0, Af, R.more _ τ e2, ?_⟩
  unfold fnOf at q
  cases e3 : b (ss ++ List.replicate (N.length - ps.length) .un) with
  | nx r =>
    rw [e3] at q
    intro σ' H' F' Af' ex R'
    refine q .non H' F' _ (fun _ => False) (ex.less fun a z => z.elim U_io False.elim) (R'.io nio hP) ⟨.non, fun _ => id⟩
  | rt p r =>
    rw [e3] at q
    intro v σ' H' F' Af' T ex R' rp
    cases p with
    | v d => exact q v H' F' _ T (ex.less fun a z => z.elim (fun z => .inl (U_io z)) .inr) (R'.io nio hP) (rp.any (fun i z => by cases z) fun a _ => U_io)
    | n o => exact q v H' F' _ T (ex.less fun a z => z.elim (fun z => .inl (U_io z)) .inr) (R'.io nio hP) (rp.any (fun i z => by cases z) fun a _ => U_io)
    | s i => exact q.elim
  | ex x r =>
    rw [e3] at q
    intro C od σ' H' F' Af' _ ex R' er
    exact q C od H' F' _ (ex.less fun a z => U_io z) (R'.io nio hP) er
  | bk r => rw [e3] at q; exact q.elim
  | ct r => rw [e3] at q; exact q.elim
  | st => rw [e3] at q; exact q.elim
end

/-! arguments: names of what the callee may change, then data -/
inductive IoV (σ : L2.St) : List Nat → List V → Prop
  | nil : IoV σ [] []
  | cons {i : Nat} {v : V} {is : List Nat} {vs : List V} : σ[i]? = some (some v) → IoV σ is vs → IoV σ (i :: is) (v :: vs)
theorem IoV.length {σ : L2.St} : ∀ {is : List Nat} {vs : List V}, IoV σ is vs → vs.length = is.length
  | _, _, .nil => rfl
  | _, _, .cons _ t => congrArg (· + 1) t.length
theorem IoV.get {σ : L2.St} : ∀ {is : List Nat} {vs : List V} {j i : Nat}, IoV σ is vs → is[j]? = some i → ∃ v, vs[j]? = some v ∧ σ[i]? = some (some v)
  | _, _, _, _, .nil, e => by simp at e
  | _, _, 0, _, .cons h _, e => by simp at e; subst e; exact ⟨_, rfl, h⟩
  | _, _, j + 1, i, .cons _ t, e => by
    obtain ⟨v, h1, h2⟩ := IoV.get (j := j) (i := i) t (by simpa using e)
    exact ⟨v, by simpa using h1, h2⟩
structure DC (X : Cx) (P : List V) (E : XK) (ios : List Nat) (es : List Expr) (f : M (List D)) : Prop where
  pa : PA X es fun σ H Q => ∃ vi, IoV σ ios vi ∧ tFL X.K X.mg P E f σ H fun vs H1 => Q (vi ++ vs) H1
  len : ∀ r ds r', f r = .ok ds r' → ios.length + ds.length = es.length
def hasSl : Option Sl → Bool
  | some (.fz _) => true
  | some (.own _) => true
  | _ => false
def putIo (r : En) : List Nat → En → En
  | [], _ => r
  | _ :: _, [] => r
  | i :: is, s :: ss => putIo (r.set i s) is ss
def mApp (ios : List Nat) (m : Fn) (fs : M (List D)) : M Pl := fun r => if ios.all (fun i => hasSl r[i]?) = true then (match fs r with
  | .ok ds r1 => match m (ios.map (fun i => r1.getD i .un) ++ ds.map .fz) with
    | .ok p io => .ok p (putIo r1 ios io)
    | .ex x io => .ex x (putIo r1 ios io)
    | .st => .st
  | .ex x r1 => .ex x r1
  | .st => .st) else .st
theorem putIo_len : ∀ (is : List Nat) (ss r : En), (putIo r is ss).length = r.length
  | [], _, _ => by rw [putIo]
  | _ :: _, [], _ => by rw [putIo]
  | i :: is, s :: ss, r => by unfold putIo; rw [putIo_len is ss, List.length_set]
theorem putIo_out {k : Nat} : ∀ {is : List Nat} {ss r : En}, k ∉ is → (putIo r is ss)[k]? = r[k]?
  | [], _, _, _ => by rw [putIo]
  | _ :: _, [], _, _ => by rw [putIo]
  | i :: is, s :: ss, r, h => by
    simp only [List.mem_cons, not_or] at h
    unfold putIo
    rw [putIo_out h.2, List.getElem?_set_ne (Ne.symm h.1)]
theorem putIo_in {k : Nat} : ∀ {is : List Nat} {ss r : En} {j : Nat}, is.Nodup → k < r.length → is[j]? = some k → j < ss.length → (putIo r is ss)[k]? = ss[j]?
  | [], _, _, _, _, _, e, _ => by simp at e
  | _ :: _, [], _, _, _, _, _, h => by simp at h
  | i :: is, s :: ss, r, 0, nd, hk, e, _ => by
    simp at e; subst e
    unfold putIo
    rw [putIo_out (List.nodup_cons.mp nd).1, List.getElem?_set_self hk]
    rfl
  | i :: is, s :: ss, r, j + 1, nd, hk, e, h => by
    unfold putIo
    rw [putIo_in (j := j) (List.nodup_cons.mp nd).2 (by rw [List.length_set]; exact hk) (by simpa using e) (by simpa using h)]
    rfl
section
variable {X : Cx} {P : List V} {E : XK} {e : Expr} {es : List Expr} {f : M (List D)} {ios : List Nat} {pos p : Pos} {x : Str}
theorem dc_nil (h : DL X P E es f) : DC X P E [] es f := ⟨PA.wk h.pa fun σ H Q ⟨vi, iv, q⟩ => by cases iv; exact q, fun r ds r' e => by rw [List.length_nil, Nat.zero_add]; exact h.len r ds r' e⟩
theorem dc_cons (i : Nat) (hN : X.N[i]? = some x) (hv : Vis X.env.scope x) (h : DC X P E ios es f) (hd : (x == ("__debug__" : Str)) = false := by decide)
    (hcd : (x == ("__classdict__" : Str)) = false := by decide) (hst : starEach (.Name x pos :: es) X.env = (false, eval (.Name x pos) X.env) :: starEach es X.env := by rfl) : DC X P E (i :: ios) (.Name x pos :: es) f :=
  ⟨PA.wk (pa_cons (pe_var hN hv hd hcd) h.pa hst) fun σ H Q ⟨vi, iv, q⟩ => by
    cases iv with
    | cons h1 h2 => exact ⟨_, h1, _, h2, q⟩, fun r ds r' e => by
      have := h.len r ds r' e
      rw [List.length_cons, List.length_cons]
      omega⟩
theorem iov_of {K : PySem.W.Frag} {P : List V} {r : En} {σ : L2.St} {H F : Hp} {Af : Nat → Fp} (R : Rel K P r σ H F Af) : ∀ {ios : List Nat}, ios.all (fun i => hasSl r[i]?) = true → ∃ vi, IoV σ ios vi
  | [], _ => ⟨[], .nil⟩
  | i :: is, h => by
    simp only [List.all_cons, Bool.and_eq_true] at h
    obtain ⟨vi, t⟩ := iov_of R h.2
    cases e : r[i]? with
    | none => rw [e] at h; cases h.1
    | some s =>
      rw [e] at h
      have z := R.slot i s e
      cases s with
      | un => cases h.1
      | fz d => obtain ⟨⟨v, e1, _⟩, _⟩ := z; exact ⟨v :: vi, .cons e1 t⟩
      | own o => obtain ⟨v, e1, _⟩ := z; exact ⟨v :: vi, .cons e1 t⟩
/-- into a call -/
theorem Rel.call {K : PySem.W.Frag} {P : List V} {r : En} {σ : L2.St} {H F : Hp} {Af : Nat → Fp} (R : Rel K P r σ H F Af) {ios : List Nat} {vi vs : List V} {ds : List D} (nd : ios.Nodup) (iv : IoV σ ios vi) (rp : RepL K F vs ds) :
    Rel K ((vi ++ vs).take ios.length) (ios.map (fun i => r.getD i .un) ++ ds.map .fz) ((vi ++ vs).map some) H F (fun j a => ∃ i, ios[j]? = some i ∧ Af i a) := by
  have hl := iv.length
  refine ⟨by simp [hl, rp.length], R.keep, fun j v e => ?_, fun j s e => ?_, fun j e a => ?_, fun j k a h1 h2 => ?_⟩
  · have hj : j < ios.length := by
      have := (List.getElem?_eq_some_iff.mp e).1
      rw [List.length_take] at this
      omega
    rw [List.getElem?_take_of_lt hj] at e
    rw [List.getElem?_map, e]; rfl
  · by_cases hj : j < ios.length
    · rw [List.getElem?_append_left (by rw [List.length_map]; exact hj), List.getElem?_map, List.getElem?_eq_getElem hj] at e
      simp only [Option.map_some, Option.some.injEq] at e
      obtain ⟨v, e1, e2⟩ := iv.get (List.getElem?_eq_getElem hj)
      have ev : ((vi ++ vs).map some)[j]? = σ[ios[j]]? := by
        rw [List.getElem?_map, List.getElem?_append_left (by omega), e1, e2]; rfl
      rw [ev]
      have eT : (fun a => ∃ i, ios[j]? = some i ∧ Af i a) = Af ios[j] := by
        funext a
        rw [List.getElem?_eq_getElem hj]
        simp
      rw [eT]
      cases er : r[ios[j]]? with
      | none =>
        have hz : s = .un := by rw [← e, List.getD_eq_getElem?_getD, er]; rfl
        subst hz
        exact R.out _ er
      | some t =>
        have hz : s = t := by rw [← e, List.getD_eq_getElem?_getD, er]; rfl
        subst hz
        exact R.slot _ _ er
    · rw [List.getElem?_append_right (by rw [List.length_map]; omega), List.length_map, List.getElem?_map] at e
      cases ed : ds[j - ios.length]? with
      | none => rw [ed] at e; cases e
      | some d =>
        rw [ed] at e
        simp only [Option.map_some, Option.some.injEq] at e
        subst e
        obtain ⟨v, e1, e2⟩ := rp.get ed
        refine ⟨⟨v, ?_, e2⟩, fun a ⟨i, z, _⟩ => by rw [List.getElem?_eq_none (by omega)] at z; cases z⟩
        rw [List.getElem?_map, List.getElem?_append_right (by omega), hl, e1]; rfl
  · rintro ⟨i, z, _⟩
    have hj := (List.getElem?_eq_some_iff.mp z).1
    rw [List.getElem?_append_left (by rw [List.length_map]; exact hj), List.getElem?_map, z] at e
    cases e
  · obtain ⟨i, e1, h1⟩ := h1
    obtain ⟨i2, e2, h2⟩ := h2
    have : i = i2 := R.dis i i2 a h1 h2
    subst this
    obtain ⟨b1, c1⟩ := List.getElem?_eq_some_iff.mp e1
    obtain ⟨b2, c2⟩ := List.getElem?_eq_some_iff.mp e2
    exact (List.getElem_inj nd).mp (c1.trans c2.symm)
/-- out of a call -/
theorem Rel.back {K : PySem.W.Frag} {P : List V} {r : En} {σ : L2.St} {H F H' F' : Hp} {Af Af' : Nat → Fp} {T : Fp} (R : Rel K P r σ H F Af) {ios : List Nat} {vi vs : List V} {io : En} (nd : ios.Nodup) (iv : IoV σ ios vi) (hios : ∀ i ∈ ios, i < r.length)
    (ex : Ext H F (U fun j a => ∃ i, ios[j]? = some i ∧ Af i a) H' F' (fun a => U Af' a ∨ T a)) (R' : Rel K ((vi ++ vs).take ios.length) io (((vi ++ vs).take ios.length).map some) H' F' Af') :
    ∃ Af2, Ext H F (U Af) H' F' (fun a => U Af2 a ∨ T a) ∧ Rel K P (putIo r ios io) σ H' F' Af2 ∧ ∀ a, T a → U Af2 a → U Af' a := by
  have hl := iv.length
  have hlio : io.length = ios.length := by rw [R'.len, List.length_map, List.length_take, List.length_append]; omega
  have uc : ∀ a, U (fun j a => ∃ i, ios[j]? = some i ∧ Af i a) a → ∃ i ∈ ios, Af i a := fun a ⟨j, i, e, h⟩ => ⟨i, List.mem_of_getElem? e, h⟩
  have apart : ∀ k a, k ∉ ios → Af k a → ¬ U (fun j a => ∃ i, ios[j]? = some i ∧ Af i a) a := fun k a hk h z => by
    obtain ⟨i, hi, h2⟩ := uc a z
    exact hk (R.dis k i a h h2 ▸ hi)
  refine ⟨fun k a => (∃ j, ios[j]? = some k ∧ Af' j a) ∨ (k ∉ ios ∧ Af k a), ⟨fun a o e n => ex.fr a o e fun z => n (let ⟨i, _, h⟩ := uc a z; ⟨i, h⟩), ex.dom, ex.ff, fun a e => (ex.new a e).elim .inl fun z => z.elim (fun z => .inr (.inl z)) fun z => .inr (.inr (let ⟨i, _, h⟩ := uc a z; ⟨i, h⟩)), fun a z => ?_⟩, ⟨by rw [putIo_len]; exact R.len, R'.keep, R.par, fun k s e => ?_, fun k e a => ?_, fun j k a h1 h2 => ?_⟩, fun a t z => ?_⟩
  · have up : U Af' a ∨ T a → U Af a ∨ H a = none := fun z => (ex.own a z).imp (fun z => let ⟨i, _, h⟩ := uc a z; ⟨i, h⟩) id
    rcases z with ⟨k, z | z⟩ | z
    · obtain ⟨j, _, h⟩ := z; exact up (.inl ⟨j, h⟩)
    · exact .inl ⟨k, z.2⟩
    · exact up (.inr z)
  · by_cases hk : k ∈ ios
    · obtain ⟨j, hj⟩ := List.getElem?_of_mem hk
      have hjl : j < ios.length := (List.getElem?_eq_some_iff.mp hj).1
      rw [putIo_in nd (hios k hk) hj (by omega)] at e
      obtain ⟨v, e1, e2⟩ := iv.get hj
      have z := R'.slot j s e
      have ev : (((vi ++ vs).take ios.length).map some)[j]? = σ[k]? := by
        rw [List.getElem?_map, List.getElem?_take_of_lt hjl, List.getElem?_append_left (by omega), e1, e2]; rfl
      rw [ev] at z
      have eT : (fun a => (∃ j, ios[j]? = some k ∧ Af' j a) ∨ (k ∉ ios ∧ Af k a)) = Af' j := by
        funext a
        apply propext
        constructor
        · rintro (⟨j', e', h⟩ | ⟨h, _⟩)
          · obtain ⟨b1, c1⟩ := List.getElem?_eq_some_iff.mp hj
            obtain ⟨b2, c2⟩ := List.getElem?_eq_some_iff.mp e'
            have : j' = j := (List.getElem_inj nd).mp (c2.trans c1.symm)
            rw [this] at h; exact h
          · exact (h hk).elim
        · exact fun h => .inl ⟨j, hj, h⟩
      rw [eT]; exact z
    · rw [putIo_out hk] at e
      have eT : (fun a => (∃ j, ios[j]? = some k ∧ Af' j a) ∨ (k ∉ ios ∧ Af k a)) = Af k := by
        funext a
        apply propext
        constructor
        · rintro (⟨j', e', h⟩ | ⟨_, h⟩)
          · exact (hk (List.mem_of_getElem? e')).elim
          · exact h
        · exact fun h => .inr ⟨hk, h⟩
      rw [eT]
      refine (R.slot k s e).mono ex.ff fun a u t h => ⟨ex.fr a u h (apart k a hk t), ?_⟩
      have z := R.own (a := a) ⟨k, t⟩
      exact (ex.new a z.2).elim id fun q => q.elim (fun q => (R.nfx ⟨k, t⟩ q).elim) fun q => (apart k a hk t q).elim
  · rintro (⟨j, e1, h⟩ | ⟨hk, h⟩)
    · have hk : k ∈ ios := List.mem_of_getElem? e1
      have := List.getElem?_eq_none_iff.mp e
      rw [putIo_len] at this
      exact absurd (hios k hk) (by omega)
    · rw [putIo_out hk] at e
      exact R.out k e a h
  · have cross : ∀ j k, (∃ j', ios[j']? = some j ∧ Af' j' a) → (k ∉ ios ∧ Af k a) → False := fun j k ⟨j', _, h⟩ ⟨hk, t⟩ => by
      rcases ex.own a (.inl ⟨j', h⟩) with z | z
      · exact apart k a hk t z
      · exact (R.own ⟨k, t⟩).1 z
    rcases h1 with h1 | h1
    · rcases h2 with h2 | h2
      · obtain ⟨j1, e1, t1⟩ := h1
        obtain ⟨j2, e2, t2⟩ := h2
        have := R'.dis j1 j2 a t1 t2
        subst this
        rw [e1] at e2; cases e2; rfl
      · exact (cross j k h1 h2).elim
    · rcases h2 with h2 | h2
      · exact (cross k j h2 h1).elim
      · exact R.dis j k a h1.2 h2.2
  · rcases z with ⟨k, z | z⟩
    · obtain ⟨j, _, h⟩ := z; exact ⟨j, h⟩
    · exfalso
      rcases ex.own a (.inr t) with q | q
      · exact apart k a z.1 z.2 q
      · exact (R.own ⟨k, z.2⟩).1 q
theorem app_t {n : Nat} {m : Fn} (nd : ios.Nodup) (hn : ∀ r ds r', f r = .ok ds r' → ios.length + ds.length = n) (σ : L2.St) (H : Hp) (Q : VK) (h : tE X.K X.mg P E (mApp ios m f) σ H Q) :
    ∃ vi, IoV σ ios vi ∧ tFL X.K X.mg P E f σ H fun vs H1 => spOf X.K X.mg n ios.length m ((vi ++ vs) ++ []) H1 Q E := by
  obtain ⟨r, F, Af, R, q⟩ := h
  unfold mApp at q
  by_cases hall : ¬ ios.all (fun i => hasSl r[i]?) = true
  · rw [if_neg hall] at q; exact q.elim
  have hall : ios.all (fun i => hasSl r[i]?) = true := Decidable.not_not.mp hall
  rw [if_pos hall] at q
  obtain ⟨vi, iv⟩ := iov_of R hall
  have hl := iv.length
  refine ⟨vi, iv, r, F, Af, R, ?_⟩
  cases e1 : f r with
  | ex x r1 => rw [e1] at q; exact q
  | st => rw [e1] at q; exact q
  | ok ds r1 =>
    rw [e1] at q
    simp only at q
    intro vs H1 F1 Af1 ex1 R1 rp1
    have hios : ∀ i ∈ ios, i < r1.length := fun i hi => by
      have z := List.all_eq_true.mp hall i hi
      cases e : r[i]? with
      | none => rw [e] at z; cases z
      | some s =>
        have := (List.getElem?_eq_some_iff.mp e).1
        rw [R.len, ← R1.len] at this
        exact this
    rw [List.append_nil]
    refine ⟨by rw [List.length_append, hl, rp1.length]; exact hn r ds r1 e1, _, F1, _, R1.call nd iv rp1, ?_⟩
    cases e2 : m (ios.map (fun i => r1.getD i .un) ++ ds.map .fz) with
    | st => rw [e2] at q; exact q
    | ok p io =>
      rw [e2] at q
      simp only at q
      intro v H2 F2 Af2 T ex2 R2 rp2
      obtain ⟨Af3, ex3, R3, k3⟩ := R1.back nd iv hios ex2 R2
      refine q v H2 F2 Af3 T (ex1.trans ex3) R3 (rp2.any (fun i z => ?_) k3)
      subst z
      have z := rp2.1
      simp at z
    | ex x io =>
      rw [e2] at q
      simp only at q
      intro C od H2 F2 Af2 ex2 R2 er
      obtain ⟨Af3, ex3, R3, _⟩ := R1.back (T := fun _ => False) nd iv hios (extF ex2) R2
      exact q C od σ H2 F2 Af3 trivial (ex1.trans ex3.noT) R3 er
theorem de_call {f' : Addr} {fd : FuncData} {k : Nat} {ps : List Str} {m : Fn} (F : FnOk X.prog X.w X.K X.mg X.base (L2.CX X.prog X.w) k f' fd ps (spOf X.K X.mg (e :: es).length ios.length m)) (hr : Room k X.A) (hg : Gl X x) (hm : X.mg x = some (.ref f')) (hk : PySem.W.keepIn X.K (.ref f') = true) (hb : Binds X.K fd ps [])
    (hx : Passes (L2.CX X.prog X.w) X E) (nd : ios.Nodup) (ha : DC X P E ios (e :: es) f) (hdb : (x == ("__debug__" : Str)) = false := by decide) (he : starEach (e :: es) X.env = (false, eval e X.env) :: starEach es X.env := by rfl) (hpl : (backTo pos (starEach es X.env)).any (·.1) = false := by rfl) :
    DE X P E (.Call (.Name x p) (e :: es) [] pos) (mApp ios m f) :=
  ⟨PE.wk (pe_call F hr hg hm hk hb .nil hx ha.pa hdb he hpl) fun σ H Q h => app_t nd ha.len σ H Q h⟩
theorem de_call0 {f' : Addr} {fd : FuncData} {k : Nat} {ps : List Str} {m : Fn} (F : FnOk X.prog X.w X.K X.mg X.base (L2.CX X.prog X.w) k f' fd ps (spOf X.K X.mg 0 0 m)) (hr : Room k X.A) (hg : Gl X x) (hm : X.mg x = some (.ref f')) (hk : PySem.W.keepIn X.K (.ref f') = true) (hb : Binds X.K fd ps [])
    (hx : Passes (L2.CX X.prog X.w) X E) (hdb : (x == ("__debug__" : Str)) = false := by decide) : DE X P E (.Call (.Name x p) [] [] pos) (mApp [] m lNil) :=
  ⟨PE.wk (pe_call0 F hr hg hm hk hb .nil hx hdb) fun σ H Q h => by
    obtain ⟨vi, iv, r, F', Af, R, q⟩ := app_t (n := 0) (f := lNil) (ios := []) List.nodup_nil (fun r ds r' e => by cases e; rfl) σ H Q h
    cases iv
    exact q [] H F' Af Ext.refl R .nil⟩
end
end NT

set_option Elab.async false
set_option linter.all false
set_option maxRecDepth 100000
set_option maxHeartbeats 1000000
namespace NT
open PySem PySem.Spec PyProof.Rows L2

section
variable {X : Cx}
theorem OpR.or {f : Value → Value → Sem Value} {r r' : R2} (h : OpR X f r) (h' : OpR X f r') : OpR X f (fun x y H Q => r x y H Q ∨ r' x y H Q) := fun pins s σ H x y v u Q I rx ry q =>
  q.elim (fun q => h pins s σ H x y v u Q I rx ry q) fun q => h' pins s σ H x y v u Q I rx ry q
theorem CallR.or {f : Value} {r r' : List V → Hp → VK → Prop} (h : CallR X f r) (h' : CallR X f r') : CallR X f (fun x H Q => r x H Q ∨ r' x H Q) := fun pins s σ H x u Q I rx q =>
  q.elim (fun q => h pins s σ H x u Q I rx q) fun q => h' pins s σ H x u Q I rx q
end

/-! ### + - * // % -/
def gAdd : D → D → Option Pl
  | .int i, .int j => some (.v (.int (i + j)))
  | .str i, .str j => if i.length + j.length ≤ sizeLine then some (.v (.str (i ++ j))) else none
  | .lst a, .lst b => if a.length + b.length ≤ sizeLine then some (.n (.lst (a ++ b))) else none
  | .tup a, .tup b => if a.length + b.length ≤ sizeLine then some (.v (.tup (a ++ b))) else none
  | _, _ => none
def rAdd (K : PySem.W.Frag) : R2 := fun x y H Q => rI0 (fun i j => .int (i + j)) x y H Q ∨ (fun x y H Q => ∃ i j, x = V.str i ∧ y = V.str j ∧ i.length + j.length ≤ sizeLine ∧ Q (.str (i ++ j)) H) x y H Q ∨ rCat x y H Q ∨ rCatA K x y H Q
theorem op_addA {X : Cx} : OpR X (binaryOp .Add) (rAdd X.K) := OpR.or op_add (OpR.or op_add_str (OpR.or op_cat op_catA))
theorem tup_nil {K : PySem.W.Frag} {F : Hp} {xs : List V} (h : RepL K F xs []) : xs = [] := by cases h; rfl
theorem sp_add {K : PySem.W.Frag} : BinSpec K (rAdd K) gAdd := fun H F x y d e z Q k h1 h2 hz q => by
  unfold gAdd at hz
  split at hz
  · cases hz
    rw [show x = .int _ from h1, show y = .int _ from h2]
    exact .inl ⟨_, _, rfl, rfl, q _ _ (out_v k (.int _))⟩
  · split at hz
    · rename_i hl
      cases hz
      rw [show x = .str _ from h1, show y = .str _ from h2]
      exact .inr (.inl ⟨_, _, rfl, rfl, hl, q _ _ (out_v k (.str _))⟩)
    · cases hz
  · split at hz
    · rename_i hl
      cases hz
      obtain ⟨a, xs, rfl, ha, ra⟩ := h1
      obtain ⟨b, ys, rfl, hb, rb⟩ := h2
      exact .inr (.inr (.inl ⟨a, b, xs, ys, rfl, rfl, ha, hb, by rw [ra.length, rb.length]; exact hl, fun p hp => q _ _ (out_lst k hp (ra.append rb))⟩))
    · cases hz
  · split at hz
    · rename_i hl
      cases hz
      obtain ⟨a, xs, rfl, ha, ra, fa⟩ := h1
      obtain ⟨b, ys, rfl, hb, rb, fb⟩ := h2
      refine .inr (.inr (.inr ⟨a, b, xs, ys, rfl, rfl, .inl (.inl ha), .inl (.inl hb), by rw [ra.length, rb.length]; exact hl, fun e => ?_, fun _ e => ?_, fun _ _ p hp => q _ _ (out_tup k hp (ra.append rb))⟩))
      · subst e
        cases ra
        exact q _ _ (out_v k (.tup fb rb))
      · subst e
        cases rb
        rw [List.append_nil] at q
        exact q _ _ (out_v k (.tup fa ra))
    · cases hz
  · cases hz
def gInt (f : Int → Int → Int) (c : Int → Int → Bool) : D → D → Option Pl
  | .int i, .int j => if c i j = true then some (.v (.int (f i j))) else none
  | _, _ => none
theorem sp_int {K : PySem.W.Frag} {f : Int → Int → Int} {c : Int → Int → Bool} {C : Int → Int → Prop} (hc : ∀ i j, c i j = true → C i j) : BinSpec K (rI C fun i j => .int (f i j)) (gInt f c) := fun H F x y d e z Q k h1 h2 hz q => by
  unfold gInt at hz
  split at hz
  · split at hz
    · rename_i hl
      cases hz
      exact ⟨_, _, h1, h2, hc _ _ hl, q _ _ (out_v k (.int _))⟩
    · cases hz
  · cases hz
def gInt0 (f : Int → Int → Int) : D → D → Option Pl
  | .int i, .int j => some (.v (.int (f i j)))
  | _, _ => none
theorem sp_int0 {K : PySem.W.Frag} {f : Int → Int → Int} : BinSpec K (rI0 fun i j => .int (f i j)) (gInt0 f) := fun H F x y d e z Q k h1 h2 hz q => by
  unfold gInt0 at hz
  split at hz
  · cases hz
    exact ⟨_, _, h1, h2, q _ _ (out_v k (.int _))⟩
  · cases hz
def gSub : D → D → Option Pl := gInt0 fun i j => i - j
def gFdiv : D → D → Option Pl := gInt (fun i j => i / j) fun i j => decide (0 < j ∧ j < 1073741824)
def gMod : D → D → Option Pl := gInt (fun i j => i % j) fun i j => decide (0 < j)
def gPow : D → D → Option Pl := gInt (fun i j => i ^ j.toNat) fun i j => decide (0 ≤ j ∧ j ≤ 1000 ∧ i.natAbs < 2 ^ 64)
theorem sp_sub {K : PySem.W.Frag} : BinSpec K (rI0 fun i j => .int (i - j)) gSub := sp_int0
theorem sp_fdiv {K : PySem.W.Frag} : BinSpec K (rI CDiv fun i j => .int (i / j)) gFdiv := sp_int fun i j h => (of_decide_eq_true h : 0 < j ∧ j < 1073741824)
theorem sp_mod {K : PySem.W.Frag} : BinSpec K (rI (fun _ j => 0 < j) fun i j => .int (i % j)) gMod := sp_int fun i j h => of_decide_eq_true h
theorem sp_pow {K : PySem.W.Frag} : BinSpec K (rI CPow fun i j => .int (i ^ j.toNat)) gPow := sp_int fun i j h => by
  obtain ⟨h1, h2, h3⟩ := of_decide_eq_true h
  exact ⟨h1, by omega, h3⟩
def gMul : D → D → Option Pl
  | .int i, .int j => if decide ((-(2 ^ 64) < i ∧ i < 2 ^ 64) ∨ (-(2 ^ 64) < j ∧ j < 2 ^ 64)) = true then some (.v (.int (i * j))) else none
  | .lst a, .int j => if decide (-(2 ^ 63) ≤ j ∧ j < 2 ^ 63 ∧ a.length * j.toNat ≤ sizeLine) = true then some (.n (.lst (List.replicate j.toNat a).flatten)) else none
  | _, _ => none
theorem RepL.rep {K : PySem.W.Frag} {F : Hp} {xs : List V} {l : List D} (r : RepL K F xs l) : ∀ n, RepL K F (List.replicate n xs).flatten (List.replicate n l).flatten
  | 0 => .nil
  | n + 1 => by
    rw [List.replicate_succ, List.replicate_succ, List.flatten_cons, List.flatten_cons]
    exact r.append (r.rep n)
theorem op_mulA {X : Cx} : OpR X (binaryOp .Mult) (fun x y H Q => rI CMul (fun i j => .int (i * j)) x y H Q ∨ rRep x y H Q) := OpR.or op_mul op_rep
theorem sp_mul {K : PySem.W.Frag} : BinSpec K (fun x y H Q => rI CMul (fun i j => .int (i * j)) x y H Q ∨ rRep x y H Q) gMul := fun H F x y d e z Q k h1 h2 hz q => by
  unfold gMul at hz
  split at hz
  · split at hz
    · rename_i hl
      cases hz
      have hl' := of_decide_eq_true hl
      exact .inl ⟨_, _, h1, h2, hl', q _ _ (out_v k (.int _))⟩
    · cases hz
  · split at hz
    · rename_i hl
      cases hz
      obtain ⟨a, xs, rfl, ha, ra⟩ := h1
      obtain ⟨l1, l2, l3⟩ := of_decide_eq_true hl
      exact .inr ⟨a, _, xs, rfl, h2, ha, l1, l2, by rw [ra.length]; exact l3, fun p hp => q _ _ (out_lst k hp (ra.rep _))⟩
    · cases hz
  · cases hz
def gNeg : D → Option Pl
  | .int i => some (.v (.int (-i)))
  | _ => none
theorem sp_neg {K : PySem.W.Frag} : UnSpec K (rU fun i => .int (-i)) gNeg := fun H F x d z Q k h1 hz q => by
  unfold gNeg at hz
  split at hz
  · cases hz
    exact ⟨_, h1, q _ _ (out_v k (.int _))⟩
  · cases hz

/-! ### whole data at the heap of now -/
mutual
def toP : D → Option PyData
  | .non => some .none
  | .bl b => some (.bool b)
  | .int i => some (.int i)
  | .str x => some (.str x)
  | .tup l => match toPs l with
    | some r => some (.tuple r)
    | none => none
  | .lst l => match toPs l with
    | some r => some (.list r)
    | none => none
  | .dK _ => none
  | .dT _ => none
  | .scr _ => none
def toPs : List D → Option (List PyData)
  | [] => some []
  | d :: ds => match toP d with
    | some r => match toPs ds with
      | some rs => some (r :: rs)
      | none => none
    | none => none
end
mutual
theorem Rep.dp {K : PySem.W.Frag} {H F : Hp} (k : Keep F H) : ∀ {v : V} {d : D} {p : PyData}, Rep K F v d → toP d = some p → Dp K H v p
  | _, _, p, .non, e => by simp only [toP, Option.some.injEq] at e; subst e; exact .non
  | _, _, p, .bl b, e => by simp only [toP, Option.some.injEq] at e; subst e; exact .bl b
  | _, _, p, .int i, e => by simp only [toP, Option.some.injEq] at e; subst e; exact .int i
  | _, _, p, .str x, e => by simp only [toP, Option.some.injEq] at e; subst e; exact .str x
  | _, _, p, .tup (ds := ds) h t, e => by
    unfold toP at e
    cases e2 : toPs ds with
    | none => rw [e2] at e; cases e
    | some r => rw [e2] at e; cases e; exact .tup (.inl (.inl (k.tup h))) (RepL.dp k t e2)
  | _, _, p, .lst (ds := ds) h t, e => by
    unfold toP at e
    cases e2 : toPs ds with
    | none => rw [e2] at e; cases e
    | some r => rw [e2] at e; cases e; exact .lst (.inl (.inl (k.lst h))) (RepL.dp k t e2)
  | _, _, p, .dK _ _ _, e => by simp only [toP] at e; cases e
  | _, _, p, .dT _ _ _, e => by simp only [toP] at e; cases e
  | _, _, p, .scr _, e => by simp only [toP] at e; cases e
theorem RepL.dp {K : PySem.W.Frag} {H F : Hp} (k : Keep F H) : ∀ {vs : List V} {ds : List D} {ps : List PyData}, RepL K F vs ds → toPs ds = some ps → DpAll K H vs ps
  | _, _, ps, .nil, e => by simp only [toPs, Option.some.injEq] at e; subst e; exact .nil
  | _, _, ps, .cons (d := d) (ds := ds) h t, e => by
    unfold toPs at e
    cases e1 : toP d with
    | none => rw [e1] at e; cases e
    | some r =>
      rw [e1] at e
      simp only at e
      cases e2 : toPs ds with
      | none => rw [e2] at e; cases e
      | some rs => rw [e2] at e; cases e; exact .cons (Rep.dp k h e1) (RepL.dp k t e2)
end
theorem RdF.dp {K : PySem.W.Frag} {H F : Hp} {v : V} {d : D} {p : PyData} (k : Keep F H) (h : RdF K H F v d) (e : toP d = some p) : Dp K H v p := by
  cases d with
  | non => rw [show v = .non from h]; simp only [toP, Option.some.injEq] at e; subst e; exact .non
  | bl b => rw [show v = .bl b from h]; simp only [toP, Option.some.injEq] at e; subst e; exact .bl b
  | int i => rw [show v = .int i from h]; simp only [toP, Option.some.injEq] at e; subst e; exact .int i
  | str x => rw [show v = .str x from h]; simp only [toP, Option.some.injEq] at e; subst e; exact .str x
  | tup l =>
    obtain ⟨a, xs, rfl, ha, ra, _⟩ := h
    unfold toP at e
    cases e2 : toPs l with
    | none => rw [e2] at e; cases e
    | some r => rw [e2] at e; cases e; exact .tup (.inl (.inl ha)) (ra.dp k e2)
  | lst l =>
    obtain ⟨a, xs, rfl, ha, ra⟩ := h
    unfold toP at e
    cases e2 : toPs l with
    | none => rw [e2] at e; cases e
    | some r => rw [e2] at e; cases e; exact .lst (.inl (.inl ha)) (ra.dp k e2)
  | dK l => simp only [toP] at e; cases e
  | dT l => simp only [toP] at e; cases e
  | scr l => simp only [toP] at e; cases e

/-! ### comparisons -/
def gEq : D → D → Option Bool := fun d e => match toP d, toP e with
  | some p, some q => if (SeqAt.shaped p && SeqAt.shaped q) = true then some (PyData.eqv p q) else none
  | _, _ => none
def gNe : D → D → Option Bool := fun d e => match gEq d e with
  | some b => some (!b)
  | none => none
theorem gEq_some {d e : D} {b : Bool} (h : gEq d e = some b) : ∃ p q, toP d = some p ∧ toP e = some q ∧ SeqAt.shaped p = true ∧ SeqAt.shaped q = true ∧ b = PyData.eqv p q := by
  unfold gEq at h
  cases e1 : toP d with
  | none => rw [e1] at h; cases h
  | some p =>
    cases e2 : toP e with
    | none => rw [e1, e2] at h; cases h
    | some q =>
      rw [e1, e2] at h
      simp only at h
      split at h
      · rename_i hs
        rw [Bool.and_eq_true] at hs
        cases h
        exact ⟨p, q, rfl, rfl, hs.1, hs.2, rfl⟩
      · cases h
theorem sp_eq {K : PySem.W.Frag} : CmpSpec K (rEqD K) gEq := fun H F x y d e b Q k h1 h2 hb q => by
  obtain ⟨p, r, e1, e2, s1, s2, rfl⟩ := gEq_some hb
  exact ⟨p, r, h1.dp k e1, h2.dp k e2, s1, s2, q⟩
theorem sp_ne {K : PySem.W.Frag} : CmpSpec K (rNeD K) gNe := fun H F x y d e b Q k h1 h2 hb q => by
  unfold gNe at hb
  cases e3 : gEq d e with
  | none => rw [e3] at hb; cases hb
  | some c =>
    rw [e3] at hb
    cases hb
    obtain ⟨p, r, e1, e2, s1, s2, rfl⟩ := gEq_some e3
    exact ⟨p, r, h1.dp k e1, h2.dp k e2, s1, s2, q⟩
def gCmpI (f : Int → Int → Bool) : D → D → Option Bool
  | .int i, .int j => some (f i j)
  | _, _ => none
theorem sp_cmpI {K : PySem.W.Frag} {f : Int → Int → Bool} : CmpSpec K (rI0 fun i j => .bl (f i j)) (gCmpI f) := fun H F x y d e b Q k h1 h2 hb q => by
  unfold gCmpI at hb
  split at hb
  · cases hb
    exact ⟨_, _, h1, h2, q⟩
  · cases hb
def gLe := gCmpI fun i j => decide (i ≤ j)
def gGt := gCmpI fun i j => decide (j < i)
def gGe := gCmpI fun i j => decide (j ≤ i)
theorem sp_le {K : PySem.W.Frag} : CmpSpec K (rI0 fun i j => .bl (decide (i ≤ j))) gLe := sp_cmpI
theorem sp_gt {K : PySem.W.Frag} : CmpSpec K (rI0 fun i j => .bl (decide (j < i))) gGt := sp_cmpI
theorem sp_ge {K : PySem.W.Frag} : CmpSpec K (rI0 fun i j => .bl (decide (j ≤ i))) gGe := sp_cmpI
/-- < of alike data -/
def rLtA (K : PySem.W.Frag) : R2 := fun x y H Q => ∃ d e, Dp K H x d ∧ Dp K H y e ∧ PySem.W.alike d e = true ∧ d ≠ .none ∧ SeqAt.shaped d = true ∧ Q (.bl (PySem.W.dataLt d e)) H
theorem op_ltA {X : Cx} (hu : X.A.units + 64 < cLine) : OpR X (compareOp .Lt) (rLtA X.K) := by
  intro pins s σ H x y v u Q I rx ry ⟨d, e, hd, he, al, nn, sh, q⟩
  obtain ⟨as, r1⟩ := Dp.reads I d x v hd rx
  obtain ⟨bs, r2⟩ := Dp.reads I e y u he ry
  have hdp : d.depth ≤ 64 := by
    unfold SeqAt.shaped at sh
    rw [Bool.and_eq_true] at sh
    exact of_decide_eq_true sh.2
  exact PySem.W.rcLt_alike d e X.A s v u as bs r1 r2 al nn (by omega) X.prog X.w X.xe _ ⟨.bl _, H, I, rfl, q⟩
def notNone : PyData → Bool
  | .none => false
  | _ => true
def gLt : D → D → Option Bool := fun d e => match toP d, toP e with
  | some p, some q => if (PySem.W.alike p q && notNone p && SeqAt.shaped p) = true then some (PySem.W.dataLt p q) else none
  | _, _ => none
theorem sp_lt {K : PySem.W.Frag} : CmpSpec K (rLtA K) gLt := fun H F x y d e b Q k h1 h2 hb q => by
  unfold gLt at hb
  cases e1 : toP d with
  | none => rw [e1] at hb; cases hb
  | some p =>
    cases e2 : toP e with
    | none => rw [e1, e2] at hb; cases hb
    | some r =>
      rw [e1, e2] at hb
      simp only at hb
      split at hb
      · rename_i hs
        rw [Bool.and_eq_true, Bool.and_eq_true] at hs
        cases hb
        exact ⟨p, r, h1.dp k e1, h2.dp k e2, hs.1.1, fun z => (by rw [z] at hs; exact absurd hs.1.2 (by decide)), hs.2, q⟩
      · cases hb

/-! ### keys -/
def keyK : D → Option Key
  | .int i => some (.inl i)
  | .str x => some (.inr x)
  | _ => none
def keyTs : List D → Option (List Key)
  | [] => some []
  | d :: ds => match keyK d with
    | some k => match keyTs ds with
      | some ks => some (k :: ks)
      | none => none
    | none => none
def keyT : D → Option (List Key)
  | .tup l => keyTs l
  | _ => none
theorem keyK_v {K : PySem.W.Frag} {H F : Hp} {v : V} {d : D} {k : Key} (h : RdF K H F v d) (e : keyK d = some k) : v = kV k := by
  unfold keyK at e
  split at e
  · cases e; exact h
  · cases e; exact h
  · cases e
theorem keyK_r {K : PySem.W.Frag} {F : Hp} {v : V} {d : D} {k : Key} (h : Rep K F v d) (e : keyK d = some k) : v = kV k := by
  unfold keyK at e
  split at e
  · cases e; cases h; rfl
  · cases e; cases h; rfl
  · cases e
theorem keyTs_v {K : PySem.W.Frag} {F : Hp} : ∀ {vs : List V} {ds : List D} {ks : List Key}, RepL K F vs ds → keyTs ds = some ks → vs = ks.map kV
  | _, _, ks, .nil, e => by simp only [keyTs, Option.some.injEq] at e; subst e; rfl
  | _, _, ks, .cons (d := d) (ds := ds) h t, e => by
    unfold keyTs at e
    cases e1 : keyK d with
    | none => rw [e1] at e; cases e
    | some k =>
      rw [e1] at e
      simp only at e
      cases e2 : keyTs ds with
      | none => rw [e2] at e; cases e
      | some ks' =>
        rw [e2] at e
        cases e
        rw [keyK_r h e1, keyTs_v t e2]
        rfl
/-- what a dict has at a key -/
def valD {κ : Type} [DecidableEq κ] (l : List (κ × D)) (k : κ) : Option D := (l.find? fun kv => decide (kv.1 = k)).map (·.2)
theorem valD_v {K : PySem.W.Frag} {F : Hp} {κ : Type} [DecidableEq κ] : ∀ {kvs : List (κ × V)} {l : List (κ × D)} (k : κ), kvs.map (·.1) = l.map (·.1) → RepL K F (kvs.map (·.2)) (l.map (·.2)) →
    (valV kvs k = none ∧ valD l k = none) ∨ ∃ v d, valV kvs k = some v ∧ valD l k = some d ∧ Rep K F v d
  | [], [], k, _, _ => .inl ⟨rfl, rfl⟩
  | [], _ :: _, _, e, _ => by cases e
  | _ :: _, [], _, e, _ => by cases e
  | (k1, v) :: kvs, (k2, d) :: l, k, e, r => by
    simp only [List.map_cons, List.cons.injEq] at e
    obtain ⟨e1, e2⟩ := e
    subst e1
    simp only [List.map_cons] at r
    cases r with
    | cons r1 r2 =>
      by_cases hk : k1 = k
      · exact .inr ⟨v, d, by simp [valV, hk], by simp [valD, hk], r1⟩
      · have ih := valD_v k e2 r2
        have z1 : valV ((k1, v) :: kvs) k = valV kvs k := by simp [valV, hk]
        have z2 : valD ((k1, d) :: l) k = valD l k := by simp [valD, hk]
        rw [z1, z2]; exact ih
def gDGet : D → D → Option (Option D)
  | .dK l, k => match keyK k with
    | some k => some (valD l k)
    | none => none
  | .dT l, k => match keyT k with
    | some k => some (valD l k)
    | none => none
  | _, _ => none
theorem dget_v {K : PySem.W.Frag} {H F : Hp} {x y : V} {d e : D} {o : Option D} (h1 : RdF K H F x d) (h2 : RdF K H F y e) (hz : gDGet d e = some o) :
    ∃ a ov, x = .ref a ∧ DGet H a y ov ∧ ((ov = none ∧ o = none) ∨ ∃ v r, ov = some v ∧ o = some r ∧ Rep K F v r) := by
  unfold gDGet at hz
  split at hz
  · obtain ⟨a, kvs, rfl, ha, e1, e2⟩ := h1
    split at hz
    · rename_i k hk
      cases hz
      rcases valD_v k e1 e2 with ⟨z1, z2⟩ | ⟨v, r, z1, z2, z3⟩
      · exact ⟨a, none, rfl, .inl ⟨kvs, k, ha, keyK_v h2 hk, z1.symm⟩, .inl ⟨rfl, z2⟩⟩
      · exact ⟨a, some v, rfl, .inl ⟨kvs, k, ha, keyK_v h2 hk, z1.symm⟩, .inr ⟨v, r, rfl, z2, z3⟩⟩
    · cases hz
  · obtain ⟨a, kvs, rfl, ha, e1, e2⟩ := h1
    split at hz
    · rename_i k hk
      cases hz
      unfold keyT at hk
      split at hk
      · obtain ⟨b, ys, rfl, hb, rb, fb⟩ := h2
        rw [keyTs_v rb hk] at hb
        rcases valD_v k e1 e2 with ⟨z1, z2⟩ | ⟨v, r, z1, z2, z3⟩
        · exact ⟨a, none, rfl, .inr ⟨kvs, k, b, ha, rfl, hb, z1.symm⟩, .inl ⟨rfl, z2⟩⟩
        · exact ⟨a, some v, rfl, .inr ⟨kvs, k, b, ha, rfl, hb, z1.symm⟩, .inr ⟨v, r, rfl, z2, z3⟩⟩
      · cases hk
    · cases hz
  · cases hz

/-! ### in -/
def rInA (K : PySem.W.Frag) (neg : Bool) : R2 := fun x y H Q =>
  (∃ c z, x = V.str ⟨#[c]⟩ ∧ y = V.str z ∧ Q (.bl (xor neg (decide (c ∈ z.cps.toList)))) H) ∨ (∃ a o, y = .ref a ∧ DGet H a x o ∧ Q (.bl (xor neg o.isSome)) H) ∨
  ∃ d ds, Dp K H x d ∧ (Dp K H y (.list ds) ∨ Dp K H y (.tuple ds)) ∧ SeqAt.shaped d = true ∧ SeqAt.shaped (.list ds) = true ∧ Q (.bl (xor neg (ds.any fun z => PyData.eqv z d))) H
theorem op_inA {X : Cx} (hu : X.A.units + 66 < cLine) : OpR X (compareOp .In) (rInA X.K false) := by
  intro pins s σ H x y v u Q I rx ry h
  simp only [rInA, Bool.false_xor] at h
  rcases h with ⟨c, z, h1, h2, q⟩ | ⟨a, o, rfl, g, q⟩ | ⟨d, ds, hd, he, sd, se, q⟩
  · exact op_in_sign pins s σ H x y v u Q I rx ry ⟨c, z, h1, h2, q⟩
  · obtain rfl : u = Value.ref a := ry
    exact d_in (by omega) I g rx fun s3 I3 => ⟨.bl o.isSome, H, I3, rfl, q⟩
  · obtain ⟨as, r1⟩ := Dp.reads I d x v hd rx
    rcases he with he | he
    · obtain ⟨bs, r2⟩ := Dp.reads I (.list ds) y u he ry
      exact SeqAt.in_list_reads r2 r1 (SeqAt.canLay_of_shaped se) (SeqAt.canLay_of_shaped sd) (room_in_shaped sd (by omega)) ⟨.bl _, H, I, rfl, q⟩
    · obtain ⟨bs, r2⟩ := Dp.reads I (.tuple ds) y u he ry
      exact SeqAt.in_tuple_reads r2 r1 (SeqAt.canLay_of_shaped se) (SeqAt.canLay_of_shaped sd) (room_in_shaped sd (by omega)) ⟨.bl _, H, I, rfl, q⟩
theorem op_notInA {X : Cx} (hu : X.A.units + 66 < cLine) : OpR X (compareOp .NotIn) (rInA X.K true) := by
  intro pins s σ H x y v u Q I rx ry h
  simp only [rInA, Bool.true_xor] at h
  rcases h with ⟨c, z, h1, h2, q⟩ | ⟨a, o, rfl, g, q⟩ | ⟨d, ds, hd, he, sd, se, q⟩
  · refine op_notIn_sign pins s σ H x y v u Q I rx ry ⟨c, z, h1, h2, ?_⟩
    exact q
  · obtain rfl : u = Value.ref a := ry
    exact d_notIn (by omega) I g rx fun s3 I3 => ⟨.bl (!o.isSome), H, I3, rfl, q⟩
  · obtain ⟨as, r1⟩ := Dp.reads I d x v hd rx
    rcases he with he | he
    · obtain ⟨bs, r2⟩ := Dp.reads I (.list ds) y u he ry
      exact SeqAt.notIn_list_reads r2 r1 (SeqAt.canLay_of_shaped se) (SeqAt.canLay_of_shaped sd) (room_in_shaped sd (by omega)) ⟨.bl _, H, I, rfl, q⟩
    · obtain ⟨bs, r2⟩ := Dp.reads I (.tuple ds) y u he ry
      exact SeqAt.notIn_tuple_reads r2 r1 (SeqAt.canLay_of_shaped se) (SeqAt.canLay_of_shaped sd) (room_in_shaped sd (by omega)) ⟨.bl _, H, I, rfl, q⟩
def gInL (d : D) (l : List D) : Option Bool := match toP d, toPs l with
  | some p, some ps => if (SeqAt.shaped p && SeqAt.shaped (.list ps)) = true then some (ps.any fun z => PyData.eqv z p) else none
  | _, _ => none
def gIn : D → D → Option Bool := fun d e => match e with
  | .str z => match d with
    | .str ⟨⟨[c]⟩⟩ => some (decide (c ∈ z.cps.toList))
    | _ => none
  | .lst l => gInL d l
  | .tup l => gInL d l
  | e => match gDGet e d with
    | some o => some o.isSome
    | none => none
def gNotIn : D → D → Option Bool := fun d e => match gIn d e with
  | some b => some (!b)
  | none => none
theorem sp_in0 {K : PySem.W.Frag} (neg : Bool) : CmpSpec K (rInA K neg) (fun d e => match gIn d e with
  | some b => some (xor neg b)
  | none => none) := fun H F x y d e b Q k h1 h2 hb q => by
  have inL : ∀ {l : List D} {c : Bool}, gInL d l = some c → b = xor neg c → (∀ ps, toPs l = some ps → Dp K H y (.list ps) ∨ Dp K H y (.tuple ps)) → rInA K neg x y H Q := fun {l c} hc hbc hy => by
    unfold gInL at hc
    cases e1 : toP d with
    | none => rw [e1] at hc; cases hc
    | some p =>
      cases e2 : toPs l with
      | none => rw [e1, e2] at hc; cases hc
      | some ps =>
        rw [e1, e2] at hc
        simp only at hc
        split at hc
        · rename_i hs
          rw [Bool.and_eq_true] at hs
          cases hc
          subst hbc
          exact .inr (.inr ⟨p, ps, h1.dp k e1, hy ps e2, hs.1, hs.2, q⟩)
        · cases hc
  have inD : ∀ {o : Option D}, gDGet e d = some o → b = xor neg o.isSome → rInA K neg x y H Q := fun {o} ho hbo => by
    obtain ⟨a, ov, rfl, g, z⟩ := dget_v h2 h1 ho
    refine .inr (.inl ⟨a, ov, rfl, g, ?_⟩)
    subst hbo
    rcases z with ⟨rfl, rfl⟩ | ⟨v, r, rfl, rfl, _⟩ <;> exact q
  simp only at hb
  cases hg : gIn d e with
  | none => rw [hg] at hb; cases hb
  | some c =>
    rw [hg] at hb
    simp only [Option.some.injEq] at hb
    unfold gIn at hg
    split at hg
    · split at hg
      · cases hg
        subst hb
        exact .inl ⟨_, _, h1, h2, q⟩
      · cases hg
    · exact inL hg hb.symm fun ps e2 => .inl (h2.dp k (by unfold toP; rw [e2]))
    · exact inL hg hb.symm fun ps e2 => .inr (h2.dp k (by unfold toP; rw [e2]))
    · split at hg
      · rename_i o ho
        cases hg
        exact inD ho hb.symm
      · cases hg
theorem sp_in {K : PySem.W.Frag} : CmpSpec K (rInA K false) gIn := fun H F x y d e b Q k h1 h2 hb q => sp_in0 false H F x y d e b Q k h1 h2 (by simp only [hb, Bool.false_xor]) q
theorem sp_notIn {K : PySem.W.Frag} : CmpSpec K (rInA K true) gNotIn := fun H F x y d e b Q k h1 h2 hb q => by
  unfold gNotIn at hb
  refine sp_in0 true H F x y d e b Q k h1 h2 ?_ q
  cases e1 : gIn d e with
  | none => rw [e1] at hb; cases hb
  | some c => rw [e1] at hb; simpa only [e1, Bool.true_xor] using hb
/-- is, is not of None and of truths -/
def gIs : D → D → Option Bool
  | .bl a, .bl b => some (decide (a = b))
  | _, _ => none
end NT

set_option Elab.async false
set_option linter.all false
set_option maxRecDepth 100000
set_option maxHeartbeats 1000000
namespace NT
open PySem PySem.Spec PyProof.Rows L2

/-! ### items by place or key -/
theorem ix_dict {X : Cx} (hu : X.A.units + 1 < cLine) : IxR X (fun x y H Q => ∃ a v, x = .ref a ∧ DGet H a y (some v) ∧ Q v H) := by
  intro value slice pins s σ H x y v u Q I rx ry ⟨a, w, e, g, q⟩ hs
  subst e
  cases rx
  exact PyProof.Rows.tail_any (ops := [.ref a, u]) (dict_typeIs I g) PySem.F.slot_dict_getitem.lookup (d_getItem hu I g ry fun w' s3 I3 rw' => ⟨w, H, I3, rw', q⟩) hs
def rIxA (K : PySem.W.Frag) : R2 := fun x y H Q => rIx K x y H Q ∨ ∃ a v, x = .ref a ∧ DGet H a y (some v) ∧ Q v H
theorem ix_all {X : Cx} (hu : X.A.units + 1 < cLine) : IxR X (rIxA X.K) := IxR.or ix_seq (ix_dict hu)
theorem RepL.atI {K : PySem.W.Frag} {F : Hp} {vs : List V} {ds : List D} {i : Int} {d : D} (r : RepL K F vs ds) (h : L2.atI ds i = some d) : ∃ v, L2.atI vs i = some v ∧ Rep K F v d := by
  unfold L2.atI at h ⊢
  rw [r.length]
  cases e : ixN ds.length i with
  | none => rw [e] at h; cases h
  | some j =>
    rw [e] at h
    exact r.get h
theorem atI_map {l : List Int} {i j : Int} (hr : L2.atI l i = some j) : L2.atI (l.map V.int) i = some (.int j) := by
  unfold L2.atI at hr ⊢
  rw [List.length_map]
  cases e : ixN l.length i with
  | none => rw [e] at hr; cases hr
  | some n =>
    rw [e] at hr
    simp only [Option.bind_some] at hr ⊢
    rw [List.getElem?_map, hr]; rfl
def gIx : D → D → Option Pl
  | .lst l, .int i => match L2.atI l i with
    | some d => some (.v d)
    | none => none
  | .tup l, .int i => match L2.atI l i with
    | some d => some (.v d)
    | none => none
  | .scr l, .int i => match L2.atI l i with
    | some j => some (.v (.int j))
    | none => none
  | .str z, .int i => if z.length ≤ sizeLine then (match L2.atI z.cps.toList i with
    | some c => some (.v (.str ⟨#[c]⟩))
    | none => none) else none
  | d, e => match gDGet d e with
    | some (some r) => some (.v r)
    | _ => none
theorem sp_ix {K : PySem.W.Frag} : BinSpec K (rIxA K) gIx := fun H F x y d e z Q k h1 h2 hz q => by
  have dict : ∀ {d e : D}, RdF K H F x d → RdF K H F y e → (match gDGet d e with
    | some (some r) => some (Pl.v r)
    | _ => none) = some z → rIxA K x y H Q := fun {d e} h1 h2 hz => by
    split at hz
    · rename_i r hr
      cases hz
      obtain ⟨a, ov, rfl, g, w⟩ := dget_v h1 h2 hr
      rcases w with ⟨_, w⟩ | ⟨v, r', rfl, w, rv⟩
      · cases w
      · cases w
        exact .inr ⟨a, v, rfl, g, q _ _ (out_v k rv)⟩
    · cases hz
  unfold gIx at hz
  split at hz
  · obtain ⟨a, xs, rfl, ha, ra⟩ := h1
    split at hz
    · rename_i r hr
      cases hz
      obtain ⟨v, e1, e2⟩ := ra.atI hr
      exact .inl (.inl ⟨a, xs, _, v, rfl, h2, .inl (.inl ha), e1, q _ _ (out_v k e2)⟩)
    · cases hz
  · obtain ⟨a, xs, rfl, ha, ra, _⟩ := h1
    split at hz
    · rename_i r hr
      cases hz
      obtain ⟨v, e1, e2⟩ := ra.atI hr
      exact .inl (.inr (.inl ⟨a, xs, _, v, rfl, h2, .inl (.inl ha), e1, q _ _ (out_v k e2)⟩))
    · cases hz
  · obtain ⟨a, rfl, ha⟩ := h1
    split at hz
    · rename_i j hr
      cases hz
      exact .inl (.inl ⟨a, _, _, .int j, rfl, h2, ha, atI_map hr, q _ _ (out_v k (.int j))⟩)
    · cases hz
  · split at hz
    · rename_i hl
      split at hz
      · rename_i c hc
        cases hz
        exact .inl (.inr (.inr ⟨_, _, c, h1, h2, hl, hc, q _ _ (out_v k (.str _))⟩))
      · cases hz
    · cases hz
  · exact dict h1 h2 hz

/-! ### slices -/
def PostO (K : PySem.W.Frag) (mg : Str → Option Value) (P : List V) (E : XK) (σ : L2.St) (H F : Hp) (Af : Nat → Fp) (r : R (Option Int)) (Q : Option Int → Hp → Prop) : Prop := match r with
  | .ok o r' => ∀ H' F' Af', Ext H F (U Af) H' F' (U Af') → Rel K P r' σ H' F' Af' → Q o H'
  | .ex x r' => PostX K mg P E H F Af x r' (fun _ => True)
  | .st => False
def tO (K : PySem.W.Frag) (mg : Str → Option Value) (P : List V) (E : XK) (f : M (Option Int)) : L2.St → Hp → (Option Int → Hp → Prop) → Prop := fun σ H Q => ∃ r F Af, Rel K P r σ H F Af ∧ PostO K mg P E σ H F Af (f r) Q
structure DO (X : Cx) (P : List V) (E : XK) (e : Option Expr) (f : M (Option Int)) : Prop where
  po : PO X e (tO X.K X.mg P E f)
def oNone : M (Option Int) := M.pure none
def oSome (f : M Pl) : M (Option Int) := fun r => match opd f r with
  | .ok p r1 => match deref r1 p with
    | some (.int i) => .ok (some i) r1
    | _ => .st
  | .ex x r1 => .ex x r1
  | .st => .st
theorem PO.wk {X : Cx} {e : Option Expr} {t t' : L2.St → Hp → (Option Int → Hp → Prop) → Prop} (h : PO X e t) (k : ∀ σ H Q, t' σ H Q → t σ H Q) : PO X e t' := ⟨fun pins s σ H Q I q => h.run pins s σ H Q I (k σ H Q q)⟩
def sixD (n dflt : Nat) (o : Option Int) : Nat := HT.sIx n dflt o
def cutD (l : List D) (lo hi : Option Int) : List D := List.take (HT.sIx l.length l.length hi - HT.sIx l.length 0 lo) (List.drop (HT.sIx l.length 0 lo) l)
theorem RepL.cut {K : PySem.W.Frag} {F : Hp} {vs : List V} {ds : List D} (r : RepL K F vs ds) (lo hi : Option Int) : RepL K F (cutV vs lo hi) (cutD ds lo hi) := by
  unfold cutV cutD
  rw [r.length]
  exact (r.drop _).take _
def gSl : D → Option Int → Option Int → Option Pl
  | .lst l, lo, hi => some (.n (.lst (cutD l lo hi)))
  | .tup l, lo, hi => some (.v (.tup (cutD l lo hi)))
  | .str z, lo, hi => if z.length ≤ sizeLine then some (.v (.str (cutS z lo hi))) else none
  | _, _, _ => none
def rSlAll (K : PySem.W.Frag) : V → Option Int → Option Int → Hp → VK → Prop := fun x lo hi H Q => rSlL K x lo hi H Q ∨ rSlA K x lo hi H Q ∨ rSlS x lo hi H Q
theorem sl_all {X : Cx} : SlR X (rSlAll X.K) := SlR.or sl_list (SlR.or sl_tupA sl_str)
theorem sp_sl {K : PySem.W.Frag} {H F : Hp} {x : V} {d : D} {lo hi : Option Int} {z : Pl} {Q : VK} (k : Keep F H) (h1 : RdF K H F x d) (hz : gSl d lo hi = some z) (q : ∀ v H', Out K H F z v H' → Q v H') : rSlAll K x lo hi H Q := by
  unfold gSl at hz
  split at hz
  · cases hz
    obtain ⟨a, xs, rfl, ha, ra⟩ := h1
    exact .inl ⟨a, xs, rfl, .inl (.inl ha), fun p hp => q _ _ (out_lst k hp (ra.cut lo hi))⟩
  · cases hz
    obtain ⟨a, xs, rfl, ha, ra, fa⟩ := h1
    refine .inr (.inl ⟨a, xs, rfl, .inl (.inl ha), fun hw => ?_, fun _ p hp => q _ _ (out_tup k hp (ra.cut lo hi))⟩)
    have whole : ∀ {n : Nat} {zs : List D}, zs.length = n → HT.sIx n 0 lo = 0 ∧ HT.sIx n n hi = n → cutD zs lo hi = zs := fun {n zs} hn hw => by
      unfold cutD
      rw [hn, hw.1, hw.2, Nat.sub_zero, List.drop_zero, ← hn, List.take_length]
    rw [whole ra.length.symm hw] at q
    exact q _ _ (out_v k (.tup fa ra))
  · split at hz
    · rename_i hl
      cases hz
      exact .inr (.inr ⟨_, h1, hl, q _ _ (out_v k (.str _))⟩)
    · cases hz
  · cases hz
def mSl (fa : M Pl) (fl fh : M (Option Int)) : M Pl := fun r => match opd fa r with
  | .ok p r1 => match fl r1 with
    | .ok lo r2 => match fh r2 with
      | .ok hi r3 => match deref r3 p with
        | some d => match gSl d lo hi with
          | some z => .ok z r3
          | none => .st
        | none => .st
      | .ex x r3 => .ex x r3
      | .st => .st
    | .ex x r2 => .ex x r2
    | .st => .st
  | .ex x r1 => .ex x r1
  | .st => .st
section
variable {X : Cx} {P : List V} {E : XK} {a e : Expr} {fa f : M Pl} {lo hi : Option Expr} {fl fh : M (Option Int)} {pos p2 : Pos}
theorem do_none : DO X P E none oNone := ⟨PO.wk po_none fun σ H Q ⟨r, F, Af, R, q⟩ => q H F Af Ext.refl R⟩
theorem do_some (h : DE X P E e f) : DO X P E (some e) (oSome f) := ⟨PO.wk (po_some h.opd.pe) fun σ H Q ⟨r, F, Af, R, q⟩ => ⟨r, F, Af, R, by
  unfold oSome at q
  cases e1 : opd f r with
  | ex x r' => rw [e1] at q; exact q
  | st => rw [e1] at q; exact q
  | ok p r1 =>
    rw [e1] at q
    simp only at q
    intro v1 H1 F1 Af1 T1 ex1 R1 rp1
    cases e3 : deref r1 p with
    | none => rw [e3] at q; exact q.elim
    | some d =>
      rw [e3] at q
      cases d with
      | int i => exact ⟨i, PlRep.rd R1 rp1 e3, q H1 F1 Af1 ex1.noT R1⟩
      | _ => exact q.elim⟩⟩
theorem de_sl (ha : DE X P E a fa) (hl : DO X P E lo fl) (hh : DO X P E hi fh) : DE X P E (.Subscript a (.Slice lo hi none p2) pos) (mSl fa fl fh) := ⟨PE.wk (pe_slice sl_all ha.opd.pe hl.po hh.po) fun σ H Q ⟨r, F, Af, R, q⟩ => ⟨r, F, Af, R, by
  unfold mSl at q
  cases e1 : opd fa r with
  | ex x r' => rw [e1] at q; exact q
  | st => rw [e1] at q; exact q
  | ok p r1 =>
    rw [e1] at q
    simp only at q
    intro v1 H1 F1 Af1 T1 ex1 R1 rp1
    refine ⟨r1, F1, Af1, R1, ?_⟩
    cases e2 : fl r1 with
    | ex x r' => rw [e2] at q; exact PostX.from q ex1.noT
    | st => rw [e2] at q; exact q
    | ok l r2 =>
      rw [e2] at q
      simp only at q
      intro H2 F2 Af2 ex2 R2
      refine ⟨r2, F2, Af2, R2, ?_⟩
      have ex12 := ex1.noT.trans ex2
      cases e3 : fh r2 with
      | ex x r' => rw [e3] at q; exact PostX.from q ex12
      | st => rw [e3] at q; exact q
      | ok u r3 =>
        rw [e3] at q
        simp only at q
        intro H3 F3 Af3 ex3 R3
        have ex13 := ex12.trans ex3
        cases e4 : deref r3 p with
        | none => rw [e4] at q; exact q.elim
        | some d =>
          rw [e4] at q
          simp only at q
          cases e5 : gSl d l u with
          | none => rw [e5] at q; exact q.elim
          | some z =>
            rw [e5] at q
            simp only at q
            refine sp_sl R3.keep ((PlL.one rp1 (opd_nn e1) (ex2.ff.trans ex3.ff)).rd1 R3 e4) e5 fun v H' o => ?_
            obtain ⟨F', T, ex4, R4, rp4⟩ := out_post R3 ex13 o
            exact q v H' F' Af3 T ex4 R4 rp4⟩⟩
end

/-! ### built-in functions -/
theorem RdL.one {K : PySem.W.Frag} {H F : Hp} {vs : List V} {d : D} (h : RdL K H F vs [d]) : ∃ v, vs = [v] ∧ RdF K H F v d := by
  cases h with
  | cons h t => cases t; exact ⟨_, rfl, h⟩
theorem RdL.two {K : PySem.W.Frag} {H F : Hp} {vs : List V} {d e : D} (h : RdL K H F vs [d, e]) : ∃ v w, vs = [v, w] ∧ RdF K H F v d ∧ RdF K H F w e := by
  cases h with
  | cons h t =>
    obtain ⟨w, rfl, h2⟩ := RdL.one t
    exact ⟨_, w, rfl, h, h2⟩
def gLen : List D → Option Pl
  | [.lst l] => some (.v (.int l.length))
  | [.tup l] => some (.v (.int l.length))
  | [.scr l] => some (.v (.int l.length))
  | [.str z] => if z.length ≤ sizeLine then some (.v (.int z.length)) else none
  | _ => none
theorem sp_len {X : Cx} : CallSpec X.K (fun xs H Q => ∃ x n, xs = [x] ∧ LenV X.K x H n ∧ Q (.int n) H) gLen := fun H F xs ds z Q k h hz q => by
  unfold gLen at hz
  split at hz
  · cases hz
    obtain ⟨v, rfl, a, ys, rfl, ha, ra⟩ := h.one
    exact ⟨_, _, rfl, .inl ⟨ys, .inl (.inl ha), rfl⟩, by rw [ra.length]; exact q _ _ (out_v k (.int _))⟩
  · cases hz
    obtain ⟨v, rfl, a, ys, rfl, ha, ra, _⟩ := h.one
    exact ⟨_, _, rfl, .inr ⟨ys, .inl (.inl ha), rfl⟩, by rw [ra.length]; exact q _ _ (out_v k (.int _))⟩
  · cases hz
    obtain ⟨v, rfl, a, rfl, ha⟩ := h.one
    exact ⟨_, _, rfl, .inl ⟨_, ha, rfl⟩, by rw [List.length_map]; exact q _ _ (out_v k (.int _))⟩
  · split at hz
    · rename_i hl
      cases hz
      obtain ⟨v, rfl, h1⟩ := h.one
      rw [show v = .str _ from h1]
      exact ⟨_, _, rfl, ⟨hl, rfl⟩, q _ _ (out_v k (.int _))⟩
    · cases hz
  · cases hz
def gAbs : List D → Option Pl
  | [.int i] => some (.v (.int (if i < 0 then -i else i)))
  | _ => none
theorem sp_abs {K : PySem.W.Frag} : CallSpec K (fun xs H Q => ∃ i, xs = [.int i] ∧ Q (.int (if i < 0 then -i else i)) H) gAbs := fun H F xs ds z Q k h hz q => by
  unfold gAbs at hz
  split at hz
  · cases hz
    obtain ⟨v, rfl, h1⟩ := h.one
    rw [show v = .int _ from h1]
    exact ⟨_, rfl, q _ _ (out_v k (.int _))⟩
  · cases hz
def gMin2 : List D → Option Pl
  | [.int i, .int j] => some (.v (.int (if j < i then j else i)))
  | _ => none
def gMax2 : List D → Option Pl
  | [.int i, .int j] => some (.v (.int (if j > i then j else i)))
  | _ => none
theorem sp_min2 {K : PySem.W.Frag} : CallSpec K (fun xs H Q => ∃ i j, xs = [.int i, .int j] ∧ Q (.int (if j < i then j else i)) H) gMin2 := fun H F xs ds z Q k h hz q => by
  unfold gMin2 at hz
  split at hz
  · cases hz
    obtain ⟨v, w, rfl, h1, h2⟩ := h.two
    rw [show v = .int _ from h1, show w = .int _ from h2]
    exact ⟨_, _, rfl, q _ _ (out_v k (.int _))⟩
  · cases hz
theorem sp_max2 {K : PySem.W.Frag} : CallSpec K (fun xs H Q => ∃ i j, xs = [.int i, .int j] ∧ Q (.int (if j > i then j else i)) H) gMax2 := fun H F xs ds z Q k h hz q => by
  unfold gMax2 at hz
  split at hz
  · cases hz
    obtain ⟨v, w, rfl, h1, h2⟩ := h.two
    rw [show v = .int _ from h1, show w = .int _ from h2]
    exact ⟨_, _, rfl, q _ _ (out_v k (.int _))⟩
  · cases hz
def bools : List D → Option (List Bool)
  | [] => some []
  | .bl b :: ds => match bools ds with
    | some bs => some (b :: bs)
    | none => none
  | _ :: _ => none
theorem bools_v {K : PySem.W.Frag} {F : Hp} : ∀ {vs : List V} {ds : List D} {bs : List Bool}, RepL K F vs ds → bools ds = some bs → vs = bs.map V.bl
  | _, _, bs, .nil, e => by simp only [bools, Option.some.injEq] at e; subst e; rfl
  | _, _, bs, .cons (d := d) (ds := ds) h t, e => by
    cases d with
    | bl b =>
      simp only [bools] at e
      cases e2 : bools ds with
      | none => rw [e2] at e; cases e
      | some bs' =>
        rw [e2] at e
        cases e
        cases h
        rw [bools_v t e2]; rfl
    | _ => simp only [bools] at e; cases e
def gAll : List D → Option Pl
  | [.lst l] => match bools l with
    | some bs => some (.v (.bl (bs.all id)))
    | none => none
  | _ => none
def gAny : List D → Option Pl
  | [.lst l] => match bools l with
    | some bs => some (.v (.bl (bs.any id)))
    | none => none
  | _ => none
theorem sp_all {K : PySem.W.Frag} : CallSpec K (rAll K) gAll := fun H F xs ds z Q k h hz q => by
  unfold gAll at hz
  split at hz
  · split at hz
    · rename_i bs hb
      cases hz
      obtain ⟨v, rfl, a, ys, rfl, ha, ra⟩ := h.one
      exact ⟨a, bs, rfl, by rw [← bools_v ra hb]; exact .inl (.inl ha), q _ _ (out_v k (.bl _))⟩
    · cases hz
  · cases hz
theorem sp_any {K : PySem.W.Frag} : CallSpec K (rAny K) gAny := fun H F xs ds z Q k h hz q => by
  unfold gAny at hz
  split at hz
  · split at hz
    · rename_i bs hb
      cases hz
      obtain ⟨v, rfl, a, ys, rfl, ha, ra⟩ := h.one
      exact ⟨a, bs, rfl, by rw [← bools_v ra hb]; exact .inl (.inl ha), q _ _ (out_v k (.bl _))⟩
    · cases hz
  · cases hz
def gList : List D → Option Pl
  | [.lst l] => some (.n (.lst l))
  | [.tup l] => some (.n (.lst l))
  | _ => none
theorem sp_list {X : Cx} : CallSpec X.K (fun xs H Q => ∃ p ys, xs = [.ref p] ∧ (SqL X.K H p ys ∨ SqT X.K H p ys) ∧ ∀ l, H l = none → Q (.ref l) (upd H l (.lst ys))) gList := fun H F xs ds z Q k h hz q => by
  unfold gList at hz
  split at hz
  · cases hz
    obtain ⟨v, rfl, a, ys, rfl, ha, ra⟩ := h.one
    exact ⟨a, ys, rfl, .inl (.inl (.inl ha)), fun l hl => q _ _ (out_lst k hl ra)⟩
  · cases hz
    obtain ⟨v, rfl, a, ys, rfl, ha, ra, _⟩ := h.one
    exact ⟨a, ys, rfl, .inr (.inl (.inl ha)), fun l hl => q _ _ (out_lst k hl ra)⟩
  · cases hz
def gTuple : List D → Option Pl
  | [.lst l] => some (.v (.tup l))
  | [.tup l] => some (.v (.tup l))
  | _ => none
theorem sp_tuple {X : Cx} : CallSpec X.K (fun xs H Q => ∃ p ys, xs = [.ref p] ∧ ((SqL X.K H p ys ∧ ∀ l, H l = none → Q (.ref l) (upd H l (.tup ys))) ∨ (SqT X.K H p ys ∧ Q (.ref p) H))) gTuple := fun H F xs ds z Q k h hz q => by
  unfold gTuple at hz
  split at hz
  · cases hz
    obtain ⟨v, rfl, a, ys, rfl, ha, ra⟩ := h.one
    exact ⟨a, ys, rfl, .inl ⟨.inl (.inl ha), fun l hl => q _ _ (out_tup k hl ra)⟩⟩
  · cases hz
    obtain ⟨v, rfl, a, ys, rfl, ha, ra, fa⟩ := h.one
    exact ⟨a, ys, rfl, .inr ⟨.inl (.inl ha), q _ _ (out_v k (.tup fa ra))⟩⟩
  · cases hz
def gStr : List D → Option Pl
  | [.int i] => if i.natAbs.log2 < 1920 then some (.v (.str (toString i))) else none
  | _ => none
theorem sp_str {K : PySem.W.Frag} : CallSpec K (fun xs H Q => ∃ i, xs = [.int i] ∧ i.natAbs.log2 < 1920 ∧ Q (.str (toString i)) H) gStr := fun H F xs ds z Q k h hz q => by
  unfold gStr at hz
  split at hz
  · split at hz
    · rename_i hl
      cases hz
      obtain ⟨v, rfl, h1⟩ := h.one
      rw [show v = .int _ from h1]
      exact ⟨_, rfl, hl, q _ _ (out_v k (.str _))⟩
    · cases hz
  · cases hz
def gInt1 : List D → Option Pl
  | [.int i] => some (.v (.int i))
  | [.bl b] => some (.v (.int (if b then 1 else 0)))
  | _ => none
theorem sp_int1 {K : PySem.W.Frag} : CallSpec K (fun xs H Q => (∃ i, xs = [.int i] ∧ Q (.int i) H) ∨ ∃ k, xs = [.bl k] ∧ Q (.int (if k then 1 else 0)) H) gInt1 := fun H F xs ds z Q k h hz q => by
  unfold gInt1 at hz
  split at hz
  · cases hz
    obtain ⟨v, rfl, h1⟩ := h.one
    rw [show v = .int _ from h1]
    exact .inl ⟨_, rfl, q _ _ (out_v k (.int _))⟩
  · cases hz
    obtain ⟨v, rfl, h1⟩ := h.one
    rw [show v = .bl _ from h1]
    exact .inr ⟨_, rfl, q _ _ (out_v k (.int _))⟩
  · cases hz

/-! ### isinstance -/
def tyD : D → String
  | .non => "NoneType"
  | .bl _ => "bool"
  | .int _ => "int"
  | .str _ => "str"
  | .tup _ => "tuple"
  | .lst _ => "list"
  | .dK _ => "dict"
  | .dT _ => "dict"
  | .scr _ => "list"
theorem RdF.ty {K : PySem.W.Frag} {H F : Hp} {v : V} {d : D} (h : RdF K H F v d) (hd : ∀ l, d ≠ .scr l) (hd2 : ∀ l, d ≠ .dK l) (hd3 : ∀ l, d ≠ .dT l) : TyX K H v (.type (tyD d)) := by
  cases d with
  | non => rw [show v = .non from h]; exact .base .non
  | bl b => rw [show v = .bl b from h]; exact .base (.bl b)
  | int i => rw [show v = .int i from h]; exact .base (.int i)
  | str x => rw [show v = .str x from h]; exact .base (.str x)
  | tup l => obtain ⟨a, xs, rfl, ha, _⟩ := h; exact .base (.tup ha)
  | lst l => obtain ⟨a, xs, rfl, ha, _⟩ := h; exact .base (.lst ha)
  | dK l => exact (hd2 l rfl).elim
  | dT l => exact (hd3 l rfl).elim
  | scr l => exact (hd l rfl).elim
/-- is d of the built-in class n: as told by the letters of the classes -/
def isTy (d : D) (n : String) : Option Bool := match d with
  | .scr _ => none
  | .dK _ => none
  | .dT _ => none
  | d => some (tyD d == n || (tyD d == "bool" && n == "int"))
/-- the classes that the texts ask for -/
def tyAsk : List String := ["str", "int", "bool", "tuple", "list"]
theorem isTy_kit {d : D} {n : String} {b : Bool} (hn : n ∈ tyAsk) (h : isTy d n = some b) : kitB (tyD d) n = some b := by
  have all : (["NoneType", "bool", "int", "str", "tuple", "list"].all fun t => tyAsk.all fun n => kitB t n == some (t == n || (t == "bool" && n == "int"))) = true := by decide +kernel
  have use : ∀ t, t ∈ ["NoneType", "bool", "int", "str", "tuple", "list"] → kitB t n = some (t == n || (t == "bool" && n == "int")) := fun t ht => by
    have z := List.all_eq_true.mp all t ht
    have z2 := List.all_eq_true.mp z n hn
    exact eq_of_beq z2
  cases d with
  | non => exact (use _ (by simp [tyD])).trans h
  | bl c => exact (use _ (by simp [tyD])).trans h
  | int i => exact (use _ (by simp [tyD])).trans h
  | str x => exact (use _ (by simp [tyD])).trans h
  | tup l => exact (use _ (by simp [tyD])).trans h
  | lst l => exact (use _ (by simp [tyD])).trans h
  | dK l => cases h
  | dT l => cases h
  | scr l => cases h
theorem isTy_ty {K : PySem.W.Frag} {H F : Hp} {v : V} {d : D} {n : String} {b : Bool} (h : RdF K H F v d) (e : isTy d n = some b) : TyX K H v (.type (tyD d)) :=
  h.ty (fun l z => by subst z; cases e) (fun l z => by subst z; cases e) (fun l z => by subst z; cases e)
def mIsi (n : String) (f : M Pl) : M Pl := fun r => match opd f r with
  | .ok p r1 => match deref r1 p with
    | some d => match isTy d n with
      | some b => .ok (.v (.bl b)) r1
      | none => .st
    | none => .st
  | .ex x r1 => .ex x r1
  | .st => .st
/-- isinstance(a, (n1, n2)) -/
def mIsi2 (n1 n2 : String) (f : M Pl) : M Pl := fun r => match opd f r with
  | .ok p r1 => match deref r1 p with
    | some d => match isTy d n1 with
      | some b => match isTy d n2 with
        | some c => .ok (.v (.bl (b || c))) r1
        | none => .st
      | none => .st
    | none => .st
  | .ex x r1 => .ex x r1
  | .st => .st
section
variable {X : Cx} {P : List V} {E : XK} {a : Expr} {f : M Pl} {pos p1 p2 p3 tpos : Pos} {x1 x2 : Str} {n n1 n2 : String}
theorem de_isi (hg : Gl X "isinstance") (hm : X.mg "isinstance" = none) (hgt : Gl X x1) (hmt : X.mg x1 = none) (hv : bootBuiltins x1 = some (.type n)) (hn : n ∈ tyAsk) (ha : DE X P E a f)
    (hx : x1 ≠ "__name__" := by decide) (hd : (x1 == ("__debug__" : Str)) = false := by decide) (s1 : starEach [a, .Name x1 p2] X.env = (false, eval a X.env) :: starEach [.Name x1 p2] X.env := by rfl) (s2 : starEach [.Name x1 p2] X.env = (false, eval (.Name x1 p2) X.env) :: starEach [] X.env := by rfl)
    (hpl : (backTo pos (starEach [.Name x1 p2] X.env)).any (·.1) = false := by rfl) : DE X P E (.Call (.Name "isinstance" p1) [a, .Name x1 p2] [] pos) (mIsi n f) :=
  ⟨PE.wk (pe_callB call_isi hg hm (by decide +kernel) (pa_cons ha.opd.pe (pa_cons (pe_bltn (v := .ty n) hgt hmt hv rfl hx hd) pa_nil s2) s1) (by decide) (by decide) s1 hpl) fun σ H Q ⟨r, F, Af, R, q⟩ => ⟨r, F, Af, R, by
    unfold mIsi at q
    cases e1 : opd f r with
    | ex x r' => rw [e1] at q; exact q
    | st => rw [e1] at q; exact q
    | ok p r1 =>
      rw [e1] at q
      simp only at q
      intro v1 H1 F1 Af1 T1 ex1 R1 rp1
      cases e3 : deref r1 p with
      | none => rw [e3] at q; exact q.elim
      | some d =>
        rw [e3] at q
        simp only at q
        cases e4 : isTy d n with
        | none => rw [e4] at q; exact q.elim
        | some b =>
          rw [e4] at q
          have rd := PlRep.rd R1 rp1 e3
          exact ⟨v1, .ty n, _, _, b, rfl, .ty n, isTy_ty rd e4, kit_ty (isTy_kit hn e4), q (.bl b) H1 F1 Af1 (fun _ => False) (extF ex1.noT) R1 ⟨.bl b, fun _ => id⟩⟩⟩⟩
theorem de_isi2 {k} (hg : Gl X "isinstance") (hm : X.mg "isinstance" = none) (hg1 : Gl X x1) (hm1 : X.mg x1 = none) (hv1 : bootBuiltins x1 = some (.type n1)) (hn1 : n1 ∈ tyAsk) (hg2 : Gl X x2) (hm2 : X.mg x2 = none) (hv2 : bootBuiltins x2 = some (.type n2)) (hn2 : n2 ∈ tyAsk) (ha : DE X P E a f)
    (hx1 : x1 ≠ "__name__" := by decide) (hd1 : (x1 == ("__debug__" : Str)) = false := by decide) (hx2 : x2 ≠ "__name__" := by decide) (hd2 : (x2 == ("__debug__" : Str)) = false := by decide)
    (s1 : starEach [a, .Tuple [.Name x1 p2, .Name x2 p3] k tpos] X.env = (false, eval a X.env) :: starEach [.Tuple [.Name x1 p2, .Name x2 p3] k tpos] X.env := by rfl)
    (s2 : starEach [.Tuple [.Name x1 p2, .Name x2 p3] k tpos] X.env = (false, eval (.Tuple [.Name x1 p2, .Name x2 p3] k tpos) X.env) :: starEach [] X.env := by rfl)
    (s3 : starEach [.Name x1 p2, .Name x2 p3] X.env = (false, eval (.Name x1 p2) X.env) :: starEach [.Name x2 p3] X.env := by rfl) (s4 : starEach [.Name x2 p3] X.env = (false, eval (.Name x2 p3) X.env) :: starEach [] X.env := by rfl)
    (hpl : (backTo pos (starEach [.Tuple [.Name x1 p2, .Name x2 p3] k tpos] X.env)).any (·.1) = false := by rfl) : DE X P E (.Call (.Name "isinstance" p1) [a, .Tuple [.Name x1 p2, .Name x2 p3] k tpos] [] pos) (mIsi2 n1 n2 f) :=
  ⟨PE.wk (pe_callB call_isiT hg hm (by decide +kernel) (pa_cons ha.opd.pe (pa_cons (pe_tup (pa_cons (pe_bltn (v := .ty n1) hg1 hm1 hv1 rfl hx1 hd1) (pa_cons (pe_bltn (v := .ty n2) hg2 hm2 hv2 rfl hx2 hd2) pa_nil s4) s3)) pa_nil s2) s1) (by decide) (by decide) s1 hpl) fun σ H Q ⟨r, F, Af, R, q⟩ => ⟨r, F, Af, R, by
    unfold mIsi2 at q
    cases e1 : opd f r with
    | ex x r' => rw [e1] at q; exact q
    | st => rw [e1] at q; exact q
    | ok p r1 =>
      rw [e1] at q
      simp only at q
      intro v1 H1 F1 Af1 T1 ex1 R1 rp1
      refine ⟨by show 2 ≤ sizeLine; decide, fun tp htp => ?_⟩
      cases e3 : deref r1 p with
      | none => rw [e3] at q; exact q.elim
      | some d =>
        rw [e3] at q
        simp only at q
        cases e4 : isTy d n1 with
        | none => rw [e4] at q; exact q.elim
        | some b =>
          rw [e4] at q
          simp only at q
          cases e5 : isTy d n2 with
          | none => rw [e5] at q; exact q.elim
          | some c =>
            rw [e5] at q
            have g := grow_own (o := .tup [.ty n1, .ty n2]) R1.keep htp
            have R2 := R1.grow g
            have rd : RdF X.K (upd H1 tp (.tup [.ty n1, .ty n2])) F1 v1 d := by
              have l1 := PlL.one rp1 (opd_nn e1) (Same.refl F1)
              exact l1.rd1 R2 e3
            refine ⟨v1, tp, [.ty n1, .ty n2], _, [.type n1, .type n2], b || c, rfl, upd_same, .cons (.ty n1) (.cons (.ty n2) .nil), isTy_ty rd e4, ?_, q (.bl (b || c)) _ F1 Af1 (fun _ => False) (extF (ex1.noT.trans g.ext)) R2 ⟨.bl _, fun _ => id⟩⟩
            refine kitAny_cons (kit_ty (isTy_kit hn1 e4)) (fun z => ?_) fun z => by rw [z]; rfl
            refine kitAny_cons (kit_ty (isTy_kit hn2 e5)) (fun z2 => ?_) fun z2 => by rw [z2, Bool.or_true]
            rw [z, z2]
            exact kitAny_nil⟩⟩
end
end NT

set_option Elab.async false
set_option linter.all false
set_option maxRecDepth 100000
set_option maxHeartbeats 1000000
namespace NT
open PySem PySem.Spec PyProof.Rows L2

/-! ### sorted -/
def pD (d : D) : PyData := (toP d).getD .none
def leD (a b : D) : Bool := PySem.W.dataLe false pD a b
def sortD (l : List D) : List D := l.mergeSort leD
def nonEmptyTup : PyData → Bool
  | .tuple (_ :: _) => true
  | _ => false
def noneOrTup : PyData → Bool
  | .none => true
  | .tuple _ => true
  | _ => false
def canSort (ps : List PyData) : Bool := (ps.all fun p => ps.all fun q => PySem.W.alike p q) && (ps.all nonEmptyTup || ps.all fun p => !noneOrTup p) && ps.all fun p => decide (p.depth ≤ 64)
def rSortV (K : PySem.W.Frag) : List V → Hp → VK → Prop := fun vs H Q => ∃ (a : Addr) (xs : List V) (ps : List PyData), vs = [V.ref a] ∧ SqL K H a xs ∧ DpAll K H xs ps ∧ canSort ps = true ∧
  ∀ (zs : List (V × PyData)) (p : Addr), zs = (xs.zip ps).mergeSort (PySem.W.dataLe false Prod.snd) → H p = none → Q (.ref p) (upd H p (.lst (zs.map Prod.fst)))
theorem dp_zip {K : PySem.W.Frag} {H : Hp} : ∀ {xs : List V} {ps : List PyData}, DpAll K H xs ps → xs.length = ps.length ∧ (∀ z ∈ xs.zip ps, Dp K H z.1 z.2)
  | _, _, .nil => ⟨rfl, fun z hz => by simp at hz⟩
  | _, _, .cons (v := v) (d := d) h t => by
    obtain ⟨e, f⟩ := dp_zip t
    refine ⟨by simp [e], fun z hz => ?_⟩
    simp only [List.zip_cons_cons, List.mem_cons] at hz
    rcases hz with rfl | hz
    · exact h
    · exact f z hz
theorem each_zip : ∀ {xs : List V} {ps : List PyData} {us : List Value}, Vals xs us → xs.length = ps.length → PySem.W.EachIs (fun u (z : V × PyData) => L2.RelV z.1 u) us (xs.zip ps)
  | _, [], _, .nil, _ => .nil
  | _, [], _, .cons _ _, h => by simp at h
  | _, _ :: _, _, .nil, h => by simp at h
  | _, p :: ps, _, .cons r t, h => .cons r (each_zip t (by simpa using h))
theorem vals_each : ∀ {us : List Value} {zs : List (V × PyData)}, PySem.W.EachIs (fun u (z : V × PyData) => L2.RelV z.1 u) us zs → Vals (zs.map Prod.fst) us
  | _, _, .nil => .nil
  | _, _, .cons r t => .cons r (vals_each t)
theorem map_snd_zip' : ∀ {xs : List V} {ps : List PyData}, xs.length = ps.length → (xs.zip ps).map Prod.snd = ps
  | [], [], _ => rfl
  | [], _ :: _, h => by simp at h
  | _ :: _, [], h => by simp at h
  | x :: xs, p :: ps, h => by simp only [List.zip_cons_cons, List.map_cons]; rw [map_snd_zip' (by simpa using h)]
theorem cr_sortV {X : Cx} (hu : X.A.units + 70 < cLine) : CallR X (.builtin "sorted") (rSortV X.K) := by
  intro pins s σ H vs us Q I r ⟨a, xs, ps, e, hs, hd, hc, q⟩
  subst e
  obtain ⟨its, rv, hl, hz⟩ := I.list hs
  rw [Vals.ref1 r]
  obtain ⟨hlen, hdp⟩ := dp_zip hd
  unfold canSort at hc
  simp only [Bool.and_eq_true, Bool.or_eq_true, List.all_eq_true] at hc
  obtain ⟨⟨h1, h2⟩, h3⟩ := hc
  have hsnd : (xs.zip ps).map Prod.snd = ps := map_snd_zip' hlen
  have hmem : ∀ z ∈ xs.zip ps, z.2 ∈ ps := fun z hz => by rw [← hsnd]; exact List.mem_map_of_mem hz
  have ez := each_zip rv hlen
  have er : PySem.W.EachIs (fun u (z : V × PyData) => ∃ as, Reads s.heap u z.2 as) its (xs.zip ps) := by
    have gen : ∀ {us : List Value} {zs : List (V × PyData)}, PySem.W.EachIs (fun u (z : V × PyData) => L2.RelV z.1 u) us zs → (∀ z ∈ zs, Dp X.K H z.1 z.2) → PySem.W.EachIs (fun u (z : V × PyData) => ∃ as, Reads s.heap u z.2 as) us zs := by
      intro us zs h
      induction h with
      | nil => exact fun _ => .nil
      | cons hr ht ih => exact fun hm => .cons (Dp.reads I _ _ _ (hm _ List.mem_cons_self) hr) (ih fun z hz => hm z (List.mem_cons_of_mem _ hz))
    exact gen ez hdp
  have hlv : (xs.zip ps).length = its.length := by rw [List.length_zip, ← hlen, rv.length]; omega
  refine PySem.W.sorted_data (β := V × PyData) (bs := xs.zip ps) (enc := Prod.snd) (R := fun u z => L2.RelV z.1 u) hl.isList ez er ?_ ?_ ?_ ?_ fun out ho he => ?_
  · rw [hsnd]
    exact fun d hd d' hd' => h1 d hd d' hd'
  · rw [hsnd]
    rcases h2 with h2 | h2
    · refine .inl fun d hd => ?_
      have z := h2 d hd
      unfold nonEmptyTup at z
      split at z
      · exact ⟨_, _, rfl⟩
      · cases z
    · refine .inr fun d hd => ?_
      have z := h2 d hd
      unfold noneOrTup at z
      split at z
      · cases z
      · cases z
      · rename_i n1 n2
        exact ⟨fun e => n1 e, fun l e => n2 l e⟩
  · rw [hlv, ← rv.length]; exact hz
  · intro z hz
    have := of_decide_eq_true (h3 z.2 (hmem z hz))
    omega
  · obtain ⟨ep, he'⟩ := PyProof.Rows.sortedAll_at s.heap its out.toArray
    have rv2 := vals_each he
    have hl2 : (((xs.zip ps).mergeSort (PySem.W.dataLe false Prod.snd)).map Prod.fst).length ≤ sizeLine := by
      rw [rv2.length, ho, hlv, ← rv.length]; exact hz
    exact ⟨.ref _, upd H (s.heap.objs.size + 1) (.lst (((xs.zip ps).mergeSort (PySem.W.dataLe false Prod.snd)).map Prod.fst)), I.laid (t' := s.toks) (fun _ _ => PyProof.Rows.sortedAll_old) (Nat.le_succ _) ⟨hl2, out, ep, rv2, he'⟩, rfl, q _ _ rfl (I.hok.fresh (Nat.le_succ _))⟩
theorem toPs_map : ∀ {ds : List D} {ps : List PyData}, toPs ds = some ps → ps = ds.map pD
  | [], ps, e => by simp only [toPs, Option.some.injEq] at e; subst e; rfl
  | d :: ds, ps, e => by
    unfold toPs at e
    cases e1 : toP d with
    | none => rw [e1] at e; cases e
    | some p =>
      rw [e1] at e
      simp only at e
      cases e2 : toPs ds with
      | none => rw [e2] at e; cases e
      | some ps' =>
        rw [e2] at e
        cases e
        rw [toPs_map e2]
        simp [pD, e1]
def zipVD : List V → List D → List (V × D)
  | v :: vs, d :: ds => (v, d) :: zipVD vs ds
  | _, _ => []
theorem RepL.pairs {K : PySem.W.Frag} {F : Hp} : ∀ {vs : List V} {ds : List D}, RepL K F vs ds → (∀ z ∈ zipVD vs ds, Rep K F z.1 z.2) ∧ (zipVD vs ds).map Prod.snd = ds ∧ (zipVD vs ds).map (fun z => (z.1, pD z.2)) = vs.zip (ds.map pD)
  | _, _, .nil => ⟨fun z hz => by simp [zipVD] at hz, rfl, rfl⟩
  | _, _, .cons (v := v) (d := d) h t => by
    obtain ⟨a, b, c⟩ := t.pairs
    refine ⟨fun z hz => ?_, by simp [zipVD, b], by simp [zipVD, c]⟩
    simp only [zipVD, List.mem_cons] at hz
    rcases hz with rfl | hz
    · exact h
    · exact a z hz
theorem repL_of {K : PySem.W.Frag} {F : Hp} : ∀ {zs : List (V × D)}, (∀ z ∈ zs, Rep K F z.1 z.2) → RepL K F (zs.map Prod.fst) (zs.map Prod.snd)
  | [], _ => .nil
  | z :: zs, h => .cons (h z List.mem_cons_self) (repL_of fun y hy => h y (List.mem_cons_of_mem _ hy))
theorem RepL.sorted {K : PySem.W.Frag} {F : Hp} {vs : List V} {ds : List D} (r : RepL K F vs ds) : RepL K F (((vs.zip (ds.map pD)).mergeSort (PySem.W.dataLe false Prod.snd)).map Prod.fst) (sortD ds) := by
  obtain ⟨h1, h2, h3⟩ := r.pairs
  have e1 : (vs.zip (ds.map pD)).mergeSort (PySem.W.dataLe false Prod.snd) = ((zipVD vs ds).mergeSort fun a b => PySem.W.dataLe false (fun z : V × D => pD z.2) a b).map fun z => (z.1, pD z.2) := by
    rw [← h3]
    exact (List.map_mergeSort (r := fun a b : V × D => PySem.W.dataLe false (fun z : V × D => pD z.2) a b) (s := PySem.W.dataLe false Prod.snd) (f := fun z : V × D => (z.1, pD z.2)) (fun a _ b _ => rfl)).symm
  have e2 : sortD ds = ((zipVD vs ds).mergeSort fun a b => PySem.W.dataLe false (fun z : V × D => pD z.2) a b).map Prod.snd := by
    unfold sortD
    rw [List.map_mergeSort (r := fun a b : V × D => PySem.W.dataLe false (fun z : V × D => pD z.2) a b) (s := leD) (f := Prod.snd) (fun a _ b _ => rfl), h2]
  rw [e1, e2, List.map_map]
  refine repL_of fun z hz => h1 z ?_
  exact (List.mergeSort_perm _ _).mem_iff.mp hz
/-- the keys of a dict, as data -/
def keyD : Key → D
  | .inl i => .int i
  | .inr x => .str x
def strKeys : List Key → Option (List Str)
  | [] => some []
  | .inr x :: ks => match strKeys ks with
    | some xs => some (x :: xs)
    | none => none
  | .inl _ :: _ => none
def sortL (l : List D) : Option (List D) := match toPs l with
  | some ps => if canSort ps = true then some (sortD l) else none
  | none => none
def gSorted : List D → Option Pl
  | [.lst l] => match sortL l with
    | some r => some (.n (.lst r))
    | none => none
  | _ => none
theorem sp_sorted {K : PySem.W.Frag} : CallSpec K (rSortV K) gSorted := fun H F xs ds z Q k h hz q => by
  unfold gSorted at hz
  split at hz
  · split at hz
    · rename_i l0 r hr
      cases hz
      obtain ⟨v, rfl, a, ys, rfl, ha, ra⟩ := h.one
      unfold sortL at hr
      cases e : toPs _ with
      | none => rw [e] at hr; cases hr
      | some ps =>
        rw [e] at hr
        simp only at hr
        split at hr
        · rename_i hc
          cases hr
          have hm := toPs_map e
          refine ⟨a, ys, ps, rfl, .inl (.inl ha), ra.dp k e, hc, fun zs p hzs hp => ?_⟩
          subst hzs hm
          exact q _ _ (out_lst k hp ra.sorted)
        · cases hr
    · cases hz
  · cases hz
end NT

set_option Elab.async false
set_option linter.all false
set_option maxRecDepth 100000
set_option maxHeartbeats 1000000
namespace NT
open PySem PySem.Spec PyProof.Rows L2

/-! ### an owned object is written -/
/-- slot i's object at a gets other content -/
theorem Rel.write {K : PySem.W.Frag} {P : List V} {r : En} {σ : L2.St} {H F : Hp} {Af : Nat → Fp} {i : Nat} {a : Addr} {u : HO} {o : O} (R : Rel K P r σ H F Af) (hi : i < r.length) (hA : Af i = fun b => b = a) (hv : σ[i]? = some (some (.ref a)))
    (ow : ∀ H', H' a = some u → OwnRep K H' F (.ref a) (fun b => b = a) o) : Rel K P (r.set i (.own o)) σ (upd H a u) F Af ∧ Ext H F (U Af) (upd H a u) F (U Af) := by
  have ha : U Af a := ⟨i, by rw [hA]⟩
  have oa := R.own ha
  refine ⟨⟨by rw [List.length_set]; exact R.len, fun b w e => ?_, R.par, fun j s e => ?_, fun j e b => ?_, R.dis⟩, ⟨fun b w e n => ?_, fun b e => ?_, Same.refl _, fun _ e => .inl e, fun _ e => .inl e⟩⟩
  · have ne : b ≠ a := ne_of_none e oa.2
    rw [upd_ne ne]; exact R.keep b w e
  · by_cases hj : j = i
    · subst hj
      rw [List.getElem?_set_self hi] at e; cases e
      exact ⟨.ref a, hv, by rw [hA]; exact ow _ upd_same⟩
    · rw [List.getElem?_set_ne (Ne.symm hj)] at e
      refine (R.slot j s e).mono (Same.refl _) fun b w t h => ?_
      have ne : b ≠ a := fun z => hj (R.dis j i b t (by rw [hA]; exact z))
      rw [upd_ne ne]
      exact ⟨h, (R.own ⟨j, t⟩).2⟩
  · refine R.out j ?_ b
    have := List.getElem?_eq_none_iff.mp e
    rw [List.length_set] at this
    exact List.getElem?_eq_none this
  · have ne : b ≠ a := fun z => n (z ▸ ha)
    rw [upd_ne ne]; exact e
  · by_cases hb : b = a
    · rw [hb, upd_same] at e; cases e
    · rw [upd_ne hb] at e; exact e
theorem Rel.ownAt {K : PySem.W.Frag} {P : List V} {r : En} {σ : L2.St} {H F : Hp} {Af : Nat → Fp} {i : Nat} {l : List D} (R : Rel K P r σ H F Af) (e : r[i]? = some (.own (.lst l))) : ∃ a xs, σ[i]? = some (some (.ref a)) ∧ Af i = (fun b => b = a) ∧ H a = some (.lst xs) ∧ RepL K F xs l := by
  obtain ⟨v, e1, a, xs, rfl, hT, h1, h2, h3⟩ := R.slot i _ e
  exact ⟨a, xs, e1, hT, h1, h3⟩

/-! ### methods of an owned list -/
def MSpec (K : PySem.W.Frag) (rr : V → List V → Hp → VK → Prop) (g : List D → List D → Option (D × List D)) : Prop :=
  ∀ (H F : Hp) (a : Addr) (xs : List V) (l : List D) (vs : List V) (ds : List D) (d : D) (l' : List D) (Q : VK), H a = some (.lst xs) → RepL K F xs l → RepL K F vs ds → g l ds = some (d, l') →
    (∀ v xs', RepL K F xs' l' → Rep K F v d → Q v (upd H a (.lst xs'))) → rr (.ref a) vs H Q
def gAppend : List D → List D → Option (D × List D) := fun l ds => match ds with
  | [d] => if l.length < sizeLine then some (.non, l ++ [d]) else none
  | _ => none
def gPop : List D → List D → Option (D × List D) := fun l ds => match ds with
  | [] => match l[l.length - 1]? with
    | some d => some (d, l.dropLast)
    | none => none
  | _ => none
def gPopAt : List D → List D → Option (D × List D) := fun l ds => match ds with
  | [.int i] => if decide (-(2 ^ 63) ≤ i ∧ i < 2 ^ 63) = true then (match seqIndex? i l.length with
    | some k => match l[k]? with
      | some d => some (d, l.eraseIdx k)
      | none => none
    | none => none) else none
  | _ => none
theorem RepL.dropLast {K : PySem.W.Frag} {F : Hp} {vs : List V} {ds : List D} (r : RepL K F vs ds) : RepL K F vs.dropLast ds.dropLast := by
  rw [List.dropLast_eq_take, List.dropLast_eq_take, r.length]
  exact r.take _
theorem RepL.erase {K : PySem.W.Frag} {F : Hp} : ∀ (k : Nat) {vs : List V} {ds : List D}, RepL K F vs ds → RepL K F (vs.eraseIdx k) (ds.eraseIdx k)
  | _, _, _, .nil => .nil
  | 0, _, _, .cons _ t => t
  | k + 1, _, _, .cons h t => .cons h (RepL.erase k t)
theorem ms_append {K : PySem.W.Frag} : MSpec K rAppend gAppend := fun H F a xs l vs ds d l' Q ha rx rv hg q => by
  unfold gAppend at hg
  split at hg
  · split at hg
    · rename_i hl
      cases hg
      cases rv with
      | cons r t =>
        cases t
        exact ⟨a, xs, _, rfl, rfl, ha, by rw [rx.length]; exact hl, q _ _ (rx.append (.cons r .nil)) .non⟩
    · cases hg
  · cases hg
theorem ms_pop {K : PySem.W.Frag} : MSpec K rPop gPop := fun H F a xs l vs ds d l' Q ha rx rv hg q => by
  unfold gPop at hg
  split at hg
  · cases rv
    split at hg
    · rename_i d' hd
      cases hg
      obtain ⟨v, hv, rv⟩ := rx.get hd
      exact ⟨a, xs, v, rfl, rfl, ha, by rw [rx.length]; exact hv, q _ _ rx.dropLast rv⟩
    · cases hg
  · cases hg
theorem ms_popAt {K : PySem.W.Frag} : MSpec K rPopAt gPopAt := fun H F a xs l vs ds d l' Q ha rx rv hg q => by
  unfold gPopAt at hg
  split at hg
  · split at hg
    · rename_i hb
      obtain ⟨b1, b2⟩ := of_decide_eq_true hb
      split at hg
      · rename_i k hk
        split at hg
        · rename_i d' hd
          cases hg
          obtain ⟨v, hv, rv'⟩ := rx.get hd
          cases rv with
          | cons r t =>
            cases t
            cases r
            exact ⟨a, xs, _, k, v, rfl, rfl, ha, b1, b2, by rw [rx.length]; exact hk, hv, q _ _ (rx.erase k) rv'⟩
        · cases hg
      · cases hg
    · cases hg
  · cases hg
def isOwnL : Option Sl → Bool
  | some (.own (.lst _)) => true
  | _ => false
def eMeth (i : Nat) (g : List D → List D → Option (D × List D)) (fs : M (List D)) : M Pl := fun r => if isOwnL r[i]? = true then (match fs r with
  | .ok ds r1 => match r1[i]? with
    | some (.own (.lst l)) => match g l ds with
      | some (d, l') => .ok (.v d) (r1.set i (.own (.lst l')))
      | none => .st
    | _ => .st
  | .ex x r1 => .ex x r1
  | .st => .st) else .st
section
variable {X : Cx} {P : List V} {E : XK} {e : Expr} {es : List Expr} {fs : M (List D)} {x name : Str} {pos apos cpos : Pos} {id : String} {rr : V → List V → Hp → VK → Prop} {g : List D → List D → Option (D × List D)} {i : Nat}
theorem meth_t (sp : MSpec X.K rr g) (σ : L2.St) (H : Hp) (Q : VK) (h : tE X.K X.mg P E (eMeth i g fs) σ H Q) : tVar i σ H fun x H1 => tyV X.K "list" x H1 ∧ tFL X.K X.mg P E fs σ H1 fun xs H2 => rr x xs H2 Q := by
  obtain ⟨r, F, Af, R, q⟩ := h
  unfold eMeth at q
  by_cases ho : ¬ isOwnL r[i]? = true
  · rw [if_neg ho] at q; exact q.elim
  have ho := Decidable.not_not.mp ho
  rw [if_pos ho] at q
  have hl0 : ∃ l0, r[i]? = some (.own (.lst l0)) := by
    unfold isOwnL at ho
    split at ho
    · exact ⟨_, by assumption⟩
    · cases ho
  obtain ⟨l0, e0⟩ := hl0
  obtain ⟨a0, xs0, e1, hA0, hH0, rx0⟩ := R.ownAt e0
  refine ⟨.ref a0, e1, .inl ⟨rfl, xs0, .inl (.inl hH0)⟩, r, F, Af, R, ?_⟩
  cases e2 : fs r with
  | ex x r' => rw [e2] at q; exact q
  | st => rw [e2] at q; exact q
  | ok ds r1 =>
    rw [e2] at q
    simp only at q
    intro vs H1 F1 Af1 ex1 R1 rp1
    split at q
    · rename_i l hl
      obtain ⟨a, xs, e3, hA, hH, rx⟩ := R1.ownAt hl
      rw [e1] at e3; cases e3
      split at q
      · rename_i d l' hg
        refine sp H1 F1 a0 xs l vs ds d l' Q hH rx rp1 hg fun v xs' rx' rv => ?_
        have hi : i < r1.length := (List.getElem?_eq_some_iff.mp hl).1
        obtain ⟨R2, ex2⟩ := R1.write (u := .lst xs') (o := .lst l') hi hA e1 fun H' hH' => ⟨a0, xs', rfl, rfl, hH', (R1.own ⟨i, by rw [hA]⟩).2, rx'⟩
        exact q v _ F1 Af1 (fun _ => False) (extF (ex1.trans ex2)) R2 ⟨rv, fun _ => id⟩
      · exact q.elim
    · exact q.elim
theorem de_meth (slot : Slot "list" name id) (hty : typeOf (.builtin id) = pure (.type "method_descriptor")) (hm : MtR X id rr) (sp : MSpec X.K rr g) (hN : X.N[i]? = some x) (hv : Vis X.env.scope x) (ha : DL X P E (e :: es) fs)
    (hd : (x == ("__debug__" : Str)) = false := by decide) (hcd : (x == ("__classdict__" : Str)) = false := by decide) (hbase : attributeBase (.Name x pos) name X.env (eval (.Name x pos) X.env) = eval (.Name x pos) X.env := by rfl)
    (hfew : ((backTo cpos (starEach (e :: es) X.env)).all (fun x => !x.1) && (backToKw cpos (keywordEach [] X.env)).all (fun x => x.1.isSome)
      && decide ((e :: es).length + ([] : List Keyword).length + (if ([] : List Keyword).isEmpty then 0 else 1) < 30)) = true := by rfl)
    (hline : (apos.endLine == cpos.line) = true := by rfl) (hs : starEach (e :: es) X.env = (false, eval e X.env) :: starEach es X.env := by rfl) (hplain : (backTo cpos (starEach es X.env)).any (·.1) = false := by rfl) :
    DE X P E (.Call (.Attribute (.Name x pos) name apos) (e :: es) [] cpos) (eMeth i g fs) :=
  ⟨PE.wk (pe_bm PySem.F.plainAttrs_list slot hty hm (pe_var hN hv hd hcd) ha.pa hbase hfew hline hs hplain) (meth_t sp)⟩
theorem de_meth0 (slot : Slot "list" name id) (hty : typeOf (.builtin id) = pure (.type "method_descriptor")) (hm : MtR X id rr) (sp : MSpec X.K rr g) (hN : X.N[i]? = some x) (hv : Vis X.env.scope x)
    (hd : (x == ("__debug__" : Str)) = false := by decide) (hcd : (x == ("__classdict__" : Str)) = false := by decide) (hbase : attributeBase (.Name x pos) name X.env (eval (.Name x pos) X.env) = eval (.Name x pos) X.env := by rfl)
    (hline : (apos.endLine == cpos.line) = true := by rfl) : DE X P E (.Call (.Attribute (.Name x pos) name apos) [] [] cpos) (eMeth i g lNil) :=
  ⟨PE.wk (pe_bm0 PySem.F.plainAttrs_list slot hty hm (pe_var hN hv hd hcd) hbase hline) fun σ H Q h => by
    obtain ⟨v, e1, ty, r, F, Af, R, q⟩ := meth_t sp σ H Q h
    exact ⟨v, e1, ty, q [] H F Af Ext.refl R .nil⟩⟩
end

/-! ### stores: rows[k] = d, table[k] = d -/
def gSubL (i : Nat) (fk : M Pl) : D → M Unit := fun d r => if isOwnL r[i]? = true then (match opd fk r with
  | .ok p r1 => match deref r1 p, r1[i]? with
    | some (.int k), some (.own (.lst l)) => match ixN l.length k with
      | some j => .ok () (r1.set i (.own (.lst (l.set j d))))
      | none => .st
    | _, _ => .st
  | .ex x r1 => .ex x r1
  | .st => .st) else .st
section
variable {X : Cx} {P : List V} {E : XK} {sl : List Nat} {ek : Expr} {fk : M Pl} {x : Str} {pos pos' : Pos} {i : Nat}
theorem dg_sub (hN : X.N[i]? = some x) (hv : Vis X.env.scope x) (hk : DE X P E ek fk) (hd : (x == ("__debug__" : Str)) = false := by decide) (hcd : (x == ("__classdict__" : Str)) = false := by decide)
    (ha : ∀ v, assign (.Subscript (.Name x pos') ek pos) X.env v = (do
      let ov ← holding [v] (eval (.Name x pos') X.env)
      let iv ← holding [v, ov] (eval ek X.env)
      standAt pos
      holding [v, ov, iv] (setItem ov iv v)
      release [v, ov, iv] []) := by intro _; rfl) : DG X P E sl (.Subscript (.Name x pos') ek pos) (gSubL i fk) :=
  ⟨PG.wk (pg_sub (pe_var hN hv hd hcd) hk.opd.pe set_list ha) fun v σ H Q ⟨d, r, F, Af, R, rp, q⟩ => by
    unfold gSubL at q
    by_cases ho : ¬ isOwnL r[i]? = true
    · rw [if_neg ho] at q; exact q.elim
    have ho := Decidable.not_not.mp ho
    rw [if_pos ho] at q
    have hl0 : ∃ l0, r[i]? = some (.own (.lst l0)) := by
      unfold isOwnL at ho
      split at ho
      · exact ⟨_, by assumption⟩
      · cases ho
    obtain ⟨l0, e0⟩ := hl0
    obtain ⟨a0, xs0, e1, hA0, hH0, rx0⟩ := R.ownAt e0
    refine ⟨.ref a0, e1, r, F, Af, R, ?_⟩
    cases e2 : opd fk r with
    | ex x r' => rw [e2] at q; exact q
    | st => rw [e2] at q; exact q
    | ok p r1 =>
      rw [e2] at q
      simp only at q
      intro kv H1 F1 Af1 T ex1 R1 rp1
      split at q
      · rename_i k l hk hl
        obtain ⟨a, xs, e3, hA, hH, rx⟩ := R1.ownAt hl
        rw [e1] at e3; cases e3
        split at q
        · rename_i j hj
          have rp2 := rp.mono ex1.ff
          refine ⟨a0, xs, k, j, rfl, PlRep.rd R1 rp1 hk, hH, by rw [rx.length]; exact hj, ?_⟩
          have hi : i < r1.length := (List.getElem?_eq_some_iff.mp hl).1
          obtain ⟨R2, ex2⟩ := R1.write (u := .lst (xs.set j v)) (o := .lst (l.set j d)) hi hA e1 fun H' hH' => ⟨a0, _, rfl, rfl, hH', (R1.own ⟨i, by rw [hA]⟩).2, rx.set rp2 j⟩
          exact q σ _ F1 Af1 rfl (fun _ _ => rfl) (ex1.noT.trans ex2) R2
        · exact q.elim
      · exact q.elim⟩
end
def putD {κ : Type} [DecidableEq κ] (l : List (κ × D)) (k : κ) (d : D) : List (κ × D) := if (l.any fun kv => decide (kv.1 = k)) = true then l.map (fun kv => if kv.1 = k then (kv.1, d) else kv) else l ++ [(k, d)]
theorem any_keys {κ : Type} [DecidableEq κ] (k : κ) : ∀ {kvs : List (κ × V)} {l : List (κ × D)}, kvs.map (·.1) = l.map (·.1) → (kvs.any fun kv => decide (kv.1 = k)) = l.any fun kv => decide (kv.1 = k)
  | [], [], _ => rfl
  | [], _ :: _, e => by cases e
  | _ :: _, [], e => by cases e
  | (a, _) :: kvs, (b, _) :: l, e => by
    simp only [List.map_cons, List.cons.injEq] at e
    simp only [List.any_cons, e.1, any_keys k e.2]
theorem put_map {K : PySem.W.Frag} {F : Hp} {κ : Type} [DecidableEq κ] (k : κ) {v : V} {d : D} (r : Rep K F v d) : ∀ {kvs : List (κ × V)} {l : List (κ × D)}, kvs.map (·.1) = l.map (·.1) → RepL K F (kvs.map (·.2)) (l.map (·.2)) →
    (kvs.map fun kv => if kv.1 = k then (kv.1, v) else kv).map (·.1) = (l.map fun kv => if kv.1 = k then (kv.1, d) else kv).map (·.1) ∧ RepL K F ((kvs.map fun kv => if kv.1 = k then (kv.1, v) else kv).map (·.2)) ((l.map fun kv => if kv.1 = k then (kv.1, d) else kv).map (·.2))
  | [], [], _, _ => ⟨rfl, .nil⟩
  | [], _ :: _, e, _ => by cases e
  | _ :: _, [], e, _ => by cases e
  | (a, w) :: kvs, (b, f) :: l, e, h => by
    simp only [List.map_cons, List.cons.injEq] at e h
    obtain ⟨e1, e2⟩ := e
    subst e1
    cases h with
    | cons h1 h2 =>
      obtain ⟨i1, i2⟩ := put_map k r e2 h2
      by_cases hk : a = k
      · simp only [List.map_cons, if_pos hk]
        exact ⟨by rw [i1], .cons r i2⟩
      · simp only [List.map_cons, if_neg hk]
        exact ⟨by rw [i1], .cons h1 i2⟩
theorem put_rep {K : PySem.W.Frag} {F : Hp} {κ : Type} [DecidableEq κ] (k : κ) {v : V} {d : D} (r : Rep K F v d) {kvs : List (κ × V)} {l : List (κ × D)} (e : kvs.map (·.1) = l.map (·.1)) (h : RepL K F (kvs.map (·.2)) (l.map (·.2))) :
    (putK kvs k v).map (·.1) = (putD l k d).map (·.1) ∧ RepL K F ((putK kvs k v).map (·.2)) ((putD l k d).map (·.2)) := by
  unfold putK putD
  rw [any_keys k e]
  split
  · exact put_map k r e h
  · simp only [List.map_append, List.map_cons, List.map_nil]
    exact ⟨by rw [e], h.append (.cons r .nil)⟩
def putO (o : O) (k d : D) : Option O := match o with
  | .dK l => match keyK k with
    | some k => if l.length < sizeLine then some (.dK (putD l k d)) else none
    | none => none
  | .dT l => match keyT k with
    | some k => if l.length < sizeLine then some (.dT (putD l k d)) else none
    | none => none
  | .lst _ => none
def isOwn : Option Sl → Bool
  | some (.own _) => true
  | _ => false
/-- table[k] = d: first d, then k -/
def sDPutM (i : Nat) (fk : M D) (fv : M D) : En → RS := fun r => match fv r with
  | .ok d r1 => if isOwn r1[i]? = true then (match fk r1 with
    | .ok k r2 => match r2[i]? with
      | some (.own o) => match putO o k d with
        | some o' => .nx (r2.set i (.own o'))
        | none => .st
      | _ => .st
    | .ex x r2 => .ex x r2
    | .st => .st) else .st
  | .ex x r1 => .ex x r1
  | .st => .st
theorem len_map1 {α β γ : Type} {a : List (α × β)} {b : List (α × γ)} (e : a.map (·.1) = b.map (·.1)) : a.length = b.length := by
  have := congrArg List.length e
  rwa [List.length_map, List.length_map] at this
section
variable {X : Cx} {P : List V} {E : XK} {ek ev : Expr} {fk fv : M D} {x : Str} {pos pos' p : Pos} {i : Nat}
theorem ds_dput (hu : X.A.units + 1 < cLine) (hN : X.N[i]? = some x) (hv : Vis X.env.scope x) (hk : DF X P E ek fk) (he : DF X P E ev fv) (hs : swapsWith ev (some (.Subscript (.Name x p) ek pos')) pos.line X.env = pure false := by rfl)
    (hd : (x == ("__debug__" : Str)) = false := by decide) (hcd : (x == ("__classdict__" : Str)) = false := by decide) : DS X P E (.Assign [.Subscript (.Name x p) ek pos'] ev pos) (sDPutM i fk fv) :=
  ⟨PS.wk (ps_dput hu (pe_var hN hv hd hcd) hk.pe he.pe hs) fun Z σ H ⟨r, F, Af, R, q⟩ => ⟨r, F, Af, R, by
    unfold sDPutM at q
    cases e1 : fv r with
    | ex x r' => rw [e1] at q; exact q
    | st => rw [e1] at q; exact q
    | ok d r1 =>
      rw [e1] at q
      simp only at q
      intro v H1 F1 Af1 ex1 R1 rp1
      by_cases ho : ¬ isOwn r1[i]? = true
      · rw [if_neg ho] at q; exact q.elim
      have ho := Decidable.not_not.mp ho
      rw [if_pos ho] at q
      have hl0 : ∃ o0, r1[i]? = some (.own o0) := by
        unfold isOwn at ho
        split at ho
        · exact ⟨_, by assumption⟩
        · cases ho
      obtain ⟨o0, e0⟩ := hl0
      obtain ⟨v0, e00, ow0⟩ := R1.slot i _ e0
      refine ⟨v0, e00, r1, F1, Af1, R1, ?_⟩
      cases e2 : fk r1 with
      | ex x r' => rw [e2] at q; exact PostX.from q ex1
      | st => rw [e2] at q; exact q
      | ok k r2 =>
        rw [e2] at q
        simp only at q
        intro kv H2 F2 Af2 ex2 R2 rp2
        split at q
        · rename_i o hl
          obtain ⟨v2, e3, ow⟩ := R2.slot i _ hl
          rw [e00] at e3; cases e3
          have hi : i < r2.length := (List.getElem?_eq_some_iff.mp hl).1
          have rv := rp1.mono ex2.ff
          split at q
          · rename_i o' hp
            unfold putO at hp
            split at hp
            · obtain ⟨a, kvs, rfl, hT, hH, hF, hk1, hk2⟩ := ow
              split at hp
              · rename_i l k' hk'
                split at hp
                · rename_i hlen
                  cases hp
                  obtain ⟨n1, n2⟩ := put_rep k' rv hk1 hk2
                  have ek' := keyK_r rp2 hk'
                  refine ⟨a, _, rfl, .inl ⟨kvs, k', hH, ek', by rw [len_map1 hk1]; exact hlen, rfl⟩, ?_⟩
                  obtain ⟨R3, ex3⟩ := R2.write (u := .dK (putK kvs k' v)) (o := .dK (putD _ k' d)) hi hT e00 fun H' hH' => ⟨a, _, rfl, rfl, hH', hF, n1, n2⟩
                  exact q σ _ F2 Af2 ((ex1.trans ex2).trans ex3) R3
                · cases hp
              · cases hp
            · obtain ⟨a, kvs, rfl, hT, hH, hF, hk1, hk2⟩ := ow
              split at hp
              · rename_i l k' hk'
                split at hp
                · rename_i hlen
                  cases hp
                  obtain ⟨n1, n2⟩ := put_rep k' rv hk1 hk2
                  unfold keyT at hk'
                  split at hk'
                  · cases rp2 with
                    | tup hb tb =>
                      have hb2 := R2.keep.tup hb
                      rw [keyTs_v tb hk'] at hb2
                      refine ⟨a, _, rfl, .inr ⟨kvs, k', _, hH, rfl, hb2, by rw [len_map1 hk1]; exact hlen, rfl⟩, ?_⟩
                      obtain ⟨R3, ex3⟩ := R2.write (u := .dT (putK kvs k' v)) (o := .dT (putD _ k' d)) hi hT e00 fun H' hH' => ⟨a, _, rfl, rfl, hH', hF, n1, n2⟩
                      exact q σ _ F2 Af2 ((ex1.trans ex2).trans ex3) R3
                  · cases hk'
                · cases hp
              · cases hp
            · cases hp
          · exact q.elim
        · exact q.elim⟩⟩
end
end NT

set_option Elab.async false
set_option linter.all false
set_option maxRecDepth 100000
set_option maxHeartbeats 1000000
namespace NT
open PySem PySem.Spec PyProof.Rows L2

/-! ### d.get(k, x) -/
def eGet (fd fk fx : M Pl) : M Pl := fun r => match opd fd r with
  | .ok p r1 => match deref r1 p with
    | some d0 => match opd fk r1 with
      | .ok q r2 => match frz fx r2 with
        | .ok x r3 => match deref r3 p, deref r3 q with
          | some d, some k => match gDGet d k with
            | some (some v) => .ok (.v v) r3
            | some none => .ok (.v x) r3
            | none => .st
          | _, _ => .st
        | .ex x r3 => .ex x r3
        | .st => .st
      | .ex x r2 => .ex x r2
      | .st => .st
    | none => .st
  | .ex x r1 => .ex x r1
  | .st => .st
def isDict : D → Bool
  | .dK _ => true
  | .dT _ => true
  | _ => false
def eGetD (fd fk fx : M Pl) : M Pl := fun r => match opd fd r with
  | .ok p r1 => match deref r1 p with
    | some d0 => if isDict d0 = true then eGet (fun _ => .ok p r1) fk fx r else .st
    | none => .st
  | .ex x r1 => .ex x r1
  | .st => .st
section
variable {X : Cx} {P : List V} {E : XK} {o e f : Expr} {fd fk fx : M Pl} {apos cpos : Pos}
theorem RdF.isD {K : PySem.W.Frag} {H F : Hp} {v : V} {d : D} (h : RdF K H F v d) (e : isDict d = true) : ∃ a, v = .ref a ∧ IsD H a := by
  unfold isDict at e
  split at e
  · obtain ⟨a, kvs, rfl, ha, _⟩ := h; exact ⟨a, rfl, .inl ⟨kvs, ha⟩⟩
  · obtain ⟨a, kvs, rfl, ha, _⟩ := h; exact ⟨a, rfl, .inr ⟨kvs, ha⟩⟩
  · cases e
theorem de_get (hu : X.A.units + 1 < cLine) (ho : DE X P E o fd) (he : DE X P E e fk) (hf : DE X P E f fx) (m : M2 X o "get" apos e f cpos) : DE X P E (.Call (.Attribute o "get" apos) [e, f] [] cpos) (eGetD fd fk fx) :=
  ⟨PE.wk (pe_dget2 hu ho.opd.pe he.opd.pe hf.frz.pe m) fun σ H Q ⟨r, F, Af, R, q⟩ => ⟨r, F, Af, R, by
    unfold eGetD eGet at q
    cases e1 : opd fd r with
    | ex x r' => rw [e1] at q; exact q
    | st => rw [e1] at q; exact q
    | ok p r1 =>
      rw [e1] at q
      simp only at q
      intro v1 H1 F1 Af1 T1 ex1 R1 rp1
      have nn := opd_nn e1
      cases e2 : deref r1 p with
      | none => rw [e2] at q; exact q.elim
      | some d0 =>
        rw [e2] at q
        simp only at q
        by_cases hd : ¬ isDict d0 = true
        · rw [if_neg hd] at q; exact q.elim
        have hd := Decidable.not_not.mp hd
        rw [if_pos hd] at q
        obtain ⟨a, rfl, isd⟩ := (PlRep.rd R1 rp1 e2).isD hd
        refine ⟨a, rfl, isd, r1, F1, Af1, R1, ?_⟩
        have e1' : opd (fun _ => NT.R.ok p r1) r = .ok p r1 := by
          unfold opd
          cases p with
          | v d => rfl
          | s i => rfl
          | n o => exact (nn o rfl).elim
        rw [e1'] at q
        simp only [e2] at q
        cases e3 : opd fk r1 with
        | ex x r' => rw [e3] at q; exact PostX.from q ex1.noT
        | st => rw [e3] at q; exact q
        | ok p2 r2 =>
          rw [e3] at q
          simp only at q
          intro v2 H2 F2 Af2 T2 ex2 R2 rp2
          have ex12 := ex1.noT.trans ex2.noT
          refine ⟨r2, F2, Af2, R2, ?_⟩
          cases e4 : frz fx r2 with
          | ex x r' => rw [e4] at q; exact PostX.from q ex12
          | st => rw [e4] at q; exact q
          | ok xd r3 =>
            rw [e4] at q
            simp only at q
            intro v3 H3 F3 Af3 ex3 R3 rp3
            have ex13 := ex12.trans ex3
            cases e5 : deref r3 p with
            | none => rw [e5] at q; exact q.elim
            | some d =>
              cases e6 : deref r3 p2 with
              | none => rw [e5, e6] at q; exact q.elim
              | some k =>
                rw [e5, e6] at q
                simp only at q
                have rd1 := (PlL.one rp1 nn (ex2.ff.trans ex3.ff)).rd1 R3 e5
                have rd2 := (PlL.one rp2 (opd_nn e3) ex3.ff).rd1 R3 e6
                cases e7 : gDGet d k with
                | none => rw [e7] at q; exact q.elim
                | some o =>
                  rw [e7] at q
                  obtain ⟨a', ov, ea, g, z⟩ := dget_v rd1 rd2 e7
                  cases ea
                  rcases z with ⟨rfl, rfl⟩ | ⟨v, rr, rfl, rfl, rv⟩
                  · exact ⟨none, g, q v3 H3 F3 Af3 (fun _ => False) (extF ex13) R3 ⟨rp3, fun _ => id⟩⟩
                  · exact ⟨some v, g, q v H3 F3 Af3 (fun _ => False) (extF ex13) R3 ⟨rv, fun _ => id⟩⟩⟩⟩
/-! ### texts -/
def gUpper : D → Option Pl
  | .str x => if x.length ≤ 5592405 then some (.v (.str (Txt.upper x))) else none
  | _ => none
theorem de_upper (hline : (apos.endLine == cpos.line) = true := by rfl) (ho : DE X P E o fd) (hbase : attributeBase o "upper" X.env (eval o X.env) = eval o X.env := by rfl) : DE X P E (.Call (.Attribute o "upper" apos) [] [] cpos) (mUn gUpper fd) :=
  ⟨PE.wk (pe_bm0 PySem.F.plainAttrs_str PySem.F.slot_str_upper PySem.F.type_str_upper mt_upper ho.opd.pe hbase hline) fun σ H Q ⟨r, F, Af, R, q⟩ => ⟨r, F, Af, R, by
    unfold mUn at q
    cases e1 : opd fd r with
    | ex x r' => rw [e1] at q; exact q
    | st => rw [e1] at q; exact q
    | ok p r1 =>
      rw [e1] at q
      simp only at q
      intro v1 H1 F1 Af1 T1 ex1 R1 rp1
      cases e2 : deref r1 p with
      | none => rw [e2] at q; exact q.elim
      | some d =>
        rw [e2] at q
        simp only at q
        have rd := PlRep.rd R1 rp1 e2
        cases d with
        | str x =>
          simp only [gUpper] at q
          by_cases hl : x.length ≤ 5592405
          · rw [if_pos hl] at q
            rw [show v1 = .str x from rd]
            exact ⟨rfl, x, rfl, rfl, hl, q _ H1 F1 Af1 (fun _ => False) (extF ex1.noT) R1 ⟨.str _, fun _ => id⟩⟩
          · rw [if_neg hl] at q; exact q.elim
        | _ => exact q.elim⟩⟩
/-! ### names of the module -/
theorem de_glob {x : Str} {v : V} {u : Value} {d : D} {pos : Pos} (hg : Gl X x) (hm : X.mg x = some u) (r : L2.RelV v u) (hd : ∀ K F, Rep K F v d) (hdb : (x == ("__debug__" : Str)) = false := by decide) : DE X P E (.Name x pos) (eC d) := de_c (pe_glob hg hm r hdb) hd
/-- in, not in a written tuple of texts -/
def gInK (neg : Bool) (cs : List Str) : D → Option Pl
  | .str z => some (.v (.bl (if neg = true then !(cs.any fun c => c == z) else cs.any fun c => c == z)))
  | _ => none
theorem de_inK {x : Str} {a : Addr} {cs : List Str} {p pos : Pos} {neg : Bool} {op : CmpOp} (hop : OpR X (compareOp op) (rIn X.K neg)) (hg : Gl X x) (hm : X.mg x = some (.ref a)) (hs : SqT X.K (fun _ => none) a (cs.map V.str)) (ho : DE X P E o fd) (hmk : behindInMarks op (.Name x p) = false := by rfl)
    (hdb : (x == ("__debug__" : Str)) = false := by decide) : DE X P E (.Compare o [op] [.Name x p] pos) (mUn (gInK neg cs) fd) :=
  ⟨PE.wk (pe_cmpR hop ho.opd.pe (pe_glob (v := .ref a) hg hm rfl hdb) hmk) fun σ H Q ⟨r, F, Af, R, q⟩ => ⟨r, F, Af, R, by
    unfold mUn at q
    cases e1 : opd fd r with
    | ex x r' => rw [e1] at q; exact q
    | st => rw [e1] at q; exact q
    | ok p r1 =>
      rw [e1] at q
      simp only at q
      intro v1 H1 F1 Af1 T1 ex1 R1 rp1
      cases e2 : deref r1 p with
      | none => rw [e2] at q; exact q.elim
      | some d =>
        rw [e2] at q
        simp only at q
        have rd := PlRep.rd R1 rp1 e2
        cases d with
        | str z =>
          simp only [gInK] at q
          rw [show v1 = .str z from rd]
          have hq : SqT X.K H1 a (cs.map V.str) := by
            rcases hs with (h | ⟨_, h⟩) | h
            · cases h
            · cases h
            · exact .inr h
          refine ⟨a, _, rfl, .inr hq, rfl, ?_, ?_⟩
          · rw [List.all_map]
            exact List.all_eq_true.mpr fun c _ => rfl
          · have e3 : inV (.str z) (cs.map V.str) = cs.any fun c => c == z := by
              unfold inV
              rw [List.any_map]
              rfl
            rw [e3]
            exact q _ H1 F1 Af1 (fun _ => False) (extF ex1.noT) R1 ⟨.bl _, fun _ => id⟩
        | _ => exact q.elim⟩⟩
theorem nn_inK {neg : Bool} {cs : List Str} {r r' : En} {ob : O} (h : mUn (gInK neg cs) fd r = .ok (.n ob) r') : False := by
  unfold mUn at h
  split at h
  · split at h
    · split at h
      · rename_i z hz
        cases h
        unfold gInK at hz
        split at hz <;> cases hz
      · cases h
    · cases h
  · cases h
  · cases h
theorem dt_inK {x : Str} {a : Addr} {cs : List Str} {p pos : Pos} {neg : Bool} {op : CmpOp} (hop : OpR X (compareOp op) (rIn X.K neg)) (hg : Gl X x) (hm : X.mg x = some (.ref a)) (hs : SqT X.K (fun _ => none) a (cs.map V.str)) (ho : DE X P E o fd) (hmk : behindInMarks op (.Name x p) = false := by rfl)
    (hdb : (x == ("__debug__" : Str)) = false := by decide) : DT X P E (.Compare o [op] [.Name x p] pos) (tst (mUn (gInK neg cs) fd)) :=
  ⟨PT.wk (pt_cmpR hop ho.opd.pe (pe_glob (v := .ref a) hg hm rfl hdb) hmk) fun σ H Q ⟨r, F, Af, R, q⟩ => ⟨r, F, Af, R, by
    have q2 : Post X.K X.mg P E σ H F Af (opd (mUn (gInK neg cs) fd) r) fun x H1 => ∃ k, x = V.bl k ∧ Q k H1 := by
      obtain ⟨r', F', Af', R', _⟩ := tst_t (X := X) (P := P) (E := E) σ H Q ⟨r, F, Af, R, q⟩
      unfold tst at q
      cases e1 : opd (mUn (gInK neg cs) fd) r with
      | ex x r' => rw [e1] at q; exact q
      | st => rw [e1] at q; exact q
      | ok p r1 =>
        rw [e1] at q
        simp only at q
        intro v1 H1 F1 Af1 T1 ex1 R1 rp1
        cases e3 : deref r1 p with
        | none => rw [e3] at q; exact q.elim
        | some d =>
          rw [e3] at q
          cases d with
          | bl b => exact ⟨b, PlRep.rd R1 rp1 e3, q H1 F1 Af1 ex1.noT R1⟩
          | _ => exact q.elim
    unfold opd at q2
    unfold mUn at q2
    cases e1 : opd fd r with
    | ex x r' => rw [e1] at q2; exact q2
    | st => rw [e1] at q2; exact q2
    | ok p r1 =>
      rw [e1] at q2
      simp only at q2
      intro v1 H1 F1 Af1 T1 ex1 R1 rp1
      cases e2 : deref r1 p with
      | none => rw [e2] at q2; exact q2.elim
      | some d =>
        rw [e2] at q2
        simp only at q2
        have rd := PlRep.rd R1 rp1 e2
        cases d with
        | str z =>
          simp only [gInK] at q2
          rw [show v1 = .str z from rd]
          have hq : SqT X.K H1 a (cs.map V.str) := by
            rcases hs with (h | ⟨_, h⟩) | h
            · cases h
            · cases h
            · exact .inr h
          refine ⟨a, _, rfl, .inr hq, rfl, ?_, ?_⟩
          · rw [List.all_map]
            exact List.all_eq_true.mpr fun c _ => rfl
          · have e3 : inV (.str z) (cs.map V.str) = cs.any fun c => c == z := by
              unfold inV
              rw [List.any_map]
              rfl
            rw [e3]
            exact q2 _ H1 F1 Af1 (fun _ => False) (extF ex1.noT) R1 ⟨.bl _, fun _ => id⟩
        | _ => exact q2.elim⟩⟩
end
/-! ### is, is not -/
def rIsA (neg : Bool) : R2 := fun x y H Q => (y = .non ∧ Q (.bl (xor neg (decide (x = .non)))) H) ∨ ∃ a b, x = .bl a ∧ y = .bl b ∧ Q (.bl (xor neg (decide (a = b)))) H
theorem op_isA {X : Cx} : OpR X (compareOp .Is) (rIsA false) := fun pins s σ H x y v u Q I rx ry q => by
  simp only [rIsA, Bool.false_xor] at q
  exact q.elim (fun q => op_isN pins s σ H x y v u Q I rx ry q) fun q => op_is_bl pins s σ H x y v u Q I rx ry q
theorem op_isNotA {X : Cx} : OpR X (compareOp .IsNot) (rIsA true) := fun pins s σ H x y v u Q I rx ry q => by
  simp only [rIsA, Bool.true_xor] at q
  exact q.elim (fun q => op_notN pins s σ H x y v u Q I rx ry q) fun q => op_isnot_bl pins s σ H x y v u Q I rx ry q
def isNonD : D → Bool
  | .non => true
  | _ => false
def gIsX : D → D → Option Bool
  | .bl a, .bl b => some (decide (a = b))
  | d, .non => some (isNonD d)
  | _, _ => none
theorem RdF.isNon {K : PySem.W.Frag} {H F : Hp} {v : V} {d : D} (h : RdF K H F v d) : decide (v = .non) = isNonD d := by
  cases d with
  | non => rw [show v = .non from h]; rfl
  | bl b => rw [show v = .bl b from h]; rfl
  | int i => rw [show v = .int i from h]; rfl
  | str x => rw [show v = .str x from h]; rfl
  | tup l => obtain ⟨a, xs, rfl, _⟩ := h; rfl
  | lst l => obtain ⟨a, xs, rfl, _⟩ := h; rfl
  | dK l => obtain ⟨a, xs, rfl, _⟩ := h; rfl
  | dT l => obtain ⟨a, xs, rfl, _⟩ := h; rfl
  | scr l => obtain ⟨a, rfl, _⟩ := h; rfl
theorem sp_isX {K : PySem.W.Frag} (neg : Bool) : CmpSpec K (rIsA neg) (fun d e => match gIsX d e with
  | some b => some (xor neg b)
  | none => none) := fun H F x y d e b Q k h1 h2 hb q => by
  simp only at hb
  unfold gIsX at hb
  split at hb
  · rename_i c hc
    simp only [Option.some.injEq] at hb
    split at hc
    · cases hc
      subst hb
      exact .inr ⟨_, _, h1, h2, q⟩
    · simp only [Option.some.injEq] at hc
      subst hb hc
      refine .inl ⟨h2, ?_⟩
      rw [h1.isNon]
      exact q
    · cases hc
  · cases hb
def gIs0 (neg : Bool) : D → D → Option Bool := fun d e => match gIsX d e with
  | some b => some (xor neg b)
  | none => none
theorem sp_is0 {K : PySem.W.Frag} (neg : Bool) : CmpSpec K (rIsA neg) (gIs0 neg) := sp_isX neg
end NT

set_option Elab.async false
set_option linter.all false
set_option maxRecDepth 100000
set_option maxHeartbeats 1000000
namespace NT
open PySem PySem.Spec PyProof.Rows L2

/-! ### dict comprehensions, keys ints or texts -/
def compD (vs : List Nat) (g : D → M Unit) (tt : M Bool) (tk tv : M D) : List D → List (Key × D) → En → R (List (Key × D))
  | [], acc, r => .ok acc r
  | d :: ds, acc, r => match g d r with
    | .ok _ r1 => match tt r1 with
      | .ok b r2 => if b = true then (match tk r2 with
        | .ok kd r3 => match tv r3 with
          | .ok x r4 => match keyK kd with
            | some k => if acc.length < sizeLine then compD vs g tt tk tv ds (putD acc k x) (wipeE r4 vs) else .st
            | none => .st
          | _ => .st
        | _ => .st) else compD vs g tt tk tv ds acc (wipeE r2 vs)
      | _ => .st
    | _ => .st
def mDComp (vs : List Nat) (it : M (List D)) (g : D → M Unit) (tt : M Bool) (tk tv : M D) : M Pl := fun r => match it r with
  | .ok ds r0 => match compD vs g tt tk tv ds [] (wipeE r0 vs) with
    | .ok kvs r1 => .ok (.n (.dK kvs)) (restE r0 r1 vs)
    | _ => .st
  | .ex x r1 => .ex x r1
  | .st => .st
section
variable {X : Cx} {P : List V} {E : XK} {kx vx tg iter : Expr} {ifs : List Expr} {scope : Scope} {own : List (Str × Nat)} {pos : Pos} {it : M (List D)} {g : D → M Unit} {tt : M Bool} {tk tv : M D}
theorem de_dcomp (hc : X.calm = true) (hN : X.N.Nodup) (hP : ∀ v ∈ own.map (·.2), P.length ≤ v) (hi : DI X P E tg iter it) (ok : BlkOk X.N X.env.scope scope own)
    (hg : ∀ (s : Shared) (H : Hp) (C : Addr) (cl : List (Str × Addr)) (fp : List Addr), DG (X.blk s H scope (compEnvC scope cl C X.env) fp) P (fun _ _ _ => False) (own.map (·.2)) tg g) (ht : ∀ (s : Shared) (H : Hp) (C : Addr) (cl : List (Str × Addr)) (fp : List Addr), DP (X.blk s H scope (compEnvC scope cl C X.env) fp) P (fun _ _ _ => False) ifs tt)
    (hk : ∀ (s : Shared) (H : Hp) (C : Addr) (cl : List (Str × Addr)) (fp : List Addr), DF (X.blk s H scope (compEnvC scope cl C X.env) fp) P (fun _ _ _ => False) kx tk)
    (he : ∀ (s : Shared) (H : Hp) (C : Addr) (cl : List (Str × Addr)) (fp : List Addr), DF (X.blk s H scope (compEnvC scope cl C X.env) fp) P (fun _ _ _ => False) vx tv) (hs : ∀ x, foldedSetIterable iter X.env x = pure x := by intro _; rfl) :
    DE X P E (.DictComp kx vx [⟨tg, iter, ifs, 0⟩] scope pos) (mDComp (own.map (·.2)) it g tt tk tv) := by
  refine ⟨PE.wk (pe_dc (g := tG X.K X.mg P (fun _ _ _ => False) (own.map (·.2)) g) (tt := tT X.K X.mg P (fun _ _ _ => False) tt) (tk := tF X.K X.mg P (fun _ _ _ => False) tk) (tv := tF X.K X.mg P (fun _ _ _ => False) tv) hc hN hi.pi ok (fun s H C cl fp => (hg s H C cl fp).pg) (fun s H C cl fp => (ht s H C cl fp).pts) (fun s H C cl fp => (hk s H C cl fp).pe) (fun s H C cl fp => (he s H C cl fp).pe) hs) fun σ H0 Q ⟨r, F0, Af0, R0, q⟩ => ⟨r, F0, Af0, R0, ?_⟩⟩
  unfold mDComp at q
  generalize own.map (·.2) = vs at hP q ⊢
  cases e0 : it r with
  | ex x r1 => rw [e0] at q; exact q
  | st => rw [e0] at q; exact q
  | ok ds r1 =>
    rw [e0] at q
    simp only at q
    intro J G0 H1 F1 Af1 ex1 R1 hd1 io D hD
    cases e1 : compD vs g tt tk tv ds [] (wipeE r1 vs) with
    | ex x r2 => rw [e1] at q; exact q.elim
    | st => rw [e1] at q; exact q.elim
    | ok xs re =>
      rw [e1] at q
      simp only at q
      have Rw := R1.wipe hP
      have nD : ¬ U (wA Af1 vs) D := fun z => (R1.own (U_wA z)).1 hD
      have fD : F1 D = none := keep_none R1.keep hD
      refine ⟨fun i m H => m + i = ds.length ∧ Same G0 H ∧ ∃ r F Af accV acc, Rel X.K P r (wipe σ vs) H F Af ∧ Ext H1 F1 (U (wA Af1 vs)) H F (U Af) ∧ ¬ U Af D ∧ F D = none ∧ H D = some (.dK accV) ∧ accV.map (·.1) = acc.map (·.1) ∧ RepL X.K F (accV.map (·.2)) (acc.map (·.2)) ∧ compD vs g tt tk tv (ds.drop i) acc r = .ok xs re,
        ⟨ds.length, by omega, fun a o e => by rw [upd_ne (ne_of_none (hd1.1 a o e) hD)]; exact hd1.1 a o e, wipeE r1 vs, F1, wA Af1 vs, [], [], Rw.beside fD nD, ⟨fun a o e n => by rw [upd_ne (ne_of_none e hD)]; exact e, fun a e => ?_, Same.refl _, fun _ e => .inl e, fun _ e => .inl e⟩, nD, fD, upd_same, rfl, .nil, e1⟩, ?_⟩
      · by_cases ha : a = D
        · rw [ha, upd_same] at e; cases e
        · rw [upd_ne ha] at e; exact e
      rintro i m H ⟨em, sg, r, F, Af, accV, acc, R, ex, nA, fA, hA, kA, rA, ec⟩
      obtain ⟨i1, i2⟩ := io H F ex.ff sg R.keep i
      have nG : ∀ a, G0 a ≠ none → ¬ U Af a := fun a n z => (ex.own a z).elim (fun z => hd1.2 a n (U_wA z)) fun z => by
        cases g : G0 a with
        | none => exact n g
        | some o => have := hd1.1 a o g; rw [z] at this; cases this
      by_cases hi : i < ds.length
      · obtain ⟨g1, g2⟩ := i2 ds[i] (List.getElem?_eq_getElem hi)
        rw [List.drop_eq_getElem_cons hi] at ec
        unfold compD at ec
        cases c1 : g ds[i] r with
        | ex x r2 => rw [c1] at ec; cases ec
        | st => rw [c1] at ec; cases ec
        | ok u r2 =>
          rw [c1] at ec
          simp only at ec
          cases c2 : tt r2 with
          | ex x r3 => rw [c2] at ec; cases ec
          | st => rw [c2] at ec; cases ec
          | ok b r3 =>
            rw [c2] at ec
            simp only at ec
            refine .inr ⟨g1, fun H' => Same G0 H' ∧ ∃ r F Af accV acc, Rel X.K P r (wipe σ vs) H' F Af ∧ Ext H1 F1 (U (wA Af1 vs)) H' F (U Af) ∧ ¬ U Af D ∧ F D = none ∧ H' D = some (.dK accV) ∧ accV.map (·.1) = acc.map (·.1) ∧ RepL X.K F (accV.map (·.2)) (acc.map (·.2)) ∧ compD vs g tt tk tv (ds.drop (i + 1)) acc r = .ok xs re, fun H' w => ⟨m - 1, by omega, by omega, w⟩, fun x H' y => ?_⟩
            refine turn_test R (g2 x H' y) c1 c2 fun σ2 H2 F2 Af2 hw ex2 R2 => ?_
            have nA2 : ¬ U Af2 D := fun z => (ex2.own D z).elim nA fun z => by rw [hA] at z; cases z
            have fA2 : F2 D = none := (ex2.new D fA).elim id fun z => z.elim (fun z => by rcases z with z | ⟨_, z⟩ <;> (rw [hA] at z; cases z)) fun z => (nA z).elim
            have hA2 : H2 D = some (.dK accV) := ex2.fr D _ hA nA
            cases b with
            | false =>
              rw [if_neg Bool.false_ne_true] at ec ⊢
              have R3 := R2.wipe hP
              rw [hw] at R3
              exact ⟨(Held.ext ⟨sg, nG⟩ ex2).1, wipeE r3 vs, F2, wA Af2 vs, accV, acc, R3, (ex.trans ex2).less fun _ z => U_wA z, fun z => nA2 (U_wA z), fA2, hA2, kA, rA.mono ex2.ff, ec⟩
            | true =>
              rw [if_pos rfl] at ec ⊢
              cases c3 : tk r3 with
              | ex x r4 => rw [c3] at ec; cases ec
              | st => rw [c3] at ec; cases ec
              | ok kd r4 =>
                rw [c3] at ec
                simp only at ec
                refine ⟨r3, F2, Af2, R2, ?_⟩
                rw [c3]
                intro kv H3 F3 Af3 ex3 R3 rp3
                cases c4 : tv r4 with
                | ex x r5 => rw [c4] at ec; cases ec
                | st => rw [c4] at ec; cases ec
                | ok xd r5 =>
                  rw [c4] at ec
                  simp only at ec
                  refine ⟨r4, F3, Af3, R3, ?_⟩
                  rw [c4]
                  intro v H4 F4 Af4 ex4 R4 rp4
                  cases c5 : keyK kd with
                  | none => rw [c5] at ec; cases ec
                  | some k =>
                    rw [c5] at ec
                    simp only at ec
                    by_cases hl : ¬ acc.length < sizeLine
                    · rw [if_neg hl] at ec; cases ec
                    have hl := Decidable.not_not.mp hl
                    rw [if_pos hl] at ec
                    have ex34 := ex3.trans ex4
                    have nA4 : ¬ U Af4 D := fun z => (ex34.own D z).elim nA2 fun z => by rw [hA2] at z; cases z
                    have fA4 : F4 D = none := (ex34.new D fA2).elim id fun z => z.elim (fun z => by rcases z with z | ⟨_, z⟩ <;> (rw [hA2] at z; cases z)) fun z => (nA2 z).elim
                    have hA4 : H4 D = some (.dK accV) := ex34.fr D _ hA2 nA2
                    have R5 := R4.wipe hP
                    rw [hw] at R5
                    have exf := (ex.trans ex2).trans ex34
                    obtain ⟨n1, n2⟩ := put_rep k rp4 kA (rA.mono (ex2.ff.trans ex34.ff))
                    refine ⟨accV, k, keyK_r rp3 c5, hA4, by rw [len_map1 kA]; exact hl, fun a o e => by rw [upd_ne (ne_of_none (hd1.1 a o e) hD)]; exact (Held.ext ⟨sg, nG⟩ (ex2.trans ex34)).1 a o e, wipeE r5 vs, F4, wA Af4 vs, putK accV k v, putD acc k xd, R5.beside fA4 fun z => nA4 (U_wA z), ⟨fun a o e n => ?_, fun a e => ?_, exf.ff, exf.new, fun a z => exf.own a (U_wA z)⟩, fun z => nA4 (U_wA z), fA4, upd_same, n1, n2, ec⟩
                    · rw [upd_ne (ne_of_none e hD)]; exact exf.fr a o e n
                    · by_cases ha : a = D
                      · rw [ha, upd_same] at e; cases e
                      · rw [upd_ne ha] at e; exact exf.dom a e
      · rw [List.drop_of_length_le (by omega)] at ec
        unfold compD at ec
        cases ec
        refine .inl ⟨i1 (by omega) (by omega), q (.ref D) H F _ (fun a => a = D) ?_ (R1.rest R ex) ⟨⟨D, accV, rfl, rfl, hA, fA, kA, rA⟩, fun a ha ⟨j, z⟩ => ?_⟩⟩
        · have e2 := rest_ext ex hD
          exact ⟨fun a o e n => (ex1.trans e2).fr a o e n, (ex1.trans e2).dom, (ex1.trans e2).ff, (ex1.trans e2).new, (ex1.trans e2).own⟩
        · subst ha
          by_cases hj : j ∈ vs
          · simp only [if_pos hj] at z; exact (R1.own ⟨j, z⟩).1 hD
          · simp only [if_neg hj] at z; exact nA ⟨j, z⟩
end

/-! ### walks over a dict's keys: the dict is locked meanwhile -/
/-- an expression that gives what stands fast: pk tells it of the row -/
structure PK (X : Cx) (P : List V) (e : Expr) (pk : En → Option D) : Prop where
  ex : ∃ te : TE, PE X e te ∧ ∀ r F Af σ H d, Rel X.K P r σ H F Af → pk r = some d → ∃ v, Rep X.K F v d ∧ ∀ H', Keep F H' → ∀ Q : VK, Q v H' → te σ H' Q
def kV0 (i : Nat) : En → Option D := fun r => match r[i]? with
  | some (.fz d) => some d
  | _ => none
def kIx (pk : En → Option D) (n : Int) : En → Option D := fun r => match pk r with
  | some (.tup l) => L2.atI l n
  | _ => none
theorem pk_v {X : Cx} {P : List V} {i : Nat} {x : Str} {pos : Pos} (hN : X.N[i]? = some x) (hv : Vis X.env.scope x) (hd : (x == ("__debug__" : Str)) = false := by decide) (hcd : (x == ("__classdict__" : Str)) = false := by decide) : PK X P (.Name x pos) (kV0 i) :=
  ⟨_, pe_var hN hv hd hcd, fun r F Af σ H d R e => by
    unfold kV0 at e
    split at e
    · rename_i d' es
      cases e
      obtain ⟨⟨v, e1, rp⟩, _⟩ := R.slot i _ es
      exact ⟨v, rp, fun H' _ Q q => ⟨v, e1, q⟩⟩
    · cases e⟩
theorem pk_ix {X : Cx} {P : List V} {e : Expr} {pk : En → Option D} {n : Int} {j : Nat} {pos pos' : Pos} (h : PK X P e pk) : PK X P (.Subscript e (.Constant (.int n) j pos') pos) (kIx pk n) := by
  obtain ⟨te, hp, ht⟩ := h.ex
  refine ⟨_, pe_ix ix_tup hp pe_int (fun _ _ => rfl), fun r F Af σ H d R e => ?_⟩
  unfold kIx at e
  split at e
  · rename_i l hl
    obtain ⟨v, rp, k⟩ := ht r F Af σ H _ R hl
    cases rp with
    | @tup a xs ds ha ra =>
      obtain ⟨w, e1, e2⟩ := ra.atI e
      exact ⟨w, e2, fun H' hk Q q => k H' hk _ ⟨a, xs, n, w, rfl, rfl, .inl (.inl (hk.tup ha)), e1, q⟩⟩
  · cases e
theorem PE.or {X : Cx} {e : Expr} {t t' : TE} (h : PE X e t) (h' : PE X e t') : PE X e (fun σ H Q => t σ H Q ∨ t' σ H Q) := ⟨fun pins s σ H Q I q => q.elim (h.run pins s σ H Q I) (h'.run pins s σ H Q I)⟩
theorem PS.or {X : Cx} {e : Stmt} {t t' : TS} (h : PS X e t) (h' : PS X e t') : PS X e (fun Z σ H => t Z σ H ∨ t' Z σ H) := ⟨fun pins s σ H Q I q => q.elim (h.run pins s σ H Q I) (h'.run pins s σ H Q I)⟩
def tupD (k : List Key) : D := .tup (k.map keyD)
def keysD : D → Option (List D)
  | .dK l => some (l.map fun kv => keyD kv.1)
  | .dT l => some (l.map fun kv => tupD kv.1)
  | _ => none
def mKeys (pk : En → Option D) : M (List D) := fun r => match pk r with
  | some d => match keysD d with
    | some ds => .ok ds r
    | none => .st
  | none => .st
end NT

set_option Elab.async false
set_option linter.all false
set_option maxRecDepth 100000
set_option maxHeartbeats 1000000
namespace NT
open PySem PySem.Spec PyProof.Rows L2

section
variable {X : Cx} {P : List V} {E : XK} {elt tg iter : Expr} {ifs : List Expr} {scope : Scope} {own : List (Str × Nat)} {pos spos py : Pos} {it : M (List D)} {g : D → M Unit} {tt : M Bool} {te : M D} {y : Str} {i : Nat}
/-- name = [..], the name a local of the def -/
theorem ds_setComp (hc : X.calm = true) (hN : X.N.Nodup) (hy : X.N[i]? = some y) (hyl : X.env.scope.names.lookup y = some .local) (hPi : P.length ≤ i) (hsw : swapsWith (.ListComp elt [⟨tg, iter, ifs, 0⟩] scope pos) (some (.Name y py)) spos.line X.env = pure true)
    (hP : ∀ v ∈ own.map (·.2), P.length ≤ v) (hi : DI X P E tg iter it) (ok : BlkOk X.N X.env.scope scope own)
    (hg : ∀ (s : Shared) (H : Hp) (C : Addr) (cl : List (Str × Addr)) (fp : List Addr), DG (X.blk s H scope (compEnvC scope cl C X.env) fp) P (fun _ _ _ => False) (own.map (·.2)) tg g) (ht : ∀ (s : Shared) (H : Hp) (C : Addr) (cl : List (Str × Addr)) (fp : List Addr), DP (X.blk s H scope (compEnvC scope cl C X.env) fp) P (fun _ _ _ => False) ifs tt)
    (he : ∀ (s : Shared) (H : Hp) (C : Addr) (cl : List (Str × Addr)) (fp : List Addr), DF (X.blk s H scope (compEnvC scope cl C X.env) fp) P (fun _ _ _ => False) elt te) (hs : ∀ x, foldedSetIterable iter X.env x = pure x := by intro _; rfl) :
    DS X P E (.Assign [.Name y py] (.ListComp elt [⟨tg, iter, ifs, 0⟩] scope pos) spos) (sSet i (mComp (own.map (·.2)) it g tt te)) :=
  ⟨PS.wk (ps_setLc (own := own) (g := tG X.K X.mg P (fun _ _ _ => False) (own.map (fun x : Str × Nat => x.2)) g) (tt := tT X.K X.mg P (fun _ _ _ => False) tt) (te := tF X.K X.mg P (fun _ _ _ => False) te) hc hN hy hyl hsw hi.pi ok (fun s H C cl fp => (hg s H C cl fp).pg) (fun s H C cl fp => (ht s H C cl fp).pts) (fun s H C cl fp => (he s H C cl fp).pe) hs)
    fun Z σ H q => comp_t hP σ H _ (set_t hPi Z σ H q)⟩
end

/-! ### the lock -/
theorem keep_lock {F H : Hp} {a : Addr} {u : HO} {od : Obj} (k : Keep F H) (hl : lk u) (h : H a = some u) : Keep F (upd H a (.frz od u)) := fun b w e => by
  by_cases hb : b = a
  · subst hb
    rcases k b w e with z | ⟨_, o, z⟩
    · rw [h] at z; cases z
      exact .inr ⟨hl, od, upd_same⟩
    · rw [h] at z; cases z; exact hl.elim
  · rw [upd_ne hb]; exact k b w e
theorem Rel.lock {K : PySem.W.Frag} {P : List V} {r : En} {σ : L2.St} {H F : Hp} {Af : Nat → Fp} {a : Addr} {u : HO} {od : Obj} (R : Rel K P r σ H F Af) (hl : lk u) (h : H a = some u) (hF : F a ≠ none) : Rel K P r σ (upd H a (.frz od u)) F Af :=
  ⟨R.len, keep_lock R.keep hl h, R.par, fun i s e => (R.slot i s e).mono (Same.refl _) fun b w t hw => by
    have z := (R.own (a := b) ⟨i, t⟩).2
    have ne : b ≠ a := fun q => hF (q ▸ z)
    rw [upd_ne ne]; exact ⟨hw, z⟩, R.out, R.dis⟩
theorem keep_unlock {F H : Hp} {a : Addr} {u : HO} {od : Obj} (k : Keep F H) (hl : lk u) (h : H a = some (.frz od u)) (hF : ∀ w, F a = some w → w = u) : Keep F (upd H a u) := fun b w e => by
  by_cases hb : b = a
  · subst hb
    rw [hF w e]
    exact .inl upd_same
  · rw [upd_ne hb]; exact k b w e
theorem Rel.unlock {K : PySem.W.Frag} {P : List V} {r : En} {σ : L2.St} {H F : Hp} {Af : Nat → Fp} {a : Addr} {u : HO} {od : Obj} (R : Rel K P r σ H F Af) (hl : lk u) (h : H a = some (.frz od u)) (hF : F a = some u) : Rel K P r σ (upd H a u) F Af :=
  ⟨R.len, keep_unlock R.keep hl h fun w e => by rw [hF] at e; cases e; rfl, R.par, fun i s e => (R.slot i s e).mono (Same.refl _) fun b w t hw => by
    have z := (R.own (a := b) ⟨i, t⟩).2
    have ne : b ≠ a := fun q => by rw [q, hF] at z; cases z
    rw [upd_ne ne]; exact ⟨hw, z⟩, R.out, R.dis⟩
/-- what was done under the lock, seen from outside -/
theorem Ext.under {H F H' F' : Hp} {A A' : Fp} {a : Addr} {u : HO} {od : Obj} (h : H a = some u) (hA : ¬ A a) (e : Ext (upd H a (.frz od u)) F A H' F' A') : H' a = some (.frz od u) ∧ Ext H F A (upd H' a u) F' A' := by
  have ne : ∀ b, H b = none → b ≠ a := fun b z q => by rw [q, h] at z; cases z
  refine ⟨e.fr a _ upd_same hA, ⟨fun b o q n => ?_, fun b q => ?_, e.ff, fun b q => ?_, fun b q => ?_⟩⟩
  · by_cases hb : b = a
    · subst hb; rw [h] at q; cases q; exact upd_same
    · rw [upd_ne hb]
      exact e.fr b o (by rw [upd_ne hb]; exact q) n
  · by_cases hb : b = a
    · rw [hb, upd_same] at q; cases q
    · rw [upd_ne hb] at q
      have z := e.dom b q
      rwa [upd_ne hb] at z
  · rcases e.new b q with z | z | z
    · exact .inl z
    · by_cases hb : b = a
      · subst hb
        rcases z with z | ⟨_, z⟩ <;> rw [upd_same] at z <;> cases z
      · rcases z with z | ⟨xs, z⟩ <;> rw [upd_ne hb] at z
        · exact .inr (.inl (.inl z))
        · exact .inr (.inl (.inr ⟨xs, z⟩))
    · exact .inr (.inr z)
  · rcases e.own b q with z | z
    · exact .inl z
    · by_cases hb : b = a
      · rw [hb, upd_same] at z; cases z
      · rw [upd_ne hb] at z; exact .inr z
theorem Post.lock {K : PySem.W.Frag} {mg : Str → Option Value} {P : List V} {E : XK} {σ : L2.St} {H F : Hp} {Af : Nat → Fp} {r : R Pl} {Q : VK} {a : Addr} {u : HO} {od : Obj} (hl : lk u) (h : H a = some u) (hF : F a = some u) (hA : ¬ U Af a) (hx : ∀ x r', r ≠ .ex x r') (q : Post K mg P E σ H F Af r Q) :
    Post K mg P E σ (upd H a (.frz od u)) F Af r fun v H' => H' a = some (.frz od u) ∧ Q v (upd H' a u) := by
  cases r with
  | st => exact q
  | ex x r' => exact (hx x r' rfl).elim
  | ok p r' =>
    intro v H' F' Af' T e R rp
    obtain ⟨z, e2⟩ := e.under h hA
    have hF' := e.ff _ _ hF
    refine ⟨z, q v _ F' Af' T e2 (R.unlock hl z hF') ?_⟩
    cases p with
    | v d => exact rp
    | s i => exact rp
    | n o =>
      refine ⟨rp.1.mono (Same.refl _) fun b w t hw => ?_, rp.2⟩
      have zz := (rp.1.at t).2.1
      have ne : b ≠ a := fun q => by rw [q, hF'] at zz; cases zz
      rw [upd_ne ne]; exact ⟨hw, zz⟩
theorem OutV.tupKey {K : PySem.W.Frag} {H F : Hp} {q : Addr} {k : List Key} (kp : Keep F H) (h : H q = some (.tup (k.map kV))) : OutV K H F (tupD k) (.ref q) H := by
  by_cases hq : F q = none
  · refine ⟨upd F q (.tup (k.map kV)), ⟨Same.refl _, same_new hq, fun b w e => ?_, fun b e => ?_⟩, .tup upd_same ?_⟩
    · by_cases hb : b = q
      · subst hb; rw [upd_same] at e; cases e; exact .inl h
      · rw [upd_ne hb] at e; exact kp b w e
    · by_cases hb : b = q
      · subst hb; exact .inr (.inr ⟨_, h⟩)
      · rw [upd_ne hb]; exact .inl e
    · have gen : ∀ (ks : List Key) (F : Hp), RepL K F (ks.map kV) (ks.map keyD) := fun ks F => by
        induction ks with
        | nil => exact .nil
        | cons k ks ih =>
          refine .cons ?_ ih
          cases k with
          | inl i => exact .int i
          | inr x => exact .str x
      exact gen k _
  · cases e : F q with
    | none => exact (hq e).elim
    | some w =>
      have hw : w = .tup (k.map kV) := by
        rcases kp q w e with z | ⟨hl, o, z⟩
        · rw [h] at z; cases z; rfl
        · rw [h] at z; cases z
      subst hw
      have gen : ∀ (ks : List Key) (F : Hp), RepL K F (ks.map kV) (ks.map keyD) := fun ks F => by
        induction ks with
        | nil => exact .nil
        | cons k ks ih =>
          refine .cons ?_ ih
          cases k with
          | inl i => exact .int i
          | inr x => exact .str x
      exact ⟨F, Grow.refl kp, .tup e (gen k F)⟩
theorem keyD_rep {K : PySem.W.Frag} {F : Hp} (k : Key) : Rep K F (kV k) (keyD k) := by
  cases k with
  | inl i => exact .int i
  | inr x => exact .str x
theorem ItOk.keysK {K : PySem.W.Frag} {F : Hp} {d : Addr} {o : Obj} {kvs : List (Key × V)} {l : List (Key × D)} (e : kvs.map (·.1) = l.map (·.1)) : ItOk K (Itk d o kvs) F (fun b => if b = d then some (.frz o (.dK kvs)) else none) (l.map fun kv => keyD kv.1) := fun H F' s sg k i => by
  have hd : H d = some (.frz o (.dK kvs)) := sg d _ (if_pos rfl)
  have hl := len_map1 e
  refine ⟨fun hi _ => ⟨hd, by rw [hl]; simpa using hi⟩, fun x hx => ?_⟩
  rw [List.getElem?_map] at hx
  cases e1 : l[i]? with
  | none => rw [e1] at hx; cases hx
  | some kv =>
    rw [e1] at hx
    cases hx
    have hi : i < l.length := (List.getElem?_eq_some_iff.mp e1).1
    refine ⟨⟨hd, by omega⟩, fun v H' ⟨hH, k', w, e2, hv⟩ => ?_⟩
    subst hH hv
    have e3 : (kvs.map (·.1))[i]? = (l.map (·.1))[i]? := by rw [e]
    rw [List.getElem?_map, List.getElem?_map, e1, e2] at e3
    simp only [Option.map_some, Option.some.injEq] at e3
    rw [e3]
    exact ⟨F', Grow.refl k, keyD_rep _⟩
theorem ItOk.keysT {K : PySem.W.Frag} {F : Hp} {d : Addr} {o : Obj} {kvs : List (List Key × V)} {l : List (List Key × D)} (e : kvs.map (·.1) = l.map (·.1)) : ItOk K (Itkt d o kvs) F (fun b => if b = d then some (.frz o (.dT kvs)) else none) (l.map fun kv => tupD kv.1) := fun H F' s sg k i => by
  have hd : H d = some (.frz o (.dT kvs)) := sg d _ (if_pos rfl)
  have hl := len_map1 e
  refine ⟨fun hi _ => ⟨hd, by rw [hl]; simpa using hi⟩, fun x hx => ?_⟩
  rw [List.getElem?_map] at hx
  cases e1 : l[i]? with
  | none => rw [e1] at hx; cases hx
  | some kv =>
    rw [e1] at hx
    cases hx
    have hi : i < l.length := (List.getElem?_eq_some_iff.mp e1).1
    refine ⟨⟨hd, by omega⟩, fun v H' ⟨hH, k', w, q, e2, hv, hq⟩ => ?_⟩
    subst hH hv
    have e3 : (kvs.map (·.1))[i]? = (l.map (·.1))[i]? := by rw [e]
    rw [List.getElem?_map, List.getElem?_map, e1, e2] at e3
    simp only [Option.map_some, Option.some.injEq] at e3
    show OutV K H' F' (tupD kv.1) (.ref q) H'
    rw [← e3]
    exact OutV.tupKey k hq
theorem held_one {H : Hp} {A : Fp} {d : Addr} {u : HO} (h : H d = some u) (n : ¬ A d) : Held (fun b => if b = d then some u else none) H A := by
  refine ⟨fun a o e => ?_, fun a e => ?_⟩
  · by_cases ha : a = d
    · subst ha; simp only [if_pos] at e; cases e; exact h
    · simp only [if_neg ha] at e; cases e
  · by_cases ha : a = d
    · subst ha; exact n
    · exact (e (if_neg ha)).elim
theorem mCompA_nx {vs : List Nat} {g : D → M Unit} {tt : M Bool} {te : M D} {ds : List D} {r : En} : ∀ x r', mCompA vs g tt te ds r ≠ .ex x r' := fun x r' h => by
  unfold mCompA at h
  split at h
  · split at h <;> cases h
  · cases h
/-- a comprehension over a dict's keys -/
theorem compK_t {K : PySem.W.Frag} {mg : Str → Option Value} {P : List V} {E : XK} {vs : List Nat} {pk : En → Option D} {g : D → M Unit} {tt : M Bool} {te : M D} {t0 : TE} (hP : ∀ v ∈ vs, P.length ≤ v)
    (h0 : ∀ r F Af σ H d, Rel K P r σ H F Af → pk r = some d → ∃ v, Rep K F v d ∧ ∀ H', Keep F H' → ∀ Q : VK, Q v H' → t0 σ H' Q) (σ : L2.St) (H : Hp) (Q : VK) (h : tE K mg P E (mComp vs (mKeys pk) g tt te) σ H Q) :
    tLockE (tLc (iKeys t0) (tG K mg P (fun _ _ _ => False) vs g) (tT K mg P (fun _ _ _ => False) tt) (tF K mg P (fun _ _ _ => False) te) vs) σ H Q ∨ tLc (iKeys t0) (tG K mg P (fun _ _ _ => False) vs g) (tT K mg P (fun _ _ _ => False) tt) (tF K mg P (fun _ _ _ => False) te) vs σ H Q := by
  obtain ⟨r, F, Af, R, q⟩ := h
  unfold mComp mKeys at q
  cases e0 : pk r with
  | none => rw [e0] at q; exact q.elim
  | some d =>
    rw [e0] at q
    simp only at q
    obtain ⟨v, rp, kq⟩ := h0 r F Af σ H d R e0
    cases rp with
    | @dK a kvs l ha hk hr =>
      simp only [keysD] at q
      have na : ¬ U Af a := fun z => by have := (R.own z).2; rw [ha] at this; cases this
      rcases R.keep _ _ ha with z | ⟨_, o, z⟩
      · refine .inl ⟨a, .dK kvs, z, True.intro, fun od => ?_⟩
        have R' := R.lock (od := od) (u := .dK kvs) True.intro z (by rw [ha]; simp)
        refine kq _ R'.keep _ ⟨a, od, rfl, .inl ⟨kvs, upd_same, ?_⟩⟩
        exact comp_in hP R' (held_one upd_same na) (ItOk.keysK hk) (Post.lock (u := .dK kvs) True.intro z ha na mCompA_nx q)
      · exact .inr (kq H R.keep _ ⟨a, o, rfl, .inl ⟨kvs, z, comp_in hP R (held_one z na) (ItOk.keysK hk) q⟩⟩)
    | @dT a kvs l ha hk hr =>
      simp only [keysD] at q
      have na : ¬ U Af a := fun z => by have := (R.own z).2; rw [ha] at this; cases this
      rcases R.keep _ _ ha with z | ⟨_, o, z⟩
      · refine .inl ⟨a, .dT kvs, z, True.intro, fun od => ?_⟩
        have R' := R.lock (od := od) (u := .dT kvs) True.intro z (by rw [ha]; simp)
        refine kq _ R'.keep _ ⟨a, od, rfl, .inr ⟨kvs, upd_same, ?_⟩⟩
        exact comp_in hP R' (held_one upd_same na) (ItOk.keysT hk) (Post.lock (u := .dT kvs) True.intro z ha na mCompA_nx q)
      · exact .inr (kq H R.keep _ ⟨a, o, rfl, .inr ⟨kvs, z, comp_in hP R (held_one z na) (ItOk.keysT hk) q⟩⟩)
    | _ => exact q.elim
section
variable {X : Cx} {P : List V} {E : XK} {elt tg iter : Expr} {ifs : List Expr} {scope : Scope} {own : List (Str × Nat)} {pos : Pos} {pk : En → Option D} {g : D → M Unit} {tt : M Bool} {te : M D}
theorem de_compK (hc : X.calm = true) (hN : X.N.Nodup) (hP : ∀ v ∈ own.map (·.2), P.length ≤ v) (hi : PK X P iter pk) (ok : BlkOk X.N X.env.scope scope own)
    (hg : ∀ (s : Shared) (H : Hp) (C : Addr) (cl : List (Str × Addr)) (fp : List Addr), DG (X.blk s H scope (compEnvC scope cl C X.env) fp) P (fun _ _ _ => False) (own.map (·.2)) tg g) (ht : ∀ (s : Shared) (H : Hp) (C : Addr) (cl : List (Str × Addr)) (fp : List Addr), DP (X.blk s H scope (compEnvC scope cl C X.env) fp) P (fun _ _ _ => False) ifs tt)
    (he : ∀ (s : Shared) (H : Hp) (C : Addr) (cl : List (Str × Addr)) (fp : List Addr), DF (X.blk s H scope (compEnvC scope cl C X.env) fp) P (fun _ _ _ => False) elt te) (hs : ∀ x, foldedSetIterable iter X.env x = pure x := by intro _; rfl) :
    DE X P E (.ListComp elt [⟨tg, iter, ifs, 0⟩] scope pos) (mComp (own.map (·.2)) (mKeys pk) g tt te) := by
  obtain ⟨t0, hp, h0⟩ := hi.ex
  have base := pe_lc (pos := pos) (g := tG X.K X.mg P (fun _ _ _ => False) (own.map (·.2)) g) (tt := tT X.K X.mg P (fun _ _ _ => False) tt) (te := tF X.K X.mg P (fun _ _ _ => False) te) hc hN (pi_keys (tg := tg) hp) ok (fun s H C cl fp => (hg s H C cl fp).pg) (fun s H C cl fp => (ht s H C cl fp).pts) (fun s H C cl fp => (he s H C cl fp).pe) hs
  exact ⟨PE.wk (PE.or (pe_lock base) base) (compK_t hP h0)⟩
end
end NT

set_option Elab.async false
set_option linter.all false
set_option maxRecDepth 100000
set_option maxHeartbeats 1000000
namespace NT
open PySem PySem.Spec PyProof.Rows L2

/-! ### the text's defs as they stand behind the top -/
/-- the module's name x is a def of the parameters ps that answers as m, at most k deep -/
structure Cal (P : Program) (w : World) (K : PySem.W.Frag) (mg : Str → Option Value) (base : Heap) (k : Nat) (x : Str) (ps : List Str) (nio : Nat) (m : Fn) : Prop where
  ex : ∃ f fd, mg x = some (.ref f) ∧ PySem.W.keepIn K (.ref f) = true ∧ Binds K fd ps [] ∧ FnOk P w K mg base (L2.CX P w) k f fd ps (spOf K mg ps.length nio m)
/-- .. what the head tells of it -/
structure Def (K : PySem.W.Frag) (mg : Str → Option Value) (x : Str) (st : Stmt) (ps : List Str) : Prop where
  ex : ∃ f fd, mg x = some (.ref f) ∧ Fun K x x st f fd ∧ Binds K fd ps []
section
variable {P : Program} {w : World} {K : PySem.W.Frag} {mg : Str → Option Value} {base : Heap} {k nio : Nat} {x : Str} {ps : List Str} {m : Fn}
theorem Cal.mono {j : Nat} (c : Cal P w K mg base j x ps nio m) (h : j ≤ k) : Cal P w K mg base k x ps nio m := by
  obtain ⟨f, fd, a, b, d, F⟩ := c.ex
  exact ⟨f, fd, a, b, d, F.mono h⟩
/-- a def that is never asked -/
theorem Cal.zero {st : Stmt} (d : Def K mg x st ps) : Cal P w K mg base k x ps nio (fun _ => .st) := by
  obtain ⟨f, fd, a, F, b⟩ := d.ex
  exact ⟨f, fd, a, F.kp, b, ⟨fun vs H Q E h => h.1, fun A outer s H args us vs Q E hr e0 hb r hs => by obtain ⟨_, _, _, _, _, z⟩ := hs; exact z.elim⟩⟩
theorem start_eq (N : List Str) (vs : List V) (n : Nat) (h : vs.length = n) : ∃ τ : L2.St, start N vs = vs.map some ++ τ ∧ τ.length = N.length - n := ⟨_, rfl, by rw [List.length_replicate, h]⟩
theorem cal_ok {st : Stmt} {N : List Str} {b : En → RS} (d : Def K mg x st ps) (S : FnScope N ps (defScope st)) (hio : nio ≤ ps.length)
    (hbody : ∀ (f : Addr) (cdv : Value) (A : Around) (outer : List Env) (s : Shared) (H : Hp) (P' : List V) (E : XK), Room k (A.deeper (envOfC x (defScope st) s.heap.objs.size f cdv)) → (∀ i, nio ≤ i → P'.length ≤ i) → DB (cxOf (L2.CX P w) P w K mg base N x (defScope st) f cdv A outer s H E) P' E (defBody st) b) :
    Cal P w K mg base (k + 1) x ps nio (fnOf (N.length - ps.length) nio b) := by
  obtain ⟨f, fd, a, F, bd⟩ := d.ex
  exact ⟨f, fd, a, F.kp, bd, fn_ok F S hio (fun cdv A outer s H P' E hr hP => hbody f cdv A outer s H P' E hr fun i hi => by omega) fun vs hl => start_eq N vs _ hl⟩
theorem passD {N : List Str} {qual : Str} {scope : Scope} {f : Addr} {cd : Value} {A : Around} {outer : List Env} {s : Shared} {H : Hp} {E : XK} : Passes (L2.CX P w) (cxOf (L2.CX P w) P w K mg base N qual scope f cd A outer s H E) E := passes_call (takes_of rfl rfl rfl rfl) fun _ _ _ _ h => h
theorem ownD {N : List Str} {qual : Str} {scope : Scope} {f : Addr} {cd : Value} {A : Around} {outer : List Env} {s : Shared} {H : Hp} {E : XK} : PassesOwn (model P w) (cxOf (L2.CX P w) P w K mg base N qual scope f cd A outer s H E).A (cxOf (L2.CX P w) P w K mg base N qual scope f cd A outer s H E).env (cxOf (L2.CX P w) P w K mg base N qual scope f cd A outer s H E).xe := passes_of rfl
end
theorem ownP {P : List V} {nio : Nat} (h : ∀ i, nio ≤ i → P.length ≤ i) {vs : List Nat} (hv : (vs.all fun v => decide (nio ≤ v)) = true) : ∀ v ∈ vs, P.length ≤ v := fun v hm => h v (of_decide_eq_true (List.all_eq_true.mp hv v hm))
section
variable {X : Cx} {P : List V} {E : XK} {e : Expr} {es : List Expr} {f : M (List D)} {ios : List Nat} {pos p : Pos} {x : Str} {k : Nat} {ps : List Str} {m : Fn}
theorem de_callC (c : Cal X.prog X.w X.K X.mg X.base k x ps ios.length m) (hps : ps.length = (e :: es).length) (hr : Room k X.A) (hg : Gl X x) (hx : Passes (L2.CX X.prog X.w) X E) (nd : ios.Nodup) (ha : DC X P E ios (e :: es) f)
    (hdb : (x == ("__debug__" : Str)) = false := by decide) (he : starEach (e :: es) X.env = (false, eval e X.env) :: starEach es X.env := by rfl) (hpl : (backTo pos (starEach es X.env)).any (·.1) = false := by rfl) :
    DE X P E (.Call (.Name x p) (e :: es) [] pos) (mApp ios m f) := by
  obtain ⟨g, fd, h1, h2, h3, h4⟩ := c.ex
  rw [hps] at h4
  exact de_call h4 hr hg h1 h2 h3 hx nd ha hdb he hpl
theorem de_callC0 (c : Cal X.prog X.w X.K X.mg X.base k x [] 0 m) (hr : Room k X.A) (hg : Gl X x) (hx : Passes (L2.CX X.prog X.w) X E) (hdb : (x == ("__debug__" : Str)) = false := by decide) : DE X P E (.Call (.Name x p) [] [] pos) (mApp [] m lNil) := by
  obtain ⟨g, fd, h1, h2, h3, h4⟩ := c.ex
  exact de_call0 h4 hr hg h1 h2 h3 hx hdb
theorem units_of {A : Around} {k : Nat} (hr : Room k A) : A.units + 70 < cLine := by have := hr.un; omega
theorem units64 {A : Around} {k : Nat} (hr : Room k A) : A.units + 64 < cLine := by have := hr.un; omega
theorem units66 {A : Around} {k : Nat} (hr : Room k A) : A.units + 66 < cLine := by have := hr.un; omega
end
end NT

set_option Elab.async false
set_option linter.all false
set_option maxRecDepth 100000
set_option maxHeartbeats 1000000
namespace NT
open PySem PySem.Spec PyProof.Rows L2 PySem.Froz

/-! ### sorted(set(texts)) -/
/-- the set's payload holds the texts l and may be walked -/
structure TxW (P : Program) (w : World) (D : SD) (l : List Str) : Prop where
  tx : TxOk P w D l
  ri : Ris D.2.2.place.toList
  ld : w.params.followText "set-order" = true ∨ D.2.2.led = true
  nd : l.Nodup
  few : l.length < 64
def SetS (P : Program) (w : World) (h : Heap) (a : Addr) (l : List Str) : Prop := ∃ D : SD, h.get? a = some (sObj "set" D) ∧ TxW P w D l
section
variable {P : Program} {w : World} {A : Around} {E : Value → Shared → Prop} {s : Shared}
theorem tail_rl {ep : Nat} {es : Array (Int × Value)} {t : SetTable} {b : Bool} (r : Ris t.place.toList) : Ris (tailTx ep es t b).2.2.place.toList ∧ (tailTx ep es t b).2.2.led = t.led := by
  unfold tailTx
  split
  · exact ⟨relayAll_ris t es _, relayAll_led t es _⟩
  · exact ⟨r, rfl⟩
theorem TxW.add {D : SD} {l : List Str} {x : Str} (u : Tok) (T : TxW P w D l) (hx : x ∉ l) (h : l.length + 1 < 64) : TxW P w (addTx (hashStr w x) (.str x u) D) (x :: l) := by
  have q1 := layNew_ris D.2.2 D.1 (hashStr w x) (.str x u) T.ri
  have q2 := layNew_led D.2.2 D.1 (hashStr w x) (.str x u)
  have z : Ris (addTx (hashStr w x) (.str x u) D).2.2.place.toList ∧ (addTx (hashStr w x) (.str x u) D).2.2.led = D.2.2.led := by
    unfold addTx
    split
    · obtain ⟨a, b⟩ := tail_rl (ep := D.2.1) (es := (layNew D.2.2 D.1 (hashStr w x) (.str x u)).1) (t := { (layNew D.2.2 D.1 (hashStr w x) (.str x u)).2.1 with plain := false }) (b := (layNew D.2.2 D.1 (hashStr w x) (.str x u)).2.2.1) q1
      exact ⟨a, b.trans q2⟩
    · obtain ⟨a, b⟩ := tail_rl (ep := D.2.1) (es := (layNew D.2.2 D.1 (hashStr w x) (.str x u)).1) (b := (layNew D.2.2 D.1 (hashStr w x) (.str x u)).2.2.1) q1
      exact ⟨a, b.trans q2⟩
  exact ⟨add_ok u T.tx, z.1, T.ld.imp id fun e => z.2.trans e, List.nodup_cons.mpr ⟨hx, T.nd⟩, h⟩
/-- an add of a text that is in -/
theorem add_in {a : Addr} {D : SD} {l : List Str} {x : Str} {u : Tok} {Q : Bool → Shared → Prop} (ho : s.heap.get? a = some (sObj "set" D)) (F : TxOk P w D l) (hx : x ∈ l) (hb : l.length < scanBound) (h : Q false s) :
    wpAny (model P w) A (setAddHashed a (.str x u) (hashStr w x)) Q E s := by
  obtain ⟨es, ep, t⟩ := D
  have f := F.fit
  have el := F.el
  have sz : es.size < scanBound := Nat.lt_of_le_of_lt (Nat.le_of_eq F.sz) hb
  unfold setAddHashed setAddHashedIn
  refine wpAny_holding (wpAny_bind (wpAny_setState_of ho rfl f ?_))
  dsimp only
  rw [byScan_of rfl sz el, if_pos rfl]
  unfold setAddByScan
  refine wpAny_bind (wpAny_bind (wpAny_rule ?_))
  refine wpAny_bind (wpAny_setScan_of (knd := strKind P w) (k := x) (is_str x u) ho rfl f el ?_)
  cases e : List.findIdx? (fun e => (strKind P w).is x e.2) es.toList with
  | some j => exact wpAny_pure (wpAny_pure h)
  | none =>
    obtain ⟨p, hp, q⟩ := (F.mem x).mp hx
    exact absurd q (by rw [List.findIdx?_eq_none_iff.mp e p hp]; exact Bool.false_ne_true)
theorem SetS.same {h h' : Heap} {a : Addr} {l : List Str} (x : SetS P w h a l) (k : ∀ o, h.get? a = some o → h'.get? a = some o) : SetS P w h' a l := let ⟨D, e, t⟩ := x; ⟨D, k _ e, t⟩
end
section
variable {P : Program} {w : World} {A : Around} {R : Result → Shared → Prop} {I : Addr} {fp wr : List Addr} {G : Array GenState → Array GenState → Prop} {n : Nat} {Pv : Nat → Value → Prop} {St : Nat → Shared → Prop}
/-- what stands in the set behind i of the texts -/
def Met (xs : List Str) (i : Nat) (l : List Str) : Prop := l.length ≤ i ∧ ∀ x, x ∈ l ↔ x ∈ xs.take i
theorem met_next {xs l : List Str} {i : Nat} (m : Met xs i l) (h : i < xs.length) : (xs.getD i Str.empty ∈ l → Met xs (i + 1) l) ∧ Met xs (i + 1) (xs.getD i Str.empty :: l) := by
  have e : xs.getD i Str.empty = xs[i] := by simp [h]
  have t : ∀ x, x ∈ xs.take (i + 1) ↔ x ∈ l ∨ x = xs[i] := fun x => by
    rw [List.take_succ, List.getElem?_eq_getElem h, List.mem_append, ← m.2 x]; simp
  rw [e]
  exact ⟨fun hm => ⟨Nat.le_succ_of_le m.1, fun x => by rw [t]; exact ⟨.inl, fun z => z.elim id fun z => z ▸ hm⟩⟩, by have := m.1; simp; omega, fun x => by rw [t, List.mem_cons]; exact Or.comm⟩
theorem up_loop (W : WalksS P w A.in1 I fp wr G n Pv St) (S : Addr) (nS : S ∉ fp) (xs : List Str) (hn : xs.length = n) (few : n < 64) (hv : ∀ i v, Pv i v → ∃ t, v = .str (xs.getD i Str.empty) t) :
    ∀ (k i : Nat) (s : Shared) (l : List Str), n - i = k → i ≤ n → St i s → SetS P w s.heap S l → Met xs i l → (∀ s' l', Moved (S :: wr) G s s' → SetS P w s'.heap S l' → Met xs n l' → R (.ok (.ret .none)) s') →
      codeAny (model P w) A (.builtin "set.update.loop" ⟨[.ref S, .ref I], []⟩) R s := by
  have nw : S ∉ wr := fun z => nS (W.sub _ z)
  have sub : ∀ b ∈ wr, b ∈ S :: wr := fun b => List.mem_cons_of_mem _
  intro k
  induction k with
  | zero =>
    intro i s l hk hi hst hS hm hR
    obtain rfl : i = n := by omega
    refine codeAny_builtin PyProof.Rows.F.entry_set_update_loop ?_
    rw [Around.under_plainId PyProof.Rows.F.plain_set_update_loop _]
    exact wpAny_bind (W.done s _ _ hst fun s' mv => wpAny_pure (hR s' l (mv.mono sub) (hS.same fun o e => mv.heap S o nw e) hm))
  | succ k ih =>
    intro i s l hk hi hst hS hm hR
    have lt : i < n := by omega
    refine codeAny_builtin PyProof.Rows.F.entry_set_update_loop ?_
    rw [Around.under_plainId PyProof.Rows.F.plain_set_update_loop _]
    refine wpAny_bind (W.item i s _ _ lt hst fun v s1 hp st1 mv => ?_)
    obtain ⟨t, rfl⟩ := hv i v hp
    obtain ⟨D, o1, T⟩ := hS.same fun o e => mv.heap S o nw e
    obtain ⟨m1, m2⟩ := met_next hm (hn ▸ lt)
    show wpAny _ A.in1 (holding [Value.str (xs.getD i Str.empty) t] (setAdd S (.str (xs.getD i Str.empty) t)) >>= _) _ _ s1
    refine wpAny_bind (wpAny_holding ?_)
    unfold setAdd
    refine wpAny_holding (wpAny_bind ((strKind P w).pyHash (k := xs.getD i Str.empty) (is_str _ t) ?_))
    have few1 : l.length + 1 < 64 := by have := hm.1; omega
    have sb : l.length + 1 < scanBound := by unfold scanBound; omega
    by_cases c : xs.getD i Str.empty ∈ l
    · refine add_in (s := { s1 with toks := s1.toks + 1 }) o1 T.tx c (by omega) ?_
      refine wpAny_pure ⟨plainId_quiet PyProof.Rows.F.plain_set_update_loop _, ih (i + 1) _ l (by omega) lt (W.frame _ s1 _ _ st1 (Nat.le_succ _) fun b hb o e => e) ⟨D, o1, T⟩ (m1 c) fun s2 l2 mv2 q1 q2 => ?_⟩
      exact hR s2 l2 (Moved.trans W.gtrans ((mv.mono sub).then_heap (Nat.le_succ _) fun b o hb e => e) mv2) q1 q2
    · refine add_x (s := { s1 with toks := s1.toks + 1 }) o1 T.tx c sb ?_
      have old : ∀ b o, b ≠ S → s1.heap.get? b = some o → (s1.heap.update S (fun _ => sObj "set" (addTx (hashStr w (xs.getD i Str.empty)) (.str (xs.getD i Str.empty) t) D))).get? b = some o := fun b o hb e => (Heap.get?_update_other _ _ (Ne.symm hb)).trans e
      refine wpAny_pure ⟨plainId_quiet PyProof.Rows.F.plain_set_update_loop _, ih (i + 1) _ _ (by omega) lt (W.frame _ s1 _ _ st1 (Nat.le_succ _) fun b hb o e => old b o (fun z => nS (z ▸ hb)) e) ⟨_, get_upd _ o1 rfl, T.add t c few1⟩ m2 fun s2 l2 mv2 q1 q2 => ?_⟩
      exact hR s2 l2 (Moved.trans W.gtrans ((mv.mono sub).then_heap (Nat.le_succ _) fun b o hb e => old b o (fun z => hb (z ▸ List.mem_cons_self)) e) mv2) q1 q2
end
def newSet (w : World) : Obj := { cls := .type "set", dict := none, data := .set #[] 0 (.fresh 0 0 (!w.params.followText "set-order")) }
section
variable {P : Program} {w : World} {A : Around} {E : Value → Shared → Prop} {s : Shared}
set_option maxHeartbeats 3200000
theorem call_setL {l : Addr} {its : Array Value} {xs : List Str} {Q : Value → Shared → Prop} (hh : A.handled = none) (hl : s.heap.IsList l its) (hi : StrsAre its.toList xs) (few : xs.length < 64)
    (h : ∀ (h' : Heap) (tk : Nat) (m : List Str), SetS P w h' s.heap.objs.size m → Met xs xs.length m → (∀ b o, s.heap.get? b = some o → h'.get? b = some o) → Q (.ref s.heap.objs.size) { s with heap := h', toks := tk }) :
    wpAny (model P w) A (call (.type "set") [.ref l]) Q E s := by
  obtain ⟨c0, tl0, hmro⟩ := PySem.F.called_set.mro
  have hmade := PySem.F.called_set.made
  have hsub := PySem.F.called_set.sub
  refine wpAny_call (codeAny_of_tree ?_)
  show wpAny _ _ (callAny (.type "set") _) _ _ _
  refine wpAny_pure ⟨Code.quiet_builtin _ (by decide +kernel), codeAny_builtin PySem.F.entry_type_call ?_⟩
  rw [Around.under_plain (weight_type_call_type "set" [.ref l] []) rfl]
  have k1 := PySem.F.called_set.notType
  have k2 := PySem.F.called_set.canCreate
  have kct := PySem.F.typeCall_set_1 (.ref l)
  repeat (any_goals (first | assumption | wp_step))
  refine codeAny_mono (code_set_led1 (.ref l) (E := E) (Q₁ := fun obj s1 => obj = .ref s.heap.objs.size ∧ s1 = { s with heap := s.heap.push (newSet w) }) ⟨rfl, rfl⟩) fun r s1 hr => ?_
  cases r with
  | error e => exact hr
  | ok fl =>
    cases fl with
    | ret obj =>
      obtain ⟨rfl, rfl⟩ := hr
      have oS : (s.heap.push (newSet w)).get? s.heap.objs.size = some (newSet w) := Heap.get?_push_size _ rfl
      have tS : Shared.TypeIs { s with heap := s.heap.push (newSet w) } (.ref s.heap.objs.size) "set" := ⟨_, oS, rfl⟩
      have kli := PySem.F.called_set.init.lookup
      have kbi := PySem.F.called_set.init.bind (.ref s.heap.objs.size)
      repeat (any_goals (first | assumption | wp_step))
      refine codeAny_mono (codeAny_call_builtin (R := wants (fun r s2 => r = .none ∧ ∃ h' tk m, s2 = { s with heap := h', toks := tk } ∧ SetS P w h' s.heap.objs.size m ∧ Met xs xs.length m ∧
          (∀ b o, s.heap.get? b = some o → h'.get? b = some o)) E) PySem.F.called_set.init.plain PySem.F.entry_set_init (check_set_init_1 tS ?_)) fun r2 s2 hr2 => ?_
      · obtain ⟨ol, hol, hcl, nl, hdl⟩ := hl
        obtain ⟨ocls, odict, odata, oslots⟩ := ol
        simp only at hcl hdl
        subst hcl; subst hdl
        have hol' : (s.heap.push (newSet w)).get? l = some { cls := .type "list", dict := odict, data := .seq its nl, slots := oslots } := Heap.get?_push_of_some _ hol
        have ksl := PySem.F.sub_list_set
        have ksf := PySem.F.sub_list_frozenset
        have kne : (Value.type "list" == Value.type "dict") = false := by decide
        have hl1 : (s.heap.push (newSet w)).IsList l its := ⟨_, hol', rfl, nl, rfl⟩
        unfold Builtin.«set.__init__» noKeywords Builtin.Frozenset.updateFrom
        generalize hPI : pyIter = PI
        wp_walk
        subst hPI
        refine wpAny_pyIter_list hl1 ?_
        refine wpAny_bind (wpAny_runValue ?_)
        have lS : l < s.heap.objs.size := Heap.lt_size hol
        have h3 : A.in1.in1.in1.handled = none := by simp [hh]
        have nI : l ≠ (s.heap.push (newSet w)).objs.size := by rw [Heap.size_push]; exact Nat.ne_of_lt (Nat.lt_succ_of_lt lS)
        have nS : s.heap.objs.size ∉ [(s.heap.push (newSet w)).objs.size, l] := by
          rw [Heap.size_push]
          intro z
          rcases List.mem_cons.mp z with z | z
          · exact absurd z (Nat.ne_of_lt (Nat.lt_succ_self _))
          · exact absurd (List.mem_singleton.mp z) (Nat.ne_of_gt lS)
        have sz : xs.length = its.size := by rw [← StrsAre.len_eq hi, Array.length_toList]
        have val : ∀ (i : Nat) (v : Value), its[i]? = some v → ∃ t, v = .str (xs.getD i Str.empty) t := fun i v hv => SS.strs_at hi i v (by rw [Array.getElem?_toList]; exact hv)
        refine up_loop ((Walks.list h3 _ l nI its).toS) s.heap.objs.size nS xs sz (sz ▸ few) val (its.size - 0) 0 _ [] (by omega) (Nat.zero_le _) ⟨⟨_, Heap.get?_push_size _ rfl, rfl, rfl⟩, (hl1.push _)⟩ ?_ ⟨Nat.le_refl _, fun x => by simp⟩ ?_
        · exact ⟨(#[], 0, .fresh 0 0 (!w.params.followText "set-order")), Heap.get?_push_of_some _ oS, TxOk.nil rfl, List.Pairwise.nil, by
            show _ ∨ (!w.params.followText "set-order") = true
            cases w.params.followText "set-order"
            · exact .inr rfl
            · exact .inl rfl, List.nodup_nil, by decide⟩
        · intro s' m mv q1 q2
          obtain ⟨h', g', d', tk', os'⟩ := s'
          obtain rfl : g' = s.gens := mv.gens
          obtain rfl : d' = s.drawn := mv.drawn
          obtain rfl : os' = s.os := mv.os
          show wpAny _ _ _ _ _ _
          refine wpAny_pure ?_
          show wpAny _ _ (ret Value.none) _ _ _
          refine wpAny_pure ⟨rfl, h', tk', m, rfl, q1, sz ▸ q2, fun b o e => ?_⟩
          have lb := Heap.lt_size e
          refine mv.heap b o (fun z => ?_) (Heap.get?_push_of_some _ (Heap.get?_push_of_some _ e))
          rcases List.mem_cons.mp z with z | z
          · exact absurd z (Nat.ne_of_lt lb)
          · have z := List.mem_singleton.mp z
            rw [Heap.size_push] at z
            exact absurd (z ▸ lb) (Nat.not_lt.mpr (Nat.le_succ _))
      · cases r2 with
        | error e => exact hr2
        | ok f2 =>
          cases f2 with
          | ret r =>
            obtain ⟨rfl, h', tk, m, rfl, q1, q2, q3⟩ := hr2
            repeat (any_goals (first | assumption | wp_step))
            exact h _ _ _ q1 q2 q3
          | _ => exact hr2.elim
    | _ => exact hr.elim
theorem call_setT {l : Addr} {its : Array Value} {xs : List Str} {Q : Value → Shared → Prop} (hh : A.handled = none) (hl : s.heap.IsTuple l its) (hi : StrsAre its.toList xs) (few : xs.length < 64)
    (h : ∀ (h' : Heap) (tk : Nat) (m : List Str), SetS P w h' s.heap.objs.size m → Met xs xs.length m → (∀ b o, s.heap.get? b = some o → h'.get? b = some o) → Q (.ref s.heap.objs.size) { s with heap := h', toks := tk }) :
    wpAny (model P w) A (call (.type "set") [.ref l]) Q E s := by
  obtain ⟨c0, tl0, hmro⟩ := PySem.F.called_set.mro
  have hmade := PySem.F.called_set.made
  have hsub := PySem.F.called_set.sub
  refine wpAny_call (codeAny_of_tree ?_)
  show wpAny _ _ (callAny (.type "set") _) _ _ _
  refine wpAny_pure ⟨Code.quiet_builtin _ (by decide +kernel), codeAny_builtin PySem.F.entry_type_call ?_⟩
  rw [Around.under_plain (weight_type_call_type "set" [.ref l] []) rfl]
  have k1 := PySem.F.called_set.notType
  have k2 := PySem.F.called_set.canCreate
  have kct := PySem.F.typeCall_set_1 (.ref l)
  repeat (any_goals (first | assumption | wp_step))
  refine codeAny_mono (code_set_led1 (.ref l) (E := E) (Q₁ := fun obj s1 => obj = .ref s.heap.objs.size ∧ s1 = { s with heap := s.heap.push (newSet w) }) ⟨rfl, rfl⟩) fun r s1 hr => ?_
  cases r with
  | error e => exact hr
  | ok fl =>
    cases fl with
    | ret obj =>
      obtain ⟨rfl, rfl⟩ := hr
      have oS : (s.heap.push (newSet w)).get? s.heap.objs.size = some (newSet w) := Heap.get?_push_size _ rfl
      have tS : Shared.TypeIs { s with heap := s.heap.push (newSet w) } (.ref s.heap.objs.size) "set" := ⟨_, oS, rfl⟩
      have kli := PySem.F.called_set.init.lookup
      have kbi := PySem.F.called_set.init.bind (.ref s.heap.objs.size)
      repeat (any_goals (first | assumption | wp_step))
      refine codeAny_mono (codeAny_call_builtin (R := wants (fun r s2 => r = .none ∧ ∃ h' tk m, s2 = { s with heap := h', toks := tk } ∧ SetS P w h' s.heap.objs.size m ∧ Met xs xs.length m ∧
          (∀ b o, s.heap.get? b = some o → h'.get? b = some o)) E) PySem.F.called_set.init.plain PySem.F.entry_set_init (check_set_init_1 tS ?_)) fun r2 s2 hr2 => ?_
      · obtain ⟨ol, hol, hcl, nl, hdl⟩ := hl
        obtain ⟨ocls, odict, odata, oslots⟩ := ol
        simp only at hcl hdl
        subst hcl; subst hdl
        have hol' : (s.heap.push (newSet w)).get? l = some { cls := .type "tuple", dict := odict, data := .seq its nl, slots := oslots } := Heap.get?_push_of_some _ hol
        have ksl := PySem.F.sub_tuple_set
        have ksf := PySem.F.sub_tuple_frozenset
        have kne : (Value.type "tuple" == Value.type "dict") = false := by decide
        have hl1 : (s.heap.push (newSet w)).IsTuple l its := ⟨_, hol', rfl, nl, rfl⟩
        unfold Builtin.«set.__init__» noKeywords Builtin.Frozenset.updateFrom
        generalize hPI : pyIter = PI
        wp_walk
        subst hPI
        refine wpAny_pyIter_tuple hl1 ?_
        refine wpAny_bind (wpAny_runValue ?_)
        have lS : l < s.heap.objs.size := Heap.lt_size hol
        have h3 : A.in1.in1.in1.handled = none := by simp [hh]
        have nI : l ≠ (s.heap.push (newSet w)).objs.size := by rw [Heap.size_push]; exact Nat.ne_of_lt (Nat.lt_succ_of_lt lS)
        have nS : s.heap.objs.size ∉ [(s.heap.push (newSet w)).objs.size, l] := by
          rw [Heap.size_push]
          intro z
          rcases List.mem_cons.mp z with z | z
          · exact absurd z (Nat.ne_of_lt (Nat.lt_succ_self _))
          · exact absurd (List.mem_singleton.mp z) (Nat.ne_of_gt lS)
        have sz : xs.length = its.size := by rw [← StrsAre.len_eq hi, Array.length_toList]
        have val : ∀ (i : Nat) (v : Value), its[i]? = some v → ∃ t, v = .str (xs.getD i Str.empty) t := fun i v hv => SS.strs_at hi i v (by rw [Array.getElem?_toList]; exact hv)
        refine up_loop ((Walks.tuple h3 _ l nI its).toS) s.heap.objs.size nS xs sz (sz ▸ few) val (its.size - 0) 0 _ [] (by omega) (Nat.zero_le _) ⟨⟨_, Heap.get?_push_size _ rfl, rfl, rfl⟩, (hl1.push _)⟩ ?_ ⟨Nat.le_refl _, fun x => by simp⟩ ?_
        · exact ⟨(#[], 0, .fresh 0 0 (!w.params.followText "set-order")), Heap.get?_push_of_some _ oS, TxOk.nil rfl, List.Pairwise.nil, by
            show _ ∨ (!w.params.followText "set-order") = true
            cases w.params.followText "set-order"
            · exact .inr rfl
            · exact .inl rfl, List.nodup_nil, by decide⟩
        · intro s' m mv q1 q2
          obtain ⟨h', g', d', tk', os'⟩ := s'
          obtain rfl : g' = s.gens := mv.gens
          obtain rfl : d' = s.drawn := mv.drawn
          obtain rfl : os' = s.os := mv.os
          show wpAny _ _ _ _ _ _
          refine wpAny_pure ?_
          show wpAny _ _ (ret Value.none) _ _ _
          refine wpAny_pure ⟨rfl, h', tk', m, rfl, q1, sz ▸ q2, fun b o e => ?_⟩
          have lb := Heap.lt_size e
          refine mv.heap b o (fun z => ?_) (Heap.get?_push_of_some _ (Heap.get?_push_of_some _ e))
          rcases List.mem_cons.mp z with z | z
          · exact absurd z (Nat.ne_of_lt lb)
          · have z := List.mem_singleton.mp z
            rw [Heap.size_push] at z
            exact absurd (z ▸ lb) (Nat.not_lt.mpr (Nat.le_succ _))
      · cases r2 with
        | error e => exact hr2
        | ok f2 =>
          cases f2 with
          | ret r =>
            obtain ⟨rfl, h', tk, m, rfl, q1, q2, q3⟩ := hr2
            repeat (any_goals (first | assumption | wp_step))
            exact h _ _ _ q1 q2 q3
          | _ => exact hr2.elim
    | _ => exact hr.elim

theorem perm_sub {α : Type} [DecidableEq α] : ∀ {l m : List α}, l.Nodup → (∀ x ∈ l, x ∈ m) → m.length ≤ l.length → m.Perm l
  | [], m, _, _, h => by
    have e : m = [] := List.length_eq_zero_iff.mp (Nat.le_zero.mp h)
    rw [e]
  | x :: l, m, nd, h, hl => by
    obtain ⟨n1, n2⟩ := List.nodup_cons.mp nd
    have hx := h x List.mem_cons_self
    have p := List.perm_cons_erase hx
    refine p.trans (List.Perm.cons x (perm_sub n2 (fun y hy => ?_) ?_))
    · exact (List.mem_erase_of_ne (fun e => by subst e; exact n1 hy)).mpr (h y (List.mem_cons_of_mem _ hy))
    · rw [List.length_erase_of_mem hx]
      simp only [List.length_cons] at hl
      omega
theorem strs_map : ∀ (l : List Value), (∀ v ∈ l, ∃ x t, v = Value.str x t) → StrsAre l (l.map strOf)
  | [], _ => .nil
  | v :: l, h => by
    obtain ⟨x, t, rfl⟩ := h v List.mem_cons_self
    exact .cons x t (strs_map l fun u hu => h u (List.mem_cons_of_mem _ hu))
theorem sorted_setS {a : Addr} {l : List Str} {Q : Value → Shared → Prop} (R : SetS P w s.heap a l) (hh : A.handled = none)
    (hQ : ∀ s' p (out : Array Value) (c : Nat) (ns : List Str), (∀ b o, s.heap.get? b = some o → s'.heap.get? b = some o) → s'.gens = s.gens → s'.os = s.os → s.heap.objs.size ≤ p →
      s'.heap.get? p = some (seqObj "list" out c) → StrsAre out.toList ns → ns.Perm l → sortedS ns = true → Q (.ref p) s') : wpAny (model P w) A (call (.builtin "sorted") [.ref a]) Q E s := by
  obtain ⟨⟨es, ep, t⟩, ho, T⟩ := R
  have el := T.tx.el
  have few := T.few
  have szn : es.size = l.length := T.tx.sz
  have isS : ∀ v ∈ es.toList.map (·.2), ∃ x u, v = Value.str x u := fun v hv => by
    obtain ⟨e, he, rfl⟩ := List.mem_map.mp hv
    obtain ⟨⟨x, hx, _⟩, _⟩ := el e he
    exact ⟨x, Value.isStrOf_shape hx⟩
  refine Calls.call_function_entry kind_sorted plain_sorted entry_sorted (args_sorted1 _) ?_
  unfold Builtin.«sorted»
  refine wpAny_bind (m := checkCount "sorted" 1 1 _) (wpAny_pure ?_)
  refine wpAny_bind (collect_set (A := A.in1) hh ⟨_, ho, rfl, rfl⟩ T.tx.fit (by show es.size < scanBound; unfold scanBound; omega) T.ri T.ld fun s1 vs k1 hz g1 o1 pm => ?_)
  have lv : vs.length = l.length := by rw [pm.length_eq, List.length_map, Array.length_toList]; exact szn
  have hS := strs_map vs fun v hv => isS v (pm.mem_iff.mp hv)
  have pl : (vs.map strOf).Perm l := by
    refine perm_sub T.nd (fun x hx => ?_) (by rw [List.length_map]; omega)
    obtain ⟨e, he, q⟩ := (T.tx.mem x).mp hx
    obtain ⟨u, e2⟩ := Value.isStrOf_shape q
    exact List.mem_map.mpr ⟨e.2, pm.mem_iff.mpr (List.mem_map.mpr ⟨e, he, rfl⟩), by rw [e2]; rfl⟩
  refine wpAny_bind (wpAny_newList ?_ (by rw [lv, sizeLine_eq]; omega))
  have oL : (s1.heap.push (seqObj "list" vs.toArray 0)).get? s1.heap.objs.size = some (seqObj "list" vs.toArray 0) := Heap.get?_push_size _ rfl
  refine wpAny_bind (wpAny_holding (wpAny_call_entry slot_list_sort ⟨_, oL, rfl⟩ entry_list_sort (list_sort_treeKAny strKind_oneLt oL hS.keysOf (fun v1 v2 rest e => keyKind_strs (by rw [← e]; exact hS)) (by rw [lv, sizeLine_eq]; omega) fun st' hp hs => ⟨_, rfl, ?_⟩) (args_list_sort _)))
  obtain ⟨ns, n1, n2, n3⟩ := sorted_out_str hS hp hs
  obtain ⟨c, hc⟩ := sortedHeap_at (vs := vs) (out := (arrOf st').map (·.2)) oL
  refine wpAny_pure ⟨_, rfl, hQ _ s1.heap.objs.size _ c ns (fun b u e => ?_) g1 o1 hz hc n1 (n2.trans pl) n3⟩
  have q := k1 b u e
  have lt := Heap.lt_size q
  show (sortedHeap (s1.heap.push (seqObj "list" vs.toArray 0)) s1.heap.objs.size vs ((arrOf st').map (·.2))).get? b = some u
  rw [sortedHeap_old (Nat.ne_of_lt lt) (by rw [size_push']; exact Nat.lt_succ_of_lt lt)]
  exact Heap.get?_push_of_some _ q
end
end NT

set_option Elab.async false
set_option linter.all false
set_option maxRecDepth 100000
set_option maxHeartbeats 1000000
namespace NT
open PySem PySem.Spec PyProof.Rows L2 PySem.Froz

/-! ### rising texts -/
def ltS (a b : Str) : Bool := decide (a.cps.toList < b.cps.toList)
theorem ltS_irr (a : Str) : ltS a a = false := decide_eq_false (List.lt_irrefl _)
theorem ltS_tr {a b c : Str} (h : ltS a b = true) (k : ltS b c = true) : ltS a c = true := decide_eq_true (List.lt_trans (of_decide_eq_true h) (of_decide_eq_true k))
theorem ltS_or {a b : Str} (h : ltS a b = false) (k : ltS b a = false) : a = b := by
  have h1 : ¬ a.cps.toList < b.cps.toList := of_decide_eq_false h
  have h2 : ¬ b.cps.toList < a.cps.toList := of_decide_eq_false k
  exact PySem.W.str_of_cps (List.le_antisymm (List.not_lt.mp h2) (List.not_lt.mp h1))
def RisS (l : List Str) : Prop := l.Pairwise fun a b => ltS a b = true
def insS (x : Str) : List Str → List Str
  | [] => [x]
  | y :: r => if ltS x y then x :: y :: r else if ltS y x then y :: insS x r else y :: r
def setS : List Str → List Str
  | [] => []
  | x :: r => insS x (setS r)
theorem mem_insS {x z : Str} : ∀ {l : List Str}, z ∈ insS x l ↔ z = x ∨ z ∈ l
  | [] => by simp [insS]
  | y :: r => by
    unfold insS
    split
    · simp
    · split
      · rw [List.mem_cons, mem_insS, List.mem_cons]
        exact ⟨fun h => h.elim (fun e => .inr (.inl e)) fun h => h.elim .inl fun m => .inr (.inr m), fun h => h.elim (fun e => .inr (.inl e)) fun h => h.elim .inl fun m => .inr (.inr m)⟩
      · rename_i a b
        have e := ltS_or (Bool.eq_false_iff.mpr a) (Bool.eq_false_iff.mpr b)
        subst e
        simp
theorem ris_insS {x : Str} : ∀ {l : List Str}, RisS l → RisS (insS x l)
  | [], _ => List.pairwise_singleton _ _
  | y :: r, h => by
    obtain ⟨h1, h2⟩ := List.pairwise_cons.mp h
    unfold insS
    split
    · rename_i a
      refine List.pairwise_cons.mpr ⟨fun z hz => ?_, h⟩
      rcases List.mem_cons.mp hz with rfl | hz
      · exact a
      · exact ltS_tr a (h1 z hz)
    · split
      · rename_i b
        refine List.pairwise_cons.mpr ⟨fun z hz => ?_, ris_insS h2⟩
        rcases mem_insS.mp hz with rfl | hz
        · exact b
        · exact h1 z hz
      · exact h
theorem ris_setS : ∀ l : List Str, RisS (setS l)
  | [] => List.Pairwise.nil
  | _ :: r => ris_insS (ris_setS r)
theorem mem_setS {z : Str} : ∀ {l : List Str}, z ∈ setS l ↔ z ∈ l
  | [] => Iff.rfl
  | x :: r => by unfold setS; rw [mem_insS, mem_setS, List.mem_cons]
theorem ris_uniq : ∀ {l m : List Str}, RisS l → RisS m → (∀ x, x ∈ l ↔ x ∈ m) → l = m
  | [], [], _, _, _ => rfl
  | [], y :: m, _, _, h => by have := (h y).mpr List.mem_cons_self; simp at this
  | x :: l, [], _, _, h => by have := (h x).mp List.mem_cons_self; simp at this
  | x :: l, y :: m, a, b, h => by
    obtain ⟨a1, a2⟩ := List.pairwise_cons.mp a
    obtain ⟨b1, b2⟩ := List.pairwise_cons.mp b
    have e : x = y := by
      rcases List.mem_cons.mp ((h x).mp List.mem_cons_self) with e | e
      · exact e
      · rcases List.mem_cons.mp ((h y).mpr List.mem_cons_self) with e2 | e2
        · exact e2.symm
        · have q := ltS_tr (a1 y e2) (b1 x e)
          rw [ltS_irr] at q
          cases q
    subst e
    refine congrArg _ (ris_uniq a2 b2 fun z => ⟨fun hz => ?_, fun hz => ?_⟩)
    · rcases List.mem_cons.mp ((h z).mp (List.mem_cons_of_mem _ hz)) with e | e
      · have q := a1 z hz
        rw [e, ltS_irr] at q
        cases q
      · exact e
    · rcases List.mem_cons.mp ((h z).mpr (List.mem_cons_of_mem _ hz)) with e | e
      · have q := b1 z hz
        rw [e, ltS_irr] at q
        cases q
      · exact e
theorem setS_ris {l : List Str} (h : RisS l) : setS l = l := ris_uniq (ris_setS l) h fun _ => mem_setS
theorem risingS_pw : ∀ (l : List Str) (p : Str), risingS p l = true → (p :: l).Nodup → (p :: l).Pairwise fun a b => ltS a b = true
  | [], p, _, _ => List.pairwise_singleton _ _
  | x :: r, p, h, n => by
    unfold risingS at h
    simp only [Bool.and_eq_true, Bool.not_eq_true'] at h
    obtain ⟨h1, h2⟩ := h
    obtain ⟨n1, n2⟩ := List.nodup_cons.mp n
    have q := risingS_pw r x h2 n2
    have px : ltS p x = true := by
      cases e : ltS p x with
      | true => rfl
      | false =>
        have e2 : ltS x p = false := by
          rw [PyProof.Rows.ltCps_eq] at h1
          exact h1
        exact absurd (ltS_or e e2 ▸ List.mem_cons_self) n1
    refine List.pairwise_cons.mpr ⟨fun z hz => ?_, q⟩
    rcases List.mem_cons.mp hz with rfl | hz
    · exact px
    · exact ltS_tr px (List.rel_of_pairwise_cons q hz)
theorem sortedS_ris : ∀ {l : List Str}, sortedS l = true → l.Nodup → RisS l
  | [], _, _ => List.Pairwise.nil
  | x :: r, h, n => risingS_pw r x h n

/-! ### the rules -/
def SetSO (P : Program) (w : World) (a : Addr) (l : List Str) : HO := .ext fun h => SetS P w h a l
theorem setSO_new {P : Program} {w : World} {H : Hp} {h : Heap} {a : Addr} {l : List Str} (R : SetS P w h a l) : ObjOk P w H h a (SetSO P w a l) := by
  have ⟨D, ho, _⟩ := R
  exact ⟨R, ⟨_, ho⟩, fun h1 h2 p k => SetS.same p k⟩
section
variable {X : Cx}
def rSetS (K : PySem.W.Frag) (P : Program) (w : World) : List V → Hp → VK → Prop := fun vs H Q => ∃ (a : Addr) (xs : List Str), vs = [V.ref a] ∧ (SqL K H a (xs.map V.str) ∨ SqT K H a (xs.map V.str)) ∧ xs.length < 64 ∧
  ∀ b l, H b = none → Met xs xs.length l → Q (.ref b) (upd H b (SetSO P w b l))
theorem strs_vals : ∀ {xs : List Str} {us : List Value}, Vals (xs.map V.str) us → StrsAre us xs
  | [], _, .nil => .nil
  | x :: xs, _, .cons r t => by
    obtain ⟨tk, rfl⟩ := r
    exact .cons x tk (strs_vals t)
theorem vals_strs : ∀ {xs : List Str} {us : List Value}, StrsAre us xs → Vals (xs.map V.str) us
  | _, _, .nil => .nil
  | _, _, .cons x t h => .cons ⟨t, rfl⟩ (vals_strs h)
theorem cr_setS (hc : X.calm = true) : CallR X (.type "set") (rSetS X.K X.prog X.w) := by
  intro pins s σ H vs us Q I r h
  obtain ⟨a, xs, rfl, hs, few, q⟩ := h
  rw [Vals.ref1 r]
  have nn : H s.heap.objs.size = none := I.hok.fresh (Nat.le_refl _)
  rcases hs with hs | hs
  · obtain ⟨its, rv, hl, _⟩ := I.list hs
    refine call_setL (P := X.prog) (w := X.w) (xs := xs) (I.ok.hd hc) hl.isList (by simpa using strs_vals rv) few fun h' tk m q1 q2 k => ?_
    exact ⟨.ref s.heap.objs.size, upd H s.heap.objs.size (SetSO X.prog X.w s.heap.objs.size m), I.laid (t' := tk) k (Nat.le_refl _) (setSO_new q1), rfl, q _ m nn q2⟩
  · obtain ⟨its, rv, hl, _⟩ := I.tuple hs
    refine call_setT (P := X.prog) (w := X.w) (xs := xs) (I.ok.hd hc) hl (by simpa using strs_vals rv) few fun h' tk m q1 q2 k => ?_
    exact ⟨.ref s.heap.objs.size, upd H s.heap.objs.size (SetSO X.prog X.w s.heap.objs.size m), I.laid (t' := tk) k (Nat.le_refl _) (setSO_new q1), rfl, q _ m nn q2⟩
def rSortS (P : Program) (w : World) : List V → Hp → VK → Prop := fun vs H Q => ∃ (a : Addr) (xs l : List Str), vs = [V.ref a] ∧ H a = some (SetSO P w a l) ∧ Met xs xs.length l ∧
  ∀ p, H p = none → Q (.ref p) (upd H p (.lst ((setS xs).map V.str)))
theorem cr_sortS (hc : X.calm = true) : CallR X (.builtin "sorted") (rSortS X.prog X.w) := by
  intro pins s σ H vs us Q I r h
  obtain ⟨a, xs, l, rfl, ha, hm, q⟩ := h
  have R : SetS X.prog X.w s.heap a l := (I.hok a _ ha).1
  have nd : l.Nodup := by obtain ⟨D, _, T⟩ := R; exact T.nd
  have few : l.length < 64 := by obtain ⟨D, _, T⟩ := R; exact T.few
  rw [Vals.ref1 r]
  refine sorted_setS R (I.ok.hd hc) fun s' p out c ns k g o hp hg hS pm so => ?_
  have e1 : ns = setS xs := ris_uniq (sortedS_ris so (pm.nodup_iff.mpr nd)) (ris_setS xs) fun x => by rw [pm.mem_iff, hm.2 x, mem_setS, List.take_length]
  subst e1
  have hn : H p = none := I.hok.fresh hp
  have J : Inv X pins σ (upd H p (.lst ((setS xs).map V.str))) { s with heap := s'.heap, gens := s'.gens, drawn := s'.drawn, toks := s'.toks } :=
    I.call (ch := []) (Un.laid k hp hn) (I.hok.laid k hp ⟨by rw [List.length_map, pm.length_eq, sizeLine_eq]; omega, out.toList, c, vals_strs hS, hg⟩) (by rw [g]; exact I.bare) (fun _ z => nomatch z)
  have e : s' = { s with heap := s'.heap, gens := s'.gens, drawn := s'.drawn, toks := s'.toks } := by
    cases s'; cases s; cases o; rfl
  rw [e]
  exact ⟨.ref p, _, J, rfl, q p hn⟩
end
def strsD : List D → Option (List Str)
  | [] => some []
  | .str x :: r => match strsD r with
    | some xs => some (x :: xs)
    | none => none
  | _ :: _ => none
def gSortSet : D → Option Pl
  | .lst ds => match strsD ds with
    | some xs => if xs.length < 64 then some (.n (.lst ((setS xs).map .str))) else none
    | none => none
  | .tup ds => match strsD ds with
    | some xs => if xs.length < 64 then some (.n (.lst ((setS xs).map .str))) else none
    | none => none
  | _ => none
theorem strsD_map : ∀ {ds : List D} {xs : List Str}, strsD ds = some xs → ds = xs.map .str
  | [], _, e => by cases e; rfl
  | .str x :: ds, xs, e => by
    unfold strsD at e
    cases q : strsD ds with
    | none => rw [q] at e; cases e
    | some ys => rw [q] at e; cases e; rw [List.map_cons, strsD_map q]
  | .non :: _, _, e => by cases e
  | .bl _ :: _, _, e => by cases e
  | .int _ :: _, _, e => by cases e
  | .tup _ :: _, _, e => by cases e
  | .lst _ :: _, _, e => by cases e
  | .dK _ :: _, _, e => by cases e
  | .dT _ :: _, _, e => by cases e
  | .scr _ :: _, _, e => by cases e
theorem repL_strs {K : PySem.W.Frag} {F : Hp} : ∀ {xs : List Str} {vs : List V}, RepL K F vs (xs.map .str) → vs = xs.map V.str
  | [], _, .nil => rfl
  | x :: xs, _, .cons h t => by
    cases h
    rw [List.map_cons, repL_strs t]
theorem strs_repL {K : PySem.W.Frag} {F : Hp} : ∀ xs : List Str, RepL K F (xs.map V.str) (xs.map .str)
  | [] => .nil
  | x :: xs => .cons (.str x) (strs_repL xs)
section
variable {X : Cx} {P : List V} {E : XK} {a : Expr} {f : M Pl} {pos p p2 q2 : Pos}
theorem de_sortSet (ha : DE X P E a f) (hg : Gl X "sorted") (hm : X.mg "sorted" = none) (hg2 : Gl X "set") (hm2 : X.mg "set" = none) (hc : X.calm = true := by rfl)
    (he : starEach [a] X.env = (false, eval a X.env) :: starEach [] X.env := by rfl) (hpl : (backTo q2 (starEach [] X.env)).any (·.1) = false := by rfl)
    (he2 : starEach [.Call (.Name "set" p2) [a] [] q2] X.env = (false, eval (.Call (.Name "set" p2) [a] [] q2) X.env) :: starEach [] X.env := by rfl) (hpl2 : (backTo pos (starEach [] X.env)).any (·.1) = false := by rfl) :
    DE X P E (.Call (.Name "sorted" p) [.Call (.Name "set" p2) [a] [] q2] [] pos) (mUn gSortSet f) :=
  ⟨PE.wk (pe_callB (cr_sortS hc) hg hm boot_sorted (pa_cons (pe_callTy (cr_setS hc) hg2 hm2 boot_set (pa_cons ha.opd.pe pa_nil he) (by decide) (by decide) he hpl) pa_nil he2) (by decide) (by decide) he2 hpl2) fun σ H Q ⟨r, F, Af, R, q⟩ => by
    refine ⟨r, F, Af, R, ?_⟩
    unfold mUn at q
    cases e1 : opd f r with
    | ex x r' => rw [e1] at q; exact q
    | st => rw [e1] at q; exact q
    | ok p r1 =>
      rw [e1] at q
      simp only at q
      intro v1 H1 F1 Af1 T1 ex1 R1 rp1
      cases e3 : deref r1 p with
      | none => rw [e3] at q; exact q.elim
      | some d =>
        rw [e3] at q
        simp only at q
        cases e5 : gSortSet d with
        | none => rw [e5] at q; exact q.elim
        | some z =>
          rw [e5] at q
          simp only at q
          have rd := PlRep.rd R1 rp1 e3
          have main : ∃ (c : Addr) (xs : List Str), v1 = V.ref c ∧ (SqL X.K H1 c (xs.map V.str) ∨ SqT X.K H1 c (xs.map V.str)) ∧ xs.length < 64 ∧ z = .n (.lst ((setS xs).map .str)) := by
            unfold gSortSet at e5
            split at e5
            · split at e5
              · rename_i ds _ xs e6
                split at e5
                · cases e5
                  obtain ⟨c, vs, rfl, h1, h2⟩ := rd
                  rw [strsD_map e6] at h2
                  exact ⟨c, xs, rfl, .inl (.inl (.inl (repL_strs h2 ▸ h1))), by assumption, rfl⟩
                · cases e5
              · cases e5
            · split at e5
              · rename_i ds _ xs e6
                split at e5
                · cases e5
                  obtain ⟨c, vs, rfl, h1, h2, _⟩ := rd
                  rw [strsD_map e6] at h2
                  exact ⟨c, xs, rfl, .inr (.inl (.inl (repL_strs h2 ▸ h1))), by assumption, rfl⟩
                · cases e5
              · cases e5
            · cases e5
          obtain ⟨c, xs, rfl, hs, few, rfl⟩ := main
          refine ⟨c, xs, rfl, hs, few, fun b l hb mt => ⟨b, xs, l, rfl, upd_same, mt, fun y hy => ?_⟩⟩
          have g1 : Grow H1 F1 (upd H1 b (SetSO X.prog X.w b l)) F1 := ⟨same_new hb, Same.refl _, R1.keep.up (same_new hb), fun _ e => .inl e⟩
          obtain ⟨F2, g2, o2⟩ := out_lst (K := X.K) g1.keep hy (strs_repL (K := X.K) (F := F1) (setS xs))
          obtain ⟨T, o3, o4⟩ := o2
          have o : Out X.K H1 F1 (.n (.lst ((setS xs).map .str))) (.ref y) (upd (upd H1 b (SetSO X.prog X.w b l)) y (.lst ((setS xs).map V.str))) := ⟨F2, g1.trans g2, T, o3, fun a t => g1.hh.free (o4 a t)⟩
          obtain ⟨F', T', ex3, R3, rp3⟩ := out_post R1 ex1.noT o
          exact q _ _ F' Af1 T' ex3 R3 rp3⟩
end
end NT

set_option Elab.async false
set_option linter.all false
set_option maxRecDepth 100000
set_option maxHeartbeats 1000000
namespace NT
open PySem PySem.Spec PyProof.Rows L2 HT

/-! ### x[::-1] -/
theorem fm_congr {α β : Type} {f g : α → Option β} : ∀ {l : List α}, (∀ x ∈ l, f x = g x) → l.filterMap f = l.filterMap g
  | [], _ => rfl
  | x :: l, h => by rw [List.filterMap_cons, List.filterMap_cons, h x List.mem_cons_self, fm_congr fun y hy => h y (List.mem_cons_of_mem _ hy)]
theorem rev_go {α : Type} : ∀ l : List α, (List.range l.length).filterMap (fun (m : Nat) => l[l.length - 1 - m]?) = l.reverse
  | [] => rfl
  | x :: l => by
    have e : (List.range (x :: l).length) = List.range l.length ++ [l.length] := by rw [List.length_cons, List.range_succ]
    rw [e, List.filterMap_append, List.reverse_cons]
    congr 1
    · rw [← rev_go l]
      refine fm_congr fun m hm => ?_
      have lt := List.mem_range.mp hm
      have q : (x :: l).length - 1 - m = (l.length - 1 - m) + 1 := by rw [List.length_cons]; omega
      rw [q, List.getElem?_cons_succ]
    · simp
section
variable {prog : Program} {w : World} {A : Around} {E : Value → Shared → Prop} {s : Shared}
theorem getItem_tuple_rev {t sl : Addr} {its : List Value} {vl vu vk : Value} {Q : Value → Shared → Prop} (ht : IsTup s.heap t its.toArray) (hs : s.heap.IsSliceOf sl vl vu vk) (pl : IsPart vl none) (pu : IsPart vu none) (pk : IsPart vk (some (-1)))
    (h : Q (.ref s.heap.objs.size) { s with heap := s.heap.push { cls := .type "tuple", data := .seq its.reverse.toArray } }) (hz : its.length ≤ sizeLine) : wpAny (model prog w) A (getItem (.ref t) (.ref sl)) Q E s := by
  obtain ⟨os, o1, o2, o3⟩ := id hs
  have tS : s.TypeIs (.ref sl) "slice" := ⟨os, o1, o2⟩
  have fit : sizeOk (.seq its.reverse.toArray) := by show its.reverse.toArray.size ≤ sizeLine; rw [List.size_toArray, List.length_reverse]; exact hz
  unfold getItem
  try with_reducible refine wpAny_holding ?_
  first | refine wpAny_bind (wpAny_pure ?_) | skip
  refine wpAny_bind (wpAny_sequenceKey ht.typeIs (by decide) ?_)
  refine wpAny_bind (wpAny_callSpecial?_slot (name := Str.ofString "__getitem__") ht.typeIs PyProof.Rows.slot_tuple_getitem (wpAny_call_entry PyProof.Rows.slot_tuple_getitem ht.typeIs entry_tuple_getitem ?_ (args_tuple_getitem _ _)))
  show wpAny _ _ (Builtin.Tuple.tupleItemsOf (.ref t) >>= _) _ _ s
  refine wpAny_bind (tupleItemsOf_ ht (wpAny_bind (wpAny_typeOf tS ?_)))
  rw [if_pos (by decide)]
  refine wpAny_bind ?_
  unfold Builtin.Slice.sliceApplied Builtin.Slice.sliceFields
  refine wpAny_bind (wpAny_bind (wpAny_field o1 o3 (x := vl) rfl (wpAny_bind (wpAny_field o1 o3 (x := vu) rfl (wpAny_bind (wpAny_field o1 o3 (x := vk) rfl (wpAny_pure ?_)))))))
  refine wpAny_bind (slicePart_ pk ?_)
  show wpAny _ _ (if ((-1 : Int) == 0) = true then _ else _) _ _ s
  rw [if_neg (by decide)]
  refine wpAny_bind (slicePart_ pl (wpAny_bind (slicePart_ pu (wpAny_bind (wpAny_pure ?_)))))
  have e1 : Builtin.Slice.sliceAdjust none none (-1) (its.toArray.size : Int) = ((its.length : Int) - 1, -1) := by unfold Builtin.Slice.sliceAdjust; simp
  have e2 : Builtin.Slice.slicePlaces ((its.length : Int) - 1) (-1) (-1) = its.length := by
    unfold Builtin.Slice.slicePlaces
    rw [if_neg (by decide)]
    split
    · rw [show -(-1 : Int) = 1 from rfl, Int.ediv_one]; omega
    · omega
  show wpAny _ _ (match Builtin.Slice.sliceAdjust none none (-1) (its.toArray.size : Int) with | (lo, hi) => pure (lo, (-1 : Int), Builtin.Slice.slicePlaces lo hi (-1))) _ _ s
  rw [e1]
  show wpAny _ _ (pure ((its.length : Int) - 1, (-1 : Int), Builtin.Slice.slicePlaces ((its.length : Int) - 1) (-1) (-1))) _ _ s
  rw [e2]
  refine wpAny_pure ?_
  have no : ¬ ((((its.length : Int) - 1) == 0 && (-1 : Int) == 1 && its.length == its.toArray.size) = true) := by
    rw [show ((-1 : Int) == 1) = false from rfl]; simp
  show wpAny _ _ (if (((its.length : Int) - 1) == 0 && (-1 : Int) == 1 && its.length == its.toArray.size) = true then _ else _) _ _ s
  rw [if_neg no]
  have e3 : ((List.range its.length).filterMap fun (m : Nat) => its.toArray[(((its.length : Int) - 1) + (m : Int) * (-1)).toNat]?).toArray = its.reverse.toArray := by
    rw [← rev_go its]
    refine congrArg List.toArray (fm_congr fun m hm => ?_)
    have lt := List.mem_range.mp hm
    have q : (((its.length : Int) - 1) + (m : Int) * (-1)).toNat = its.length - 1 - m := by omega
    rw [q, List.getElem?_toArray]
  rw [e3]
  first
    | exact wpAny_bind (m := Builtin.Tuple.tupleExact _) (wpAny_newObj_type (wpAny_pure ⟨_, rfl, wpAny_pure h⟩) fit)
    | exact wpAny_bind (m := Builtin.Tuple.tupleExact _) (wpAny_newObj_type (wpAny_bind (wpAny_pure (wpAny_pure ⟨_, rfl, wpAny_pure h⟩))) fit)
    | exact wpAny_bind (wpAny_bind (m := Builtin.Tuple.tupleExact _) (wpAny_newObj_type (wpAny_pure (wpAny_pure ⟨_, rfl, wpAny_pure h⟩)) fit))
    | exact wpAny_bind (wpAny_bind (m := Builtin.Tuple.tupleExact _) (wpAny_newObj_type (wpAny_pure ⟨_, rfl, wpAny_pure h⟩) fit))
end
/-- x[::-1], x a list or a tuple -/
def tRevA (K : PySem.W.Frag) (te : TE) : TE := fun σ H Q => te σ H fun x H1 => ∃ a xs, x = .ref a ∧ ((SqL K H1 a xs ∧ ∀ p, H1 p = none → Q (.ref p) (upd H1 p (.lst xs.reverse))) ∨ (SqT K H1 a xs ∧ ∀ p, H1 p = none → Q (.ref p) (upd H1 p (.tup xs.reverse))))
theorem pe_revA {X : Cx} {e : Expr} {te : TE} {k : Nat} {p1 p2 p3 pos : Pos} (he : PE X e te) : PE X (.Subscript e (.Slice none none (some (.UnaryOp .USub (.Constant (.int 1) k p1) p2)) p3) pos) (tRevA X.K te) := by
  refine ⟨fun pins s σ H Q I h => ?_⟩
  refine Subscript_ (thn (he.run pins s σ H _ I h) fun v s1 ⟨x, H1, I1, r1, q1⟩ => ?_)
  obtain ⟨a, xs, rfl, q⟩ := q1
  cases r1
  have st : PO X (some (.UnaryOp .USub (.Constant (.int 1) k p1) p2)) (tPart (tUn (rU fun i => .int (-i)) (tC (.int 1)))) := po_some (pe_un un_neg pe_int)
  refine wpAny_Slice (thn (po_none.run pins s1 σ H1 (fun o H2 => o = none ∧ H2 = H1) I1 ⟨rfl, rfl⟩) fun vl s2 ⟨l, H2, I2, pl, el, e2⟩ => ?_)
  subst el e2
  refine thn (po_none.run pins s2 σ H2 (fun o H3 => o = none ∧ H3 = H2) I2 ⟨rfl, rfl⟩) fun vu s3 ⟨u, H3, I3, pu, eu, e3⟩ => ?_
  subst eu e3
  refine thn (st.run pins s3 σ H3 (fun o H4 => o = some (-1) ∧ H4 = H3) I3 ⟨1, rfl, -1, rfl, rfl, rfl⟩) fun vs s4 ⟨o, H4, I4, ps, eo, e4⟩ => ?_
  subst eo e4
  have I5 : Inv X pins σ H4 { s4 with heap := s4.heap.push { cls := .type "slice", data := .fields #[vl, vu, vs] } } := I4.kept (t' := s4.toks) fun b ob q => Heap.get?_push_of_some _ q
  show wpAny (model X.prog X.w) X.A (subscriptTail e (.Slice none none (some (.UnaryOp .USub (.Constant (.int 1) k p1) p2)) p3) (.ref a) (.ref s4.heap.objs.size)) (EP X pins σ Q) X.xe { s4 with heap := s4.heap.push { cls := .type "slice", data := .fields #[vl, vu, vs] } }
  rcases q with ⟨hx, q⟩ | ⟨hx, q⟩
  · obtain ⟨its, r, ht, hz⟩ := I5.list hx
    have ln := r.length
    refine tail_any (ops := [.ref a, .ref s4.heap.objs.size]) ht.isList.typeIs (PySem.slot_list_getitem.lookup) ?_ (by with_unfolding_all rfl)
    refine wpAny_getItem_list_slice ht.isList (Heap.IsSliceOf.new _ vl vu vs) pl pu ps (by decide) ?_ (by rw [List.size_toArray]; omega)
    rw [PySem.W.krv_pick]
    refine ⟨.ref _, _, I5.laid (t' := s4.toks) (o := .lst xs.reverse) (fun b ob q => Heap.get?_push_of_some _ q) (Nat.le_refl _) ?_, rfl, q _ (I5.hok.fresh (Nat.le_refl _))⟩
    exact ⟨by rw [List.length_reverse]; exact hz, _, 0, r.reverse, Heap.get?_push_size _ rfl⟩
  · obtain ⟨its, r, ht, hz⟩ := I5.tuple hx
    have ln := r.length
    refine tail_any (ops := [.ref a, .ref s4.heap.objs.size]) ht.typeIs (PyProof.Rows.slot_tuple_getitem.lookup) ?_ (by with_unfolding_all rfl)
    refine getItem_tuple_rev ht (Heap.IsSliceOf.new _ vl vu vs) pl pu ps ?_ (by omega)
    refine ⟨.ref _, _, I5.laid (t' := s4.toks) (o := .tup xs.reverse) (fun b ob q => Heap.get?_push_of_some _ q) (Nat.le_refl _) ?_, rfl, q _ (I5.hok.fresh (Nat.le_refl _))⟩
    exact ⟨by rw [List.length_reverse]; exact hz, _, r.reverse, ⟨_, Heap.get?_push_size _ rfl, rfl, 0, rfl⟩⟩
def gRev : D → Option Pl
  | .lst ds => some (.n (.lst ds.reverse))
  | .tup ds => some (.v (.tup ds.reverse))
  | _ => none
section
variable {X : Cx} {P : List V} {E : XK} {a : Expr} {f : M Pl} {k : Nat} {p1 p2 p3 pos : Pos}
theorem de_rev (ha : DE X P E a f) : DE X P E (.Subscript a (.Slice none none (some (.UnaryOp .USub (.Constant (.int 1) k p1) p2)) p3) pos) (mUn gRev f) :=
  ⟨PE.wk (pe_revA ha.opd.pe) fun σ H Q ⟨r, F, Af, R, q⟩ => by
    refine ⟨r, F, Af, R, ?_⟩
    unfold mUn at q
    cases e1 : opd f r with
    | ex x r' => rw [e1] at q; exact q
    | st => rw [e1] at q; exact q
    | ok p r1 =>
      rw [e1] at q
      simp only at q
      intro v1 H1 F1 Af1 T1 ex1 R1 rp1
      cases e3 : deref r1 p with
      | none => rw [e3] at q; exact q.elim
      | some d =>
        rw [e3] at q
        simp only at q
        cases e5 : gRev d with
        | none => rw [e5] at q; exact q.elim
        | some z =>
          rw [e5] at q
          simp only at q
          have rd := PlRep.rd R1 rp1 e3
          have fin : ∀ v H', Out X.K H1 F1 z v H' → Q v H' := fun v H' o => by
            obtain ⟨F', T', ex3, R3, rp3⟩ := out_post R1 ex1.noT o
            exact q _ _ F' Af1 T' ex3 R3 rp3
          unfold gRev at e5
          split at e5
          · cases e5
            obtain ⟨c, vs, rfl, h1, h2⟩ := rd
            exact ⟨c, vs, rfl, .inl ⟨.inl (.inl h1), fun p hp => fin _ _ (out_lst R1.keep hp h2.reverse)⟩⟩
          · cases e5
            obtain ⟨c, vs, rfl, h1, h2, _⟩ := rd
            exact ⟨c, vs, rfl, .inr ⟨.inl (.inl h1), fun p hp => fin _ _ (out_tup R1.keep hp h2.reverse)⟩⟩
          · cases e5⟩
end
/-! ### dict(pairs) -/
def dPairs : List D → Option (List (Key × D))
  | [] => some []
  | .tup [a, b] :: r => match keyK a with
    | some k => match dPairs r with
      | some l => some ((k, b) :: l)
      | none => none
    | none => none
  | _ :: _ => none
theorem dPairs_rep {K : PySem.W.Frag} {H F : Hp} (kp : Keep F H) : ∀ {l : List D} {kvs : List (Key × D)} {xs : List V}, RepL K F xs l → dPairs l = some kvs →
    ∃ (ps : List Addr) (vs : List (Key × V)), xs = ps.map V.ref ∧ Paired (fun p kv => SqT K H p [kV kv.1, kv.2]) ps vs ∧ vs.map (·.1) = kvs.map (·.1) ∧ RepL K F (vs.map (·.2)) (kvs.map (·.2))
  | [], _, _, .nil, e => by cases e; exact ⟨[], [], rfl, .nil, rfl, .nil⟩
  | d :: r, kvs, _, .cons (vs := ws) h t, e => by
    unfold dPairs at e
    split at e
    · rename_i h0; cases h0
    · rename_i a b r' h0
      cases h0
      cases ek : keyK a with
      | none => rw [ek] at e; cases e
      | some k =>
        rw [ek] at e
        simp only at e
        cases e2 : dPairs r with
        | none => rw [e2] at e; cases e
        | some l2 =>
          rw [e2] at e
          cases e
          obtain ⟨ps, vs, rfl, h1, h2, h3⟩ := dPairs_rep kp t e2
          cases h with
          | tup ha tl =>
            rename_i q _
            cases tl with
            | cons ra tl =>
              cases tl with
              | cons rb tl =>
                rename_i vb _
                cases tl
                refine ⟨q :: ps, (k, vb) :: vs, rfl, .cons ?_ h1, by simp [h2], .cons rb h3⟩
                have e5 := keyK_r ra ek
                subst e5
                exact .inl (.inl (kp.tup ha))
    · cases e
def mergeD (l more : List (Key × D)) : List (Key × D) := more.foldl (fun acc kv => putD acc kv.1 kv.2) l
theorem merge_rep {K : PySem.W.Frag} {F : Hp} : ∀ {more : List (Key × V)} {md : List (Key × D)} {kvs : List (Key × V)} {l : List (Key × D)}, more.map (·.1) = md.map (·.1) → RepL K F (more.map (·.2)) (md.map (·.2)) →
    kvs.map (·.1) = l.map (·.1) → RepL K F (kvs.map (·.2)) (l.map (·.2)) → (mergeK kvs more).map (·.1) = (mergeD l md).map (·.1) ∧ RepL K F ((mergeK kvs more).map (·.2)) ((mergeD l md).map (·.2))
  | [], [], _, _, _, _, h1, h2 => ⟨h1, h2⟩
  | [], _ :: _, _, _, e, _, _, _ => by simp at e
  | _ :: _, [], _, _, e, _, _, _ => by simp at e
  | (k, v) :: more, (k', d) :: md, kvs, l, e, r, h1, h2 => by
    simp only [List.map_cons, List.cons.injEq] at e
    obtain ⟨rfl, e⟩ := e
    cases r with
    | cons r0 r =>
      obtain ⟨n1, n2⟩ := put_rep (k := k) r0 h1 h2
      exact merge_rep (more := more) (md := md) (kvs := putK kvs k v) (l := putD l k d) e r n1 n2
def gDictP : List D → Option Pl
  | [.lst l] => match dPairs l with
    | some kvs => some (.n (.dK (mergeD [] kvs)))
    | none => none
  | _ => none
theorem out_dK {K : PySem.W.Frag} {F H : Hp} {p : Addr} {kvs : List (Key × V)} {l : List (Key × D)} (k : Keep F H) (h : H p = none) (e : kvs.map (·.1) = l.map (·.1)) (r : RepL K F (kvs.map (·.2)) (l.map (·.2))) : Out K H F (.n (.dK l)) (.ref p) (upd H p (.dK kvs)) :=
  ⟨F, grow_own k h, fun b => b = p, ⟨p, kvs, rfl, rfl, upd_same, keep_none k h, e, r⟩, fun a e => by rw [e]; exact h⟩
theorem sp_dictP {K : PySem.W.Frag} : CallSpec K (fun xs H Q => ∃ (a : Addr) (ps : List Addr) (kvs : List (Key × V)), xs = [.ref a] ∧ SqL K H a (ps.map V.ref) ∧ Paired (fun p kv => SqT K H p [kV kv.1, kv.2]) ps kvs ∧
    ∀ p, H p = none → Q (.ref p) (upd H p (.dK (mergeK [] kvs)))) gDictP := fun H F xs ds z Q k h hz q => by
  unfold gDictP at hz
  split at hz
  · rename_i l
    cases e : dPairs l with
    | none => rw [e] at hz; cases hz
    | some kvs =>
      rw [e] at hz
      cases hz
      obtain ⟨v, rfl, a, ys, rfl, ha, ra⟩ := h.one
      obtain ⟨ps, vs, rfl, h1, h2, h3⟩ := dPairs_rep k ra e
      obtain ⟨n1, n2⟩ := merge_rep (kvs := []) (l := []) h2 h3 rfl .nil
      exact ⟨a, ps, vs, rfl, .inl (.inl ha), h1, fun p hp => q _ _ (out_dK k hp n1 n2)⟩
  · cases hz
end NT

set_option Elab.async false
set_option linter.all false
set_option maxRecDepth 100000
set_option maxHeartbeats 1000000
namespace NT
open PySem PySem.Spec PyProof.Rows L2

/-! ### walks in plain Lean -/
theorem compL_ok {vs : List Nat} {g : D → M Unit} {tt : M Bool} {te : M D} {r : En} (p : D → Bool) (f : D → D) : ∀ (ds : List D),
    (∀ d ∈ ds, ∃ r1 r2, g d r = .ok () r1 ∧ tt r1 = .ok (p d) r2 ∧ (p d = false → wipeE r2 vs = r) ∧ (p d = true → ∃ r3, te r2 = .ok (f d) r3 ∧ wipeE r3 vs = r)) →
    compL vs g tt te ds r = .ok ((ds.filter p).map f) r
  | [], _ => rfl
  | d :: ds, h => by
    obtain ⟨r1, r2, h1, h2, h3, h4⟩ := h d List.mem_cons_self
    have ih := compL_ok p f ds fun e he => h e (List.mem_cons_of_mem _ he)
    unfold compL
    rw [h1]
    simp only
    rw [h2]
    simp only
    cases hp : p d with
    | false => simp only [Bool.false_eq_true, if_false]; rw [h3 hp, ih, List.filter_cons_of_neg (by simp [hp])]
    | true =>
      obtain ⟨r3, h5, h6⟩ := h4 hp
      simp only [if_true]
      rw [h5]
      simp only
      rw [h6, ih, List.filter_cons_of_pos hp, List.map_cons]
theorem comp_ok {vs : List Nat} {it : M (List D)} {g : D → M Unit} {tt : M Bool} {te : M D} {r r0 : En} {ds : List D} (p : D → Bool) (f : D → D) (hi : it r = .ok ds r0) (hl : ds.length ≤ sizeLine)
    (h : ∀ d ∈ ds, ∃ r1 r2, g d (wipeE r0 vs) = .ok () r1 ∧ tt r1 = .ok (p d) r2 ∧ (p d = false → wipeE r2 vs = wipeE r0 vs) ∧ (p d = true → ∃ r3, te r2 = .ok (f d) r3 ∧ wipeE r3 vs = wipeE r0 vs)) :
    mComp vs it g tt te r = .ok (.n (.lst ((ds.filter p).map f))) (restE r0 (wipeE r0 vs) vs) := by
  unfold mComp
  rw [hi]
  simp only
  unfold mCompA
  rw [compL_ok p f ds h]
  simp only
  rw [if_pos]
  rw [List.length_map]
  exact Nat.le_trans (List.length_filter_le _ _) hl
theorem compT_ok {vs : List Nat} {it : M (List D)} {g : D → M Unit} {te : M D} {r r0 : En} {ds : List D} (f : D → D) (hi : it r = .ok ds r0) (hl : ds.length ≤ sizeLine)
    (h : ∀ d ∈ ds, ∃ r1 r3, g d (wipeE r0 vs) = .ok () r1 ∧ te r1 = .ok (f d) r3 ∧ wipeE r3 vs = wipeE r0 vs) :
    mComp vs it g (M.pure true) te r = .ok (.n (.lst (ds.map f))) (restE r0 (wipeE r0 vs) vs) := by
  have q := comp_ok (vs := vs) (it := it) (g := g) (tt := M.pure true) (te := te) (r := r) (fun _ => true) f hi hl fun d hd => by
    obtain ⟨r1, r3, h1, h2, h3⟩ := h d hd
    exact ⟨r1, r1, h1, rfl, fun z => (by cases z), fun _ => ⟨r3, h2, h3⟩⟩
  rw [q, List.filter_eq_self.mpr (fun _ _ => rfl)]
theorem bools_map {α : Type} (f : α → Bool) : ∀ l : List α, bools (l.map fun x => .bl (f x)) = some (l.map f)
  | [] => rfl
  | x :: l => by rw [List.map_cons, bools, bools_map f l]; rfl
def lowC (c : Nat) : Bool := decide (c ∈ ("abcdefghijklmnopqrstuvwxyz" : Str).cps.toList)
/-- a name, as a text -/
def nameS (x : Str) : Bool := decide ((1 : Int) ≤ x.length) && decide ((x.length : Int) ≤ 8) && x.cps.toList.all lowC
def signD (c : Nat) : D := .str ⟨#[c]⟩
theorem gIn_low (c : Nat) : gIn (signD c) (.str "abcdefghijklmnopqrstuvwxyz") = some (lowC c) := rfl
end NT

set_option Elab.async false
set_option linter.all false
set_option maxRecDepth 100000
set_option maxHeartbeats 1000000
namespace NT
open PySem PySem.Spec PyProof.Rows L2

/-! ### what the pieces compute, step by step -/
def R.b {α β : Type} (x : R α) (k : α → En → R β) : R β := match x with
  | .ok a r => k a r
  | .ex x r => .ex x r
  | .st => .st
def R.s {α : Type} (x : R α) (k : α → En → RS) : RS := match x with
  | .ok a r => k a r
  | .ex x r => .ex x r
  | .st => .st
def RS.q (x : RS) (g : En → RS) : RS := match x with
  | .nx r => g r
  | x => x
def RS.c (x : RS) (n : Nat) : RC := match x with
  | .nx r => .ok (.v .non) (r.take n)
  | .rt (.v d) r => .ok (.v d) (r.take n)
  | .rt (.n o) r => .ok (.n o) (r.take n)
  | .ex x r => .ex x (r.take n)
  | _ => .st
def RC.b (x : RC) (r1 : En) (ios : List Nat) : R Pl := match x with
  | .ok p io => .ok p (putIo r1 ios io)
  | .ex x io => .ex x (putIo r1 ios io)
  | .st => .st
section
variable {α β : Type} {c : Prop} [Decidable c]
@[simp] theorem R.b_ok (a : α) (r : En) (k : α → En → R β) : (R.ok a r).b k = k a r := rfl
@[simp] theorem R.b_ex (x : Exn) (r : En) (k : α → En → R β) : (R.ex x r).b k = .ex x r := rfl
@[simp] theorem R.b_st (k : α → En → R β) : (R.st : R α).b k = .st := rfl
@[simp] theorem R.b_ite (x y : R α) (k : α → En → R β) : (if c then x else y).b k = if c then x.b k else y.b k := by split <;> rfl
@[simp] theorem R.s_ok (a : α) (r : En) (k : α → En → RS) : (R.ok a r).s k = k a r := rfl
@[simp] theorem R.s_ex (x : Exn) (r : En) (k : α → En → RS) : (R.ex x r).s k = .ex x r := rfl
@[simp] theorem R.s_st (k : α → En → RS) : (R.st : R α).s k = .st := rfl
@[simp] theorem R.s_ite (x y : R α) (k : α → En → RS) : (if c then x else y).s k = if c then x.s k else y.s k := by split <;> rfl
@[simp] theorem RS.q_nx (r : En) (g : En → RS) : (RS.nx r).q g = g r := rfl
@[simp] theorem RS.q_rt (p : Pl) (r : En) (g : En → RS) : (RS.rt p r).q g = .rt p r := rfl
@[simp] theorem RS.q_bk (r : En) (g : En → RS) : (RS.bk r).q g = .bk r := rfl
@[simp] theorem RS.q_ct (r : En) (g : En → RS) : (RS.ct r).q g = .ct r := rfl
@[simp] theorem RS.q_ex (x : Exn) (r : En) (g : En → RS) : (RS.ex x r).q g = .ex x r := rfl
@[simp] theorem RS.q_st (g : En → RS) : RS.st.q g = .st := rfl
@[simp] theorem RS.q_ite (x y : RS) (g : En → RS) : (if c then x else y).q g = if c then x.q g else y.q g := by split <;> rfl
@[simp] theorem RS.c_nx (r : En) (n : Nat) : (RS.nx r).c n = .ok (.v .non) (r.take n) := rfl
@[simp] theorem RS.c_rv (d : D) (r : En) (n : Nat) : (RS.rt (.v d) r).c n = .ok (.v d) (r.take n) := rfl
@[simp] theorem RS.c_rn (o : O) (r : En) (n : Nat) : (RS.rt (.n o) r).c n = .ok (.n o) (r.take n) := rfl
@[simp] theorem RS.c_ex (x : Exn) (r : En) (n : Nat) : (RS.ex x r).c n = .ex x (r.take n) := rfl
@[simp] theorem RS.c_ite (x y : RS) (n : Nat) : (if c then x else y).c n = if c then x.c n else y.c n := by split <;> rfl
@[simp] theorem RC.b_ok (p : Pl) (io r : En) (is : List Nat) : (RC.ok p io).b r is = .ok p (putIo r is io) := rfl
@[simp] theorem RC.b_ex (x : Exn) (io r : En) (is : List Nat) : (RC.ex x io).b r is = .ex x (putIo r is io) := rfl
@[simp] theorem RC.b_st (r : En) (is : List Nat) : RC.st.b r is = .st := rfl
@[simp] theorem RC.b_ite (x y : RC) (r : En) (is : List Nat) : (if c then x else y).b r is = if c then x.b r is else y.b r is := by split <;> rfl
end
def opP : Pl → Pl
  | .n o => .v o.d
  | p => p
@[simp] theorem opP_v (d : D) : opP (.v d) = .v d := rfl
@[simp] theorem opP_s (i : Nat) : opP (.s i) = .s i := rfl
@[simp] theorem opP_n (o : O) : opP (.n o) = .v o.d := rfl
/-- the datum of an operand -/
def slD : Option Sl → Option D
  | some (.own o) => some o.d
  | some (.fz d) => some d
  | _ => none
@[simp] theorem slD_own (o : O) : slD (some (.own o)) = some o.d := rfl
@[simp] theorem slD_fz (d : D) : slD (some (.fz d)) = some d := rfl
@[simp] theorem deref_v (r : En) (d : D) : deref r (.v d) = some d := rfl
@[simp] theorem deref_s (r : En) (i : Nat) : deref r (.s i) = slD r[i]? := by
  show (match r[i]? with | some (.own o) => some o.d | some (.fz d) => some d | _ => none) = slD r[i]?
  cases r[i]? with
  | none => rfl
  | some s => cases s <;> rfl
@[simp] theorem O.d_lst (l : List D) : (O.lst l).d = .lst l := rfl
@[simp] theorem O.d_dK (l : List (Key × D)) : (O.dK l).d = .dK l := rfl
@[simp] theorem O.d_dT (l : List (List Key × D)) : (O.dT l).d = .dT l := rfl
/-- a truth's datum, a whole number's -/
def blD : D → Option Bool
  | .bl b => some b
  | _ => none
@[simp] theorem blD_bl (b : Bool) : blD (.bl b) = some b := rfl
def inD1 : D → Option Int
  | .int i => some i
  | _ => none
@[simp] theorem inD1_int (i : Int) : inD1 (.int i) = some i := rfl
/-! the ways on: each is told of a value and a row -/
def okK {α : Type} (x : α) (r : En) : R α := .ok x r
@[simp] theorem okK_eq {α : Type} (x : α) (r : En) : okK x r = .ok x r := rfl
def oK (p : Pl) (r : En) : R Pl := .ok (opP p) r
@[simp] theorem oK_eq (p : Pl) (r : En) : oK p r = .ok (opP p) r := rfl
def oO {α β : Type} (x : Option α) (K : α → En → R β) (r : En) : R β := match x with
  | some a => K a r
  | none => .st
@[simp] theorem oO_some {α β : Type} (a : α) (K : α → En → R β) (r : En) : oO (some a) K r = K a r := rfl
@[simp] theorem oO_none {α β : Type} (K : α → En → R β) (r : En) : oO none K r = .st := rfl
@[simp] theorem oO_ite {α β : Type} {c : Prop} [Decidable c] (x y : Option α) (K : α → En → R β) (r : En) : oO (if c then x else y) K r = if c then oO x K r else oO y K r := by split <;> rfl
def dK {β : Type} (K : D → En → R β) (p : Pl) (r : En) : R β := oO (deref r (opP p)) K r
@[simp] theorem dK_eq {β : Type} (K : D → En → R β) (p : Pl) (r : En) : dK K p r = oO (deref r (opP p)) K r := rfl
def boK {β : Type} (K : Bool → En → R β) (d : D) (r : En) : R β := oO (blD d) K r
@[simp] theorem boK_eq {β : Type} (K : Bool → En → R β) (d : D) (r : En) : boK K d r = oO (blD d) K r := rfl
def inK {β : Type} (K : Int → En → R β) (d : D) (r : En) : R β := oO (inD1 d) K r
@[simp] theorem inK_eq {β : Type} (K : Int → En → R β) (d : D) (r : En) : inK K d r = oO (inD1 d) K r := rfl
def zK (z : Option Pl) (r : En) : R Pl := match z with
  | some z => .ok z r
  | none => .st
@[simp] theorem zK_some (z : Pl) (r : En) : zK (some z) r = .ok z r := rfl
@[simp] theorem zK_none (r : En) : zK none r = .st := rfl
@[simp] theorem zK_ite {c : Prop} [Decidable c] (x y : Option Pl) (r : En) : zK (if c then x else y) r = if c then zK x r else zK y r := by split <;> rfl
def bK (b : Option Bool) : Option Pl := match b with
  | some b => some (.v (.bl b))
  | none => none
@[simp] theorem bK_some (b : Bool) : bK (some b) = some (.v (.bl b)) := rfl
@[simp] theorem bo_eq (g : D → D → Option Bool) (d e : D) : bo g d e = bK (g d e) := rfl
def andK (g : M Pl) (b : Bool) (r : En) : R Pl := if b = true then g r else .ok (.v (.bl false)) r
@[simp] theorem andK_eq (g : M Pl) (b : Bool) (r : En) : andK g b r = if b = true then g r else .ok (.v (.bl false)) r := rfl
def orK (g : M Pl) (b : Bool) (r : En) : R Pl := if b = true then .ok (.v (.bl true)) r else g r
@[simp] theorem orK_eq (g : M Pl) (b : Bool) (r : En) : orK g b r = if b = true then .ok (.v (.bl true)) r else g r := rfl
def notK (b : Bool) (r : En) : R Pl := .ok (.v (.bl !b)) r
@[simp] theorem notK_eq (b : Bool) (r : En) : notK b r = .ok (.v (.bl !b)) r := rfl
def ntK (b : Bool) (r : En) : R Bool := .ok (!b) r
@[simp] theorem ntK_eq (b : Bool) (r : En) : ntK b r = .ok (!b) r := rfl
def aK (d : M Bool) (b : Bool) (r : En) : R Bool := if b = true then d r else .ok false r
@[simp] theorem aK_eq (d : M Bool) (b : Bool) (r : En) : aK d b r = if b = true then d r else .ok false r := rfl
def rK (d : M Bool) (b : Bool) (r : En) : R Bool := if b = true then .ok true r else d r
@[simp] theorem rK_eq (d : M Bool) (b : Bool) (r : En) : rK d b r = if b = true then .ok true r else d r := rfl
def ifK {α : Type} (x y : M α) (b : Bool) (r : En) : R α := if b = true then x r else y r
@[simp] theorem ifK_eq {α : Type} (x y : M α) (b : Bool) (r : En) : ifK x y b r = if b = true then x r else y r := rfl
def isK (n : String) (d : D) (r : En) : R Pl := zK (bK (isTy d n)) r
@[simp] theorem isK_eq (n : String) (d : D) (r : En) : isK n d r = zK (bK (isTy d n)) r := rfl
def orO (a b : Option Bool) : Option Bool := match a with
  | some x => match b with
    | some y => some (x || y)
    | none => none
  | none => none
@[simp] theorem orO_some (a b : Bool) : orO (some a) (some b) = some (a || b) := rfl
def isK2 (n m : String) (d : D) (r : En) : R Pl := zK (bK (orO (isTy d n) (isTy d m))) r
@[simp] theorem isK2_eq (n m : String) (d : D) (r : En) : isK2 n m d r = zK (bK (orO (isTy d n) (isTy d m))) r := rfl
def acK2 (p : Pl) (ps : List Pl) (r : En) : R (List Pl) := .ok (p :: ps) r
@[simp] theorem acK2_eq (p : Pl) (ps : List Pl) (r : En) : acK2 p ps r = .ok (p :: ps) r := rfl
def acK (fs : M (List Pl)) (p : Pl) (r : En) : R (List Pl) := (fs r).b (acK2 (opP p))
@[simp] theorem acK_eq (fs : M (List Pl)) (p : Pl) (r : En) : acK fs p r = (fs r).b (acK2 (opP p)) := rfl
@[simp] theorem derefL_nil (r : En) : derefL r [] = some [] := rfl
def oc {α : Type} (a : Option α) (b : Option (List α)) : Option (List α) := match a with
  | some x => match b with
    | some l => some (x :: l)
    | none => none
  | none => none
@[simp] theorem oc_some {α : Type} (x : α) (l : List α) : oc (some x) (some l) = some (x :: l) := rfl
@[simp] theorem derefL_cons (r : En) (p : Pl) (ps : List Pl) : derefL r (p :: ps) = oc (deref r p) (derefL r ps) := by
  rw [derefL]; unfold oc; cases deref r p with
  | none => rfl
  | some d => cases derefL r ps <;> rfl
def gK (g : List D → Option Pl) (ds : List D) (r : En) : R Pl := zK (g ds) r
@[simp] theorem gK_eq (g : List D → Option Pl) (ds : List D) (r : En) : gK g ds r = zK (g ds) r := rfl
def clK (g : List D → Option Pl) (ps : List Pl) (r : En) : R Pl := oO (derefL r ps) (gK g) r
@[simp] theorem clK_eq (g : List D → Option Pl) (ps : List Pl) (r : En) : clK g ps r = oO (derefL r ps) (gK g) r := rfl
def uK (g : D → Option Pl) (d : D) (r : En) : R Pl := zK (g d) r
@[simp] theorem uK_eq (g : D → Option Pl) (d : D) (r : En) : uK g d r = zK (g d) r := rfl
def z2 (g : D → D → Option Pl) (a b : Option D) : Option Pl := match a with
  | some d => match b with
    | some e => g d e
    | none => none
  | none => none
@[simp] theorem z2_some (g : D → D → Option Pl) (d e : D) : z2 g (some d) (some e) = g d e := rfl
def bK2 (g : D → D → Option Pl) (p q : Pl) (r : En) : R Pl := zK (z2 g (deref r p) (deref r (opP q))) r
@[simp] theorem bK2_eq (g : D → D → Option Pl) (p q : Pl) (r : En) : bK2 g p q r = zK (z2 g (deref r p) (deref r (opP q))) r := rfl
def bK1 (g : D → D → Option Pl) (b : M Pl) (p : Pl) (r : En) : R Pl := (b r).b (bK2 g (opP p))
@[simp] theorem bK1_eq (g : D → D → Option Pl) (b : M Pl) (p : Pl) (r : En) : bK1 g b p r = (b r).b (bK2 g (opP p)) := rfl
def b2 (g : D → D → Option Bool) (a b : Option D) : Option Bool := match a with
  | some d => match b with
    | some e => g d e
    | none => none
  | none => none
@[simp] theorem b2_some (g : D → D → Option Bool) (d e : D) : b2 g (some d) (some e) = g d e := rfl
def ch5 (g : D → D → Option Bool) (q t : Pl) (r : En) : R Pl := zK (bK (b2 g (deref r q) (deref r (opP t)))) r
@[simp] theorem ch5_eq (g : D → D → Option Bool) (q t : Pl) (r : En) : ch5 g q t r = zK (bK (b2 g (deref r q) (deref r (opP t)))) r := rfl
def ch4 (g : D → D → Option Bool) (q : Pl) (c : M Pl) (b : Bool) (r : En) : R Pl := if b = true then (c r).b (ch5 g q) else .ok (.v (.bl false)) r
@[simp] theorem ch4_eq (g : D → D → Option Bool) (q : Pl) (c : M Pl) (b : Bool) (r : En) : ch4 g q c b r = if b = true then (c r).b (ch5 g q) else .ok (.v (.bl false)) r := rfl
def ch2 (g g' : D → D → Option Bool) (c : M Pl) (p q : Pl) (r : En) : R Pl := oO (b2 g (deref r p) (deref r (opP q))) (ch4 g' (opP q) c) r
@[simp] theorem ch2_eq (g g' : D → D → Option Bool) (c : M Pl) (p q : Pl) (r : En) : ch2 g g' c p q r = oO (b2 g (deref r p) (deref r (opP q))) (ch4 g' (opP q) c) r := rfl
def ch1 (g g' : D → D → Option Bool) (b c : M Pl) (p : Pl) (r : En) : R Pl := (b r).b (ch2 g g' c (opP p))
@[simp] theorem ch1_eq (g g' : D → D → Option Bool) (b c : M Pl) (p : Pl) (r : En) : ch1 g g' b c p r = (b r).b (ch2 g g' c (opP p)) := rfl
def lcK2 (d : D) (ds : List D) (r : En) : R (List D) := .ok (d :: ds) r
@[simp] theorem lcK2_eq (d : D) (ds : List D) (r : En) : lcK2 d ds r = .ok (d :: ds) r := rfl
def lcK (fs : M (List D)) (d : D) (r : En) : R (List D) := (fs r).b (lcK2 d)
@[simp] theorem lcK_eq (fs : M (List D)) (d : D) (r : En) : lcK fs d r = (fs r).b (lcK2 d) := rfl
def tpK (ds : List D) (r : En) : R Pl := if ds.length ≤ sizeLine then .ok (.v (.tup ds)) r else .st
@[simp] theorem tpK_eq (ds : List D) (r : En) : tpK ds r = if ds.length ≤ sizeLine then .ok (.v (.tup ds)) r else .st := rfl
def lsK (ds : List D) (r : En) : R Pl := if ds.length ≤ sizeLine then .ok (.n (.lst ds)) r else .st
@[simp] theorem lsK_eq (ds : List D) (r : En) : lsK ds r = if ds.length ≤ sizeLine then .ok (.n (.lst ds)) r else .st := rfl
def itK (d : D) (r : En) : R (List D) := oO (itemsOf d) okK r
@[simp] theorem itK_eq (d : D) (r : En) : itK d r = oO (itemsOf d) okK r := rfl
def smK (i : Int) (r : En) : R (Option Int) := .ok (some i) r
@[simp] theorem smK_eq (i : Int) (r : En) : smK i r = .ok (some i) r := rfl
def sl4 (l u : Option Int) (d : D) (r : En) : R Pl := zK (gSl d l u) r
@[simp] theorem sl4_eq (l u : Option Int) (d : D) (r : En) : sl4 l u d r = zK (gSl d l u) r := rfl
def sl3 (p : Pl) (l u : Option Int) (r : En) : R Pl := oO (deref r p) (sl4 l u) r
@[simp] theorem sl3_eq (p : Pl) (l u : Option Int) (r : En) : sl3 p l u r = oO (deref r p) (sl4 l u) r := rfl
def sl2 (hi : M (Option Int)) (p : Pl) (l : Option Int) (r : En) : R Pl := (hi r).b (sl3 p l)
@[simp] theorem sl2_eq (hi : M (Option Int)) (p : Pl) (l : Option Int) (r : En) : sl2 hi p l r = (hi r).b (sl3 p l) := rfl
def sl1 (lo hi : M (Option Int)) (p : Pl) (r : En) : R Pl := (lo r).b (sl2 hi (opP p))
@[simp] theorem sl1_eq (lo hi : M (Option Int)) (p : Pl) (r : En) : sl1 lo hi p r = (lo r).b (sl2 hi (opP p)) := rfl
def apK (ios : List Nat) (m : Fn) (ds : List D) (r : En) : R Pl := (m (ios.map (fun i => r.getD i .un) ++ ds.map .fz)).b r ios
@[simp] theorem apK_eq (ios : List Nat) (m : Fn) (ds : List D) (r : En) : apK ios m ds r = (m (ios.map (fun i => r.getD i .un) ++ ds.map .fz)).b r ios := rfl
def frS (i : Nat) (r : En) : Option Sl → R D
  | some (.own o) => .ok o.d (r.set i (.fz o.d))
  | some (.fz d) => .ok d r
  | _ => .st
@[simp] theorem frS_own (i : Nat) (r : En) (o : O) : frS i r (some (.own o)) = .ok o.d (r.set i (.fz o.d)) := rfl
@[simp] theorem frS_fz (i : Nat) (r : En) (d : D) : frS i r (some (.fz d)) = .ok d r := rfl
def frK (p : Pl) (r : En) : R D := match p with
  | .n o => .ok o.d r
  | .v d => .ok d r
  | .s i => frS i r r[i]?
@[simp] theorem frK_v (d : D) (r : En) : frK (.v d) r = .ok d r := rfl
@[simp] theorem frK_n (o : O) (r : En) : frK (.n o) r = .ok o.d r := rfl
@[simp] theorem frK_s (i : Nat) (r : En) : frK (.s i) r = frS i r r[i]? := rfl
def vK (i : Nat) (r : En) : Option Sl → R Pl
  | some (.fz d) => .ok (.v d) r
  | some (.own _) => .ok (.s i) r
  | _ => .st
@[simp] theorem vK_fz (i : Nat) (r : En) (d : D) : vK i r (some (.fz d)) = .ok (.v d) r := rfl
@[simp] theorem vK_own (i : Nat) (r : En) (o : O) : vK i r (some (.own o)) = .ok (.s i) r := rfl
section
variable {f a b c' : M Pl} {fs : M (List Pl)} {r : En}
@[simp] theorem opd_eq : opd f r = (f r).b oK := by unfold opd R.b; cases f r with
  | ok p r' => cases p <;> rfl
  | ex x r' => rfl
  | st => rfl
@[simp] theorem frz_eq : frz f r = (f r).b frK := by unfold frz R.b; cases f r with
  | ok p r' => cases p <;> rfl
  | ex x r' => rfl
  | st => rfl
@[simp] theorem eV_eq (i : Nat) : eV i r = vK i r r[i]? := rfl
@[simp] theorem eC_eq (d : D) : eC d r = .ok (.v d) r := rfl
@[simp] theorem pure_eq {α : Type} (x : α) : M.pure x r = .ok x r := rfl
@[simp] theorem aNil_eq : aNil r = .ok [] r := rfl
@[simp] theorem aCons_eq : aCons a fs r = (a r).b (acK fs) := by
  unfold aCons; rw [opd_eq]
  cases a r with
  | ok p r1 => simp only [R.b_ok, oK_eq, acK_eq]; cases fs r1 <;> rfl
  | _ => rfl
@[simp] theorem mCall_eq (g : List D → Option Pl) : mCall g fs r = (fs r).b (clK g) := by
  unfold mCall; cases fs r with
  | ok ps r1 => simp only [R.b_ok, clK_eq]; cases derefL r1 ps with
    | none => rfl
    | some ds => simp only [oO_some, gK_eq]; cases g ds <;> rfl
  | _ => rfl
@[simp] theorem mBin_eq (g : D → D → Option Pl) : mBin g a b r = (a r).b (bK1 g b) := by
  unfold mBin; rw [opd_eq]
  cases a r with
  | ok p r1 =>
    simp only [R.b_ok, oK_eq, bK1_eq, opd_eq]
    cases b r1 with
    | ok q r2 => simp only [R.b_ok, oK_eq, bK2_eq]; cases h1 : deref r2 (opP p) <;> cases h2 : deref r2 (opP q) <;> simp [z2] <;> (try rfl) <;> (try (cases g _ _ <;> rfl))
    | _ => rfl
  | _ => rfl
@[simp] theorem mUn_eq (g : D → Option Pl) : mUn g a r = (a r).b (dK (uK g)) := by
  unfold mUn; rw [opd_eq]
  cases a r with
  | ok p r1 => simp only [R.b_ok, oK_eq, dK_eq]; cases h1 : deref r1 (opP p) <;> simp <;> (try rfl) <;> (try (cases g _ <;> rfl))
  | _ => rfl
@[simp] theorem tst_eq : tst f r = (f r).b (dK (boK okK)) := by
  unfold tst; rw [opd_eq]
  cases f r with
  | ok p r1 => simp only [R.b_ok, oK_eq, dK_eq]; cases h1 : deref r1 (opP p) with
    | none => rfl
    | some d => cases d <;> rfl
  | _ => rfl
@[simp] theorem eAnd_eq : eAnd f a r = (f r).b (dK (boK (andK a))) := by
  unfold eAnd; rw [opd_eq]
  cases f r with
  | ok p r1 => simp only [R.b_ok, oK_eq, dK_eq]; cases h1 : deref r1 (opP p) with
    | none => rfl
    | some d => cases d <;> rfl
  | _ => rfl
@[simp] theorem eOr_eq : eOr f a r = (f r).b (dK (boK (orK a))) := by
  unfold eOr; rw [opd_eq]
  cases f r with
  | ok p r1 => simp only [R.b_ok, oK_eq, dK_eq]; cases h1 : deref r1 (opP p) with
    | none => rfl
    | some d => cases d <;> rfl
  | _ => rfl
@[simp] theorem eNot_eq : eNot f r = (f r).b (dK (boK notK)) := by
  unfold eNot; rw [opd_eq]
  cases f r with
  | ok p r1 => simp only [R.b_ok, oK_eq, dK_eq]; cases h1 : deref r1 (opP p) with
    | none => rfl
    | some d => cases d <;> rfl
  | _ => rfl
@[simp] theorem eChain_eq (g g' : D → D → Option Bool) : eChain g g' a b c' r = (a r).b (ch1 g g' b c') := by
  unfold eChain; rw [opd_eq]
  cases a r with
  | ok p r1 =>
    simp only [R.b_ok, oK_eq, ch1_eq, opd_eq]
    cases b r1 with
    | ok q r2 =>
      simp only [R.b_ok, oK_eq, ch2_eq]
      cases h1 : deref r2 (opP p) with
      | none => rfl
      | some d => cases h2 : deref r2 (opP q) with
        | none => rfl
        | some e =>
          simp only [b2_some]
          cases g d e with
          | none => rfl
          | some k => cases k with
            | false => rfl
            | true =>
              simp only [if_true, oO_some, ch4_eq]
              cases c' r2 with
              | ok t r3 => simp only [R.b_ok, oK_eq, ch5_eq]; cases h3 : deref r3 (opP q) <;> cases h4 : deref r3 (opP t) <;> (try rfl); simp only [b2_some]; cases g' _ _ <;> rfl
              | _ => rfl
    | _ => rfl
  | _ => rfl
@[simp] theorem mNot_eq {c : M Bool} : mNot c r = (c r).b ntK := by unfold mNot; cases c r <;> rfl
@[simp] theorem mAnd_eq {c d : M Bool} : mAnd c d r = (c r).b (aK d) := by unfold mAnd; cases c r <;> rfl
@[simp] theorem mOr_eq {c d : M Bool} : mOr c d r = (c r).b (rK d) := by unfold mOr; cases c r <;> rfl
@[simp] theorem mIf_eq {α : Type} {c : M Bool} {x y : M α} : mIf c x y r = (c r).b (ifK x y) := by unfold mIf; cases c r <;> rfl
@[simp] theorem mIsi_eq (n : String) : mIsi n f r = (f r).b (dK (isK n)) := by
  unfold mIsi; rw [opd_eq]
  cases f r with
  | ok p r1 => simp only [R.b_ok, oK_eq, dK_eq]; cases h1 : deref r1 (opP p) with
    | none => rfl
    | some d => simp only [oO_some, isK_eq]; cases isTy d n <;> rfl
  | _ => rfl
@[simp] theorem mIsi2_eq (n m : String) : mIsi2 n m f r = (f r).b (dK (isK2 n m)) := by
  unfold mIsi2; rw [opd_eq]
  cases f r with
  | ok p r1 => simp only [R.b_ok, oK_eq, dK_eq]; cases h1 : deref r1 (opP p) with
    | none => rfl
    | some d => simp only [oO_some, isK2_eq]; cases isTy d n with
      | none => rfl
      | some b => cases isTy d m <;> rfl
  | _ => rfl
@[simp] theorem lNil_eq : lNil r = .ok [] r := rfl
@[simp] theorem lCons_eq {f : M D} {fs : M (List D)} : lCons f fs r = (f r).b (lcK fs) := by
  unfold lCons; cases f r with
  | ok d r1 => simp only [R.b_ok, lcK_eq]; cases fs r1 <;> rfl
  | _ => rfl
@[simp] theorem eTup_eq {fs : M (List D)} : eTup fs r = (fs r).b tpK := by unfold eTup; cases fs r <;> rfl
@[simp] theorem eLst_eq {fs : M (List D)} : eLst fs r = (fs r).b lsK := by unfold eLst; cases fs r <;> rfl
@[simp] theorem mIter_eq {f : M D} : mIter f r = (f r).b itK := by
  unfold mIter; cases f r with
  | ok d r1 => simp only [R.b_ok, itK_eq]; cases itemsOf d <;> rfl
  | _ => rfl
@[simp] theorem oNone_eq : oNone r = .ok none r := rfl
@[simp] theorem oSome_eq : oSome f r = (f r).b (dK (inK smK)) := by
  unfold oSome; rw [opd_eq]
  cases f r with
  | ok p r1 => simp only [R.b_ok, oK_eq, dK_eq]; cases h1 : deref r1 (opP p) with
    | none => rfl
    | some d => cases d <;> rfl
  | _ => rfl
@[simp] theorem mSl_eq {lo hi : M (Option Int)} : mSl f lo hi r = (f r).b (sl1 lo hi) := by
  unfold mSl; rw [opd_eq]
  cases f r with
  | ok p r1 => simp only [R.b_ok, oK_eq, sl1_eq]; cases lo r1 with
    | ok l r2 => simp only [R.b_ok, sl2_eq]; cases hi r2 with
      | ok u r3 => simp only [R.b_ok, sl3_eq]; cases h1 : deref r3 (opP p) with
        | none => rfl
        | some d => simp only [oO_some, sl4_eq]; cases gSl d l u <;> rfl
      | _ => rfl
    | _ => rfl
  | _ => rfl
@[simp] theorem mApp_eq (ios : List Nat) (m : Fn) {fs : M (List D)} : mApp ios m fs r = if ios.all (fun i => hasSl r[i]?) = true then (fs r).b (apK ios m) else .st := by
  unfold mApp
  split
  · cases fs r with
    | ok ds r1 => simp only [R.b_ok, apK_eq]; cases m (ios.map (fun i => r1.getD i .un) ++ ds.map .fz) <;> rfl
    | _ => rfl
  · rfl
@[simp] theorem hasSl_fz (d : D) : hasSl (some (.fz d)) = true := rfl
@[simp] theorem hasSl_own (o : O) : hasSl (some (.own o)) = true := rfl
@[simp] theorem putIo_nil (io : En) : putIo r [] io = r := by unfold putIo; rfl
@[simp] theorem putIo_cons (i : Nat) (is : List Nat) (s : Sl) (io : En) : putIo r (i :: is) (s :: io) = putIo (r.set i s) is io := by rw [putIo]
end
def siK (f g : En → RS) (b : Bool) (r : En) : RS := if b = true then f r else g r
@[simp] theorem siK_eq (f g : En → RS) (b : Bool) (r : En) : siK f g b r = if b = true then f r else g r := rfl
def nxK {α : Type} (_ : α) (r : En) : RS := .nx r
@[simp] theorem nxK_eq {α : Type} (x : α) (r : En) : nxK x r = .nx r := rfl
def rtS (i : Nat) (r : En) : Option Sl → RS
  | some (.own o) => .rt (.n o) (r.set i .un)
  | some (.fz d) => .rt (.v d) r
  | _ => .st
@[simp] theorem rtS_own (i : Nat) (r : En) (o : O) : rtS i r (some (.own o)) = .rt (.n o) (r.set i .un) := rfl
@[simp] theorem rtS_fz (i : Nat) (r : En) (d : D) : rtS i r (some (.fz d)) = .rt (.v d) r := rfl
def rtK (p : Pl) (r : En) : RS := match p with
  | .s i => rtS i r r[i]?
  | p => .rt p r
@[simp] theorem rtK_v (r : En) (d : D) : rtK (.v d) r = .rt (.v d) r := rfl
@[simp] theorem rtK_n (r : En) (o : O) : rtK (.n o) r = .rt (.n o) r := rfl
@[simp] theorem rtK_s (r : En) (i : Nat) : rtK (.s i) r = rtS i r r[i]? := rfl
def ssK (i : Nat) (d : D) (r : En) : RS := if i < r.length then .nx (r.set i (.fz d)) else .st
@[simp] theorem ssK_eq (i : Nat) (d : D) (r : En) : ssK i d r = if i < r.length then .nx (r.set i (.fz d)) else .st := rfl
def setK (i : Nat) (p : Pl) (r : En) : RS := match p with
  | .n o => if i < r.length then .nx (r.set i (.own o)) else .st
  | p => (frK p r).s (ssK i)
@[simp] theorem setK_n (i : Nat) (r : En) (o : O) : setK i (.n o) r = if i < r.length then .nx (r.set i (.own o)) else .st := rfl
@[simp] theorem setK_v (i : Nat) (r : En) (d : D) : setK i (.v d) r = if i < r.length then .nx (r.set i (.fz d)) else .st := rfl
@[simp] theorem setK_s (i j : Nat) (r : En) : setK i (.s j) r = (frS j r r[j]?).s (ssK i) := rfl
def asK (g : D → M Unit) (d : D) (r : En) : RS := (g d r).s nxK
@[simp] theorem asK_eq (g : D → M Unit) (d : D) (r : En) : asK g d r = (g d r).s nxK := rfl
def gsK (fs : List D → M Unit) (ds : List D) (_ : Unit) (r : En) : R Unit := fs ds r
@[simp] theorem gsK_eq (fs : List D → M Unit) (ds : List D) (u : Unit) (r : En) : gsK fs ds u r = fs ds r := rfl
def mtO (i : Nat) (p : D × List D) (r : En) : R Pl := .ok (.v p.1) (r.set i (.own (.lst p.2)))
@[simp] theorem mtO_eq (i : Nat) (p : D × List D) (r : En) : mtO i p r = .ok (.v p.1) (r.set i (.own (.lst p.2))) := rfl
def mtS (g : List D → List D → Option (D × List D)) (i : Nat) (ds : List D) (r : En) : Option Sl → R Pl
  | some (.own (.lst l)) => oO (g l ds) (mtO i) r
  | _ => .st
@[simp] theorem mtS_own (g : List D → List D → Option (D × List D)) (i : Nat) (ds l : List D) (r : En) : mtS g i ds r (some (.own (.lst l))) = oO (g l ds) (mtO i) r := rfl
def mtK (g : List D → List D → Option (D × List D)) (i : Nat) (ds : List D) (r : En) : R Pl := mtS g i ds r r[i]?
@[simp] theorem mtK_eq (g : List D → List D → Option (D × List D)) (i : Nat) (ds : List D) (r : En) : mtK g i ds r = mtS g i ds r r[i]? := rfl
def sbO (i : Nat) (d : D) (l : List D) (j : Nat) (r : En) : R Unit := .ok () (r.set i (.own (.lst (l.set j d))))
@[simp] theorem sbO_eq (i : Nat) (d : D) (l : List D) (j : Nat) (r : En) : sbO i d l j r = .ok () (r.set i (.own (.lst (l.set j d)))) := rfl
def sbS (i : Nat) (d : D) (k : Int) (r : En) : Option Sl → R Unit
  | some (.own (.lst l)) => oO (ixN l.length k) (sbO i d l) r
  | _ => .st
@[simp] theorem sbS_own (i : Nat) (d : D) (k : Int) (l : List D) (r : En) : sbS i d k r (some (.own (.lst l))) = oO (ixN l.length k) (sbO i d l) r := rfl
def sbK (i : Nat) (d : D) (k : Int) (r : En) : R Unit := sbS i d k r r[i]?
@[simp] theorem sbK_eq (i : Nat) (d : D) (k : Int) (r : En) : sbK i d k r = sbS i d k r r[i]? := rfl
section
variable {r : En} {f g : En → RS} {a : M Pl}
@[simp] theorem sNil_eq : sNil r = .nx r := rfl
@[simp] theorem sSeq_eq : sSeq f g r = (f r).q g := by unfold sSeq RS.q; cases f r <;> rfl
@[simp] theorem sIf_eq {c : M Bool} : sIf c f g r = (c r).s (siK f g) := by unfold sIf; cases c r <;> rfl
@[simp] theorem sBreak_eq : sBreak r = .bk r := rfl
@[simp] theorem sCont_eq : sCont r = .ct r := rfl
@[simp] theorem sRetN_eq : sRetN r = .rt (.v .non) r := rfl
@[simp] theorem sRet_eq : sRet a r = (a r).s rtK := by
  unfold sRet R.s; cases a r with
  | ok p r1 => cases p <;> rfl
  | _ => rfl
@[simp] theorem sExpr_eq : sExpr a r = (a r).s nxK := by unfold sExpr; cases a r <;> rfl
@[simp] theorem sSet_eq (i : Nat) : sSet i a r = (a r).s (setK i) := by
  unfold sSet; cases a r with
  | ok p r1 => cases p with
    | n o => rfl
    | v d => rfl
    | s j =>
      have e : ∀ r', (frz (fun _ => R.ok (.s j) r1)) r' = frS j r1 r1[j]? := fun r' => by rw [frz_eq]; rfl
      simp only [e, R.s_ok, setK_s]
      have nex : ∀ x r2, frS j r1 r1[j]? ≠ .ex x r2 := fun x r2 h => by
        unfold frS at h; split at h <;> cases h
      cases h : frS j r1 r1[j]? with
      | ex x r2 => exact (nex x r2 h).elim
      | _ => rfl
  | _ => rfl
@[simp] theorem sAsg_eq {f : M D} {g : D → M Unit} : sAsg f g r = (f r).s (asK g) := by
  unfold sAsg; cases f r with
  | ok d r1 => simp only [R.s_ok, asK_eq]; cases g d r1 <;> rfl
  | _ => rfl
@[simp] theorem gN_eq (i : Nat) (d : D) : gN i d r = if i < r.length then .ok () (r.set i (.fz d)) else .st := rfl
@[simp] theorem gsNil_eq : gsNil [] r = .ok () r := rfl
@[simp] theorem gsCons_eq (f : D → M Unit) (fs : List D → M Unit) (d : D) (ds : List D) : gsCons f fs (d :: ds) r = (f d r).b (gsK fs ds) := by unfold gsCons; cases h : f d r <;> simp only [h] <;> rfl
@[simp] theorem gT_eq (n : Nat) (fs : List D → M Unit) (ds : List D) : gT n fs (.tup ds) r = if ds.length = n then fs ds r else .st := rfl
@[simp] theorem fnOf_eq (more nio : Nat) (b : En → RS) (ss : En) : fnOf more nio b ss = (b (ss ++ List.replicate more .un)).c nio := by
  unfold fnOf RS.c; cases b (ss ++ List.replicate more .un) with
  | rt p r => cases p <;> rfl
  | _ => rfl
@[simp] theorem isOwnL_lst (l : List D) : isOwnL (some (.own (.lst l))) = true := rfl
@[simp] theorem eMeth_eq (i : Nat) (g : List D → List D → Option (D × List D)) {fs : M (List D)} : eMeth i g fs r = if isOwnL r[i]? = true then (fs r).b (mtK g i) else .st := by
  unfold eMeth
  split
  · cases fs r with
    | ok ds r1 =>
      simp only [R.b_ok, mtK_eq]; unfold mtS
      split
      · rename_i l h; (try simp only [h]); cases g l ds with
        | none => rfl
        | some p => cases p; rfl
      · rename_i h
        first
          | rfl
          | (split
             · rename_i l h2; exact (h l h2).elim
             · rfl)
    | _ => rfl
  · rfl
@[simp] theorem gSubL_eq (i : Nat) (fk : M Pl) (d : D) : gSubL i fk d r = if isOwnL r[i]? = true then (fk r).b (dK (inK (sbK i d))) else .st := by
  unfold gSubL
  split
  · rw [opd_eq]
    cases fk r with
    | ok p r1 =>
      simp only [R.b_ok, oK_eq, dK_eq]
      cases h : deref r1 (opP p) with
      | none => rfl
      | some e => cases e with
        | int k =>
          simp only [oO_some, inK_eq, inD1_int, sbK_eq]
          unfold sbS
          split
          · rename_i k' l h1 h2
            cases h1
            simp only [h2]; cases ixN l.length k <;> rfl
          · rename_i h2
            split
            · rename_i l h3; exact (h2 k l rfl h3).elim
            · rfl
        | _ => simp only [oO_some, inK_eq]; rfl
    | _ => rfl
  · rfl
end
end NT

set_option Elab.async false
set_option linter.all false
set_option maxRecDepth 100000
set_option maxHeartbeats 1000000
namespace NT
open PySem PySem.Spec PyProof.Rows L2

/-! ### truths among whole numbers -/
def bI (b : Bool) : Int := if b = true then 1 else 0
section
variable {prog : Program} {w : World} {A : Around} {E : Value → Shared → Prop} {s : Shared} {Q : Value → Shared → Prop}
theorem sub_int_bool0 : isSubtype (.type "int") (.type "bool") = pure false := by kernel_rfl
theorem slot_int_rsub0 : Slot "int" (dunderR "sub") "int.__rsub__" := PySem.F.slot_int_rsub
theorem g_add_b (b : Bool) (j : Int) (u : Tok) : Gives (Builtin.«int.__add__» ⟨[.bool b, .int j u], []⟩) (.int ((if b = true then (1 : Int) else 0) + j)) :=
  .of_wp fun M A E s Q h => by obtain ⟨hp, g, d, tk, os⟩ := s; wp_walk; exact ⟨_, rfl, h⟩
theorem g_sub_b (b : Bool) (j : Int) (u : Tok) : Gives (Builtin.«int.__sub__» ⟨[.bool b, .int j u], []⟩) (.int ((if b = true then (1 : Int) else 0) - j)) :=
  .of_wp fun M A E s Q h => by obtain ⟨hp, g, d, tk, os⟩ := s; wp_walk; exact ⟨_, rfl, h⟩
theorem g_neg_b (b : Bool) : Gives (Builtin.«int.__neg__» ⟨[.bool b], []⟩) (.int (-(if b = true then (1 : Int) else 0))) :=
  .of_wp fun M A E s Q h => by obtain ⟨hp, g, d, tk, os⟩ := s; wp_walk; exact ⟨_, rfl, h⟩
theorem add_bI {b : Bool} {j : Int} {u : Tok} (h : Q (.int (bI b + j) s.toks) { s with toks := s.toks + 1 }) : wpAny (model prog w) A (binaryOp .Add (.bool b) (.int j u)) Q E s :=
  binaryOp_left_gives (op := .Add) (T := "bool") (U := "int") (by decide) rfl (fun s' => typeIs_int s' j u) PySem.F.fills_bool_add PySem.F.fills_int_add sub_int_bool0 PySem.F.slot_bool_add PySem.F.slot_int_radd PySem.F.entry_int_add (PySem.F.args_int_add_2 _ _) (g_add_b b j u) trivial h
theorem sub_bI {b : Bool} {j : Int} {u : Tok} (h : Q (.int (bI b - j) s.toks) { s with toks := s.toks + 1 }) : wpAny (model prog w) A (binaryOp .Sub (.bool b) (.int j u)) Q E s :=
  binaryOp_left_gives (op := .Sub) (T := "bool") (U := "int") (by decide) rfl (fun s' => typeIs_int s' j u) PySem.F.fills_bool_sub PySem.F.fills_int_sub sub_int_bool0 PySem.F.slot_bool_sub PySem.F.slot_int_rsub PySem.F.entry_int_sub (PySem.F.args_int_sub_2 _ _) (g_sub_b b j u) trivial h
theorem neg_bI {b : Bool} (h : Q (.int (-bI b) s.toks) { s with toks := s.toks + 1 }) : wpAny (model prog w) A (unaryOp .USub (.bool b)) Q E s :=
  unaryOp_gives (op := .USub) (T := "bool") rfl rfl PySem.F.slot_bool_neg PySem.F.entry_int_neg (PySem.F.args_int_neg_1 _) (g_neg_b b) h
end
section
variable {X : Cx}
def rAddX (K : PySem.W.Frag) : R2 := fun x y H Q => (∃ b j, x = V.bl b ∧ y = V.int j ∧ Q (.int (bI b + j)) H) ∨ rAdd K x y H Q
theorem op_addX : OpR X (binaryOp .Add) (rAddX X.K) := by
  intro pins s σ H x y v u Q I rx ry h
  rcases h with ⟨b, j, rfl, rfl, q⟩ | h
  · cases rx
    obtain ⟨t, rfl⟩ := ry
    exact add_bI ⟨.int _, H, I.tok _, ⟨_, rfl⟩, q⟩
  · exact op_addA pins s σ H x y v u Q I rx ry h
def rSubX : R2 := fun x y H Q => (∃ b j, x = V.bl b ∧ y = V.int j ∧ Q (.int (bI b - j)) H) ∨ rI0 (fun i j => .int (i - j)) x y H Q
theorem op_subX : OpR X (binaryOp .Sub) rSubX := by
  intro pins s σ H x y v u Q I rx ry h
  rcases h with ⟨b, j, rfl, rfl, q⟩ | h
  · cases rx
    obtain ⟨t, rfl⟩ := ry
    exact sub_bI ⟨.int _, H, I.tok _, ⟨_, rfl⟩, q⟩
  · exact op_sub pins s σ H x y v u Q I rx ry h
def rNegX : V → Hp → VK → Prop := fun x H Q => (∃ b, x = V.bl b ∧ Q (.int (-bI b)) H) ∨ rU (fun i => .int (-i)) x H Q
theorem un_negX : UnR X (unaryOp .USub) rNegX := by
  intro pins s σ H x v Q I rx h
  rcases h with ⟨b, rfl, q⟩ | h
  · cases rx
    exact neg_bI ⟨.int _, H, I.tok _, ⟨_, rfl⟩, q⟩
  · exact un_neg pins s σ H x v Q I rx h
def rStrX : List V → Hp → VK → Prop := fun xs H Q => (∃ b : Bool, xs = [V.bl b] ∧ Q (.str (if b then "True" else "False")) H) ∨ (∃ i : Int, xs = [V.int i] ∧ i.natAbs.log2 < 1920 ∧ Q (.str (toString i)) H)
theorem cr_strX : CallR X (.type "str") rStrX := by
  intro pins s σ H xs us Q I r h
  rcases h with ⟨b, rfl, q⟩ | h
  · obtain ⟨u, rfl, r1⟩ := vals1 r
    cases r1
    exact PySem.P.str_of_bool ⟨.str _, H, I.tok _, ⟨_, rfl⟩, q⟩
  · exact call_str_int pins s σ H xs us Q I r h
end
def gAddX : D → D → Option Pl
  | .bl b, .int j => some (.v (.int (bI b + j)))
  | d, e => gAdd d e
def gSubX : D → D → Option Pl
  | .bl b, .int j => some (.v (.int (bI b - j)))
  | d, e => gSub d e
def gNegX : D → Option Pl
  | .bl b => some (.v (.int (-bI b)))
  | d => gNeg d
def gStrX : List D → Option Pl
  | [.bl b] => some (.v (.str (if b then "True" else "False")))
  | ds => gStr ds
section
variable {K : PySem.W.Frag}
theorem sp_addX : BinSpec K (rAddX K) gAddX := fun H F x y d e z Q k h1 h2 hz q => by
  unfold gAddX at hz
  split at hz
  · cases hz
    exact .inl ⟨_, _, h1, h2, q _ _ (out_v k (.int _))⟩
  · exact .inr (sp_add H F x y d e z Q k h1 h2 hz q)
theorem sp_subX : BinSpec K rSubX gSubX := fun H F x y d e z Q k h1 h2 hz q => by
  unfold gSubX at hz
  split at hz
  · cases hz
    exact .inl ⟨_, _, h1, h2, q _ _ (out_v k (.int _))⟩
  · exact .inr (sp_sub H F x y d e z Q k h1 h2 hz q)
theorem sp_negX : UnSpec K rNegX gNegX := fun H F x d z Q k h1 hz q => by
  unfold gNegX at hz
  split at hz
  · cases hz
    exact .inl ⟨_, h1, q _ _ (out_v k (.int _))⟩
  · exact .inr (sp_neg H F x d z Q k h1 hz q)
theorem sp_strX : CallSpec K rStrX gStrX := fun H F xs ds z Q k h hz q => by
  unfold gStrX at hz
  split at hz
  · cases hz
    obtain ⟨v, rfl, h1⟩ := h.one
    exact .inl ⟨_, by rw [show v = V.bl _ from h1], q _ _ (out_v k (.str _))⟩
  · exact .inr (sp_str H F xs ds z Q k h hz q)
end
end NT

set_option Elab.async false
set_option linter.all false
set_option maxRecDepth 100000
set_option maxHeartbeats 1000000
namespace NT
open PySem PySem.Spec PyProof.Rows L2

/-! ### more pieces, step by step -/
def forK (g : D → M Unit) (b : En → RS) (ds : List D) (r : En) : RS := forL g b ds r
@[simp] theorem forK_eq (g : D → M Unit) (b : En → RS) (ds : List D) (r : En) : forK g b ds r = forL g b ds r := rfl
@[simp] theorem sFor_eq {it : M (List D)} {g : D → M Unit} {b : En → RS} {r : En} : sFor it g b r = (it r).s (forK g b) := by unfold sFor; cases it r <;> rfl
def RS.t (x : RS) (k : En → RS) : RS := match x with
  | .nx r => k r
  | .ct r => k r
  | .bk r => .nx r
  | .rt p r => .rt p r
  | .ex x r => .ex x r
  | .st => .st
@[simp] theorem RS.t_nx (r : En) (k : En → RS) : (RS.nx r).t k = k r := rfl
@[simp] theorem RS.t_ct (r : En) (k : En → RS) : (RS.ct r).t k = k r := rfl
@[simp] theorem RS.t_bk (r : En) (k : En → RS) : (RS.bk r).t k = .nx r := rfl
@[simp] theorem RS.t_rt (p : Pl) (r : En) (k : En → RS) : (RS.rt p r).t k = .rt p r := rfl
@[simp] theorem RS.t_ex (x : Exn) (r : En) (k : En → RS) : (RS.ex x r).t k = .ex x r := rfl
@[simp] theorem RS.t_st (k : En → RS) : RS.st.t k = .st := rfl
@[simp] theorem RS.t_ite {c : Prop} [Decidable c] (x y : RS) (k : En → RS) : (if c then x else y).t k = if c then x.t k else y.t k := by split <;> rfl
@[simp] theorem forL_nil (g : D → M Unit) (b : En → RS) (r : En) : forL g b [] r = .nx r := rfl
def turnK (b : En → RS) (k : En → RS) (_ : Unit) (r : En) : RS := (b r).t k
@[simp] theorem turnK_eq (b k : En → RS) (u : Unit) (r : En) : turnK b k u r = (b r).t k := rfl
theorem forL_cons (g : D → M Unit) (b : En → RS) (d : D) (ds : List D) (r : En) : forL g b (d :: ds) r = (g d r).s (turnK b (forL g b ds)) := by
  show (match g d r with
    | .ok _ r1 => match b r1 with
      | .nx r2 => forL g b ds r2
      | .ct r2 => forL g b ds r2
      | .bk r2 => .nx r2
      | .rt p r2 => .rt p r2
      | .ex x r2 => .ex x r2
      | .st => .st
    | .ex x r1 => .ex x r1
    | .st => .st) = _
  cases g d r with
  | ok u r1 => simp only [R.s_ok, turnK_eq]; cases b r1 <;> rfl
  | _ => rfl
def wbK (b : En → RS) (k : En → RS) (c : Bool) (r : En) : RS := if c = true then (b r).t k else .nx r
@[simp] theorem wbK_eq (b k : En → RS) (c : Bool) (r : En) : wbK b k c r = if c = true then (b r).t k else .nx r := rfl
theorem whileN_succ (c : M Bool) (b : En → RS) (n : Nat) (r : En) : whileN c b (n + 1) r = (c r).s (wbK b (whileN c b n)) := by
  show (match c r with
    | .ok k r1 => if k = true then (match b r1 with
      | .nx r2 => whileN c b n r2
      | .ct r2 => whileN c b n r2
      | .bk r2 => .nx r2
      | .rt p r2 => .rt p r2
      | .ex x r2 => .ex x r2
      | .st => .st) else .nx r1
    | .ex x r1 => .ex x r1
    | .st => .st) = _
  cases c r with
  | ok k r1 => simp only [R.s_ok, wbK_eq]; cases k with
    | true => simp only [if_true]; cases b r1 <;> rfl
    | false => rfl
  | _ => rfl
def rgD : List D → Option (List D)
  | [.int j] => if -(2 ^ 62) ≤ j ∧ j < 2 ^ 62 then some ((List.range j.toNat).map fun i => .int (i : Nat)) else none
  | _ => none
def rgK (ps : List Pl) (r : En) : R (List D) := oO (derefL r ps) (fun ds r => oO (rgD ds) okK r) r
@[simp] theorem rgK_eq (ps : List Pl) (r : En) : rgK ps r = oO (derefL r ps) (fun ds r => oO (rgD ds) okK r) r := rfl
@[simp] theorem mRange1_eq {fs : M (List Pl)} {r : En} : mRange1 fs r = (fs r).b rgK := by
  unfold mRange1; cases fs r with
  | ok ps r1 =>
    simp only [R.b_ok, rgK_eq]
    cases derefL r1 ps with
    | none => rfl
    | some ds =>
      simp only [oO_some]
      match ds with
      | [] => rfl
      | [.int j] =>
        simp only [rgD, Int.zero_add]
        split <;> rfl
      | [.non] => rfl
      | [.bl _] => rfl
      | [.str _] => rfl
      | [.tup _] => rfl
      | [.lst _] => rfl
      | [.dK _] => rfl
      | [.dT _] => rfl
      | [.scr _] => rfl
      | a :: _ :: _ => cases a <;> rfl
  | _ => rfl
def zpD : List D → Option (List D)
  | [a, b] => zipDD a b
  | _ => none
def zpK (ds : List D) (r : En) : R (List D) := oO (zpD ds) okK r
@[simp] theorem zpK_eq (ds : List D) (r : En) : zpK ds r = oO (zpD ds) okK r := rfl
@[simp] theorem mZip_eq {fs : M (List D)} {r : En} : mZip fs r = (fs r).b zpK := by
  unfold mZip; cases fs r with
  | ok ds r1 =>
    simp only [R.b_ok, zpK_eq]
    match ds with
    | [] => rfl
    | [_] => rfl
    | [a, b] => simp only [zpD]; cases zipDD a b <;> rfl
    | _ :: _ :: _ :: _ => rfl
  | _ => rfl
def enD : List D → Option (List D)
  | [.lst ds] => some (enumD 0 ds)
  | _ => none
def enK (ds : List D) (r : En) : R (List D) := oO (enD ds) okK r
@[simp] theorem enK_eq (ds : List D) (r : En) : enK ds r = oO (enD ds) okK r := rfl
@[simp] theorem mEnum_eq {fs : M (List D)} {r : En} : mEnum fs r = (fs r).b enK := by
  unfold mEnum; cases fs r with
  | ok ds r1 =>
    simp only [R.b_ok, enK_eq]
    match ds with
    | [] => rfl
    | [a] => cases a <;> rfl
    | a :: _ :: _ => cases a <;> rfl
  | _ => rfl
/-! d.get(k, x) where all three stand still -/
theorem eGetD_q {fd fk fx : M Pl} {r : En} {p q x : Pl} {d k xd : D} (h1 : opd fd r = .ok p r) (h2 : deref r p = some d) (h3 : isDict d = true) (h4 : opd fk r = .ok q r) (h5 : deref r q = some k) (h6 : frz fx r = .ok xd r) :
    eGetD fd fk fx r = match gDGet d k with
      | some (some v) => .ok (.v v) r
      | some none => .ok (.v xd) r
      | none => .st := by
  have op : opd (fun _ => R.ok p r) r = .ok p r := by
    cases p with
    | n o => unfold opd at h1; cases e : fd r with
      | ok p' r' => rw [e] at h1; cases p' <;> simp at h1
      | ex a b => rw [e] at h1; simp at h1
      | st => rw [e] at h1; simp at h1
    | v d => rfl
    | s i => rfl
  unfold eGetD
  rw [h1]
  simp only [h2, h3, if_true]
  unfold eGet
  rw [op]
  simp only [h2]
  rw [h4]
  simp only
  rw [h6]
  simp only [h2, h5]
  try rfl
end NT

set_option Elab.async false
set_option linter.all false
set_option maxRecDepth 100000
set_option maxHeartbeats 1000000
/-! enumerate of a tuple -/
namespace PySem
open Sem (wp)
theorem nt_en_new {v : Value} {o : Obj} {H : Heap → Prop} (B : Begins v o H) : Meets (Builtin.«enumerate.__new__» ⟨[.type "enumerate", v], []⟩) (fun _ R s => H s.heap ∧ R (.ok (.ret (.ref (s.heap.push o).objs.size))) { s with heap := (s.heap.push o).push { cls := .type "enumerate", data := .fields #[.none, .bool false, .ref s.heap.objs.size, rawInt 0, .none, .none] } }) :=
  .of_wp fun prog w A R s h => by
    obtain ⟨hp, g, d, tk, os⟩ := s
    obtain ⟨hH, hR⟩ := h
    have hs := sub_enumerate
    have bi : ∀ {A' : Around} {E Q : Value → Shared → Prop}, Q (.ref hp.objs.size) ⟨hp.push o, g, d, tk, os⟩ → wpAny (model prog w) A' (pyIter v) Q E ⟨hp, g, d, tk, os⟩ := fun z => B.iter prog w _ _ ⟨hp, g, d, tk, os⟩ _ hH z
    wp_walk using bi
    refine wpAny_stack_any fun _ => wpAny_pure ?_
    split
    · rename_i cl _ _ _ _ _
      cases (cl == Value.type "enumerate") <;> (wp_walk using bi; exact ⟨_, rfl, hR⟩)
    · (wp_walk using bi; exact ⟨_, rfl, hR⟩)
theorem nt_en_end {prog : Program} {w : World} {A : Around} {E : Value → Shared → Prop} {s : Shared} {e it t : Addr} {c : Int} {i : Nat} {items : Array Value} {old : Value} {Q : Option Value → Shared → Prop} (hh : A.handled = none) (he : IsEnum s.heap e it c old)
    (h1 : s.heap.IsTupleIter it t i) (h2 : s.heap.IsTuple t items) (h3 : items[i]? = none) (k : ∀ h', Heap.ExtBut it s.heap h' → Q none { s with heap := h' }) : wpAny (model prog w) A (pyNext (.ref e)) Q E s := by
  have ty : s.TypeIs (.ref e) "enumerate" := ⟨_, he, rfl⟩
  unfold pyNext
  refine wpAny_bind (wpAny_attempt (wpAny_callSpecial?_slot (name := Str.ofString "__next__") ty F.slot_enumerate_next (wpAny_call_entry F.slot_enumerate_next ty F.entry_enumerate_next ?_ (F.args_enumerate_next_1 _))))
  show wpAny _ _ (field (.ref e) 2 >>= _) _ _ _
  refine wpAny_bind (wpAny_field he rfl (x := .ref it) rfl (wpAny_bind (wpAny_nextOf_tuple_end hh h1 h2 h3 fun h' x a ⟨o, b, d⟩ => ?_)))
  exact wpAny_bind (wpAny_isInstance (T := "StopIteration") (b := true) ⟨o, b, d⟩ isSubtype_stop (wpAny_pure (k _ a)))
theorem nt_en_call {prog : Program} {w : World} {A : Around} {E : Value → Shared → Prop} {s : Shared} {v : Value} {o : Obj} {H : Heap → Prop} {Q : Value → Shared → Prop} (B : Begins v o H) (hH : H s.heap)
    (k : ∀ h', IsEnum h' (s.heap.objs.size + 1) s.heap.objs.size 0 .none → h'.get? s.heap.objs.size = some o → (∀ b q, s.heap.get? b = some q → h'.get? b = some q) → Q (.ref (s.heap.objs.size + 1)) { s with heap := h' }) : wpAny (model prog w) A (call (.type "enumerate") [v]) Q E s := by
  refine callType_new F.called_enumerate (by decide) (F.typeCall_enumerate_1 _) (F.newCall_enumerate_1 _) (fun b => F.args_object_init_2 b _) F.entry_enumerate_new (nt_en_new B) ⟨hH, ?_⟩
  have sz : (s.heap.push o).objs.size = s.heap.objs.size + 1 := Heap.size_push ..
  show _ ∧ _
  rw [sz]
  have ie : IsEnum ((s.heap.push o).push { cls := .type "enumerate", data := .fields #[.none, .bool false, .ref s.heap.objs.size, rawInt 0, .none, .none] }) (s.heap.objs.size + 1) s.heap.objs.size 0 .none := by
    have z := Heap.get?_push_size (s.heap.push o) (o := { cls := .type "enumerate", data := .fields #[.none, .bool false, .ref s.heap.objs.size, rawInt 0, .none, .none] }) rfl
    rw [sz] at z
    exact z
  exact ⟨⟨_, ie, rfl⟩, k _ ie (Heap.get?_push_of_some _ (Heap.get?_push_size _ B.free)) fun b q z => Heap.get?_push_of_some _ (Heap.get?_push_of_some _ z)⟩
end PySem
namespace NT
open PySem PySem.Spec PyProof.Rows L2
/-- the tuple at a at each turn, each item in a new pair -/
def IteT (K : PySem.W.Frag) (a : Addr) : It :=
  ⟨fun i H => ∃ (xs : List V) (x : V), SqT K H a xs ∧ xs[i]? = some x,
   fun i H v H' => ∃ T x, v = .ref T ∧ H T = none ∧ H' = upd H T (.tup [.int (i : Nat), x]) ∧ ∀ xs, SqT K H a xs → xs[i]? = some x,
   fun i H => ∃ xs : List V, SqT K H a xs ∧ xs.length ≤ i⟩
theorem turn_enumT {P : Program} {w : World} {K : PySem.W.Frag} {elts : List Expr} {kk : Nat} {tpos : Pos} (a e it : Addr) :
    Turn P w K (.Tuple elts kk tpos) (IteT K a) [e, it] e (fun i h => (∃ old, IsEnum h e it ((i : Nat) : Int) old) ∧ h.IsTupleIter it a i ∧ e ≠ it) where
  mem := by simp
  obj := fun i h st b hb => by
    obtain ⟨⟨old, he⟩, ⟨o, ho, hc, hd⟩, _⟩ := st
    rcases (by simpa using hb : b = e ∨ b = it) with rfl | rfl
    · exact ⟨_, he, fun v q => nomatch q⟩
    · exact ⟨o, ho, fun v q => by rw [hd] at q; cases q⟩
  keep := fun i h h' ⟨⟨old, he⟩, hi, hne⟩ k => ⟨⟨old, k e (by simp) _ he⟩, hi.at fun o q => k it (by simp) o q, hne⟩
  item := by
    intro X hP hw hK hc i pins s σ H E I hf st hg
    subst hP hw hK
    obtain ⟨⟨old, he⟩, hit, hne⟩ := st
    obtain ⟨xs, x, hq, hx⟩ := hg
    obtain ⟨its, rv, p, hz⟩ := I.tuple hq
    obtain ⟨u, hu, ru⟩ := rv.get hx
    have hel : e < s.heap.objs.size := Heap.lt_size he
    have hil : it < s.heap.objs.size := by obtain ⟨_, q, _⟩ := hit; exact Heap.lt_size q
    have hT0 : s.heap.IsTuple a its.toArray := p
    have nia : a ≠ it := fun z => by
      subst z
      obtain ⟨o1, q1, c1, _⟩ := hit
      obtain ⟨o2, q2, c2, _⟩ := hT0
      rw [q1] at q2; cases q2
      rw [c1] at c2
      exact absurd c2 (by decide)
    have nea : e ≠ a := fun z => by
      subst z
      obtain ⟨o2, q2, c2, _⟩ := hT0
      have q1 : s.heap.get? e = some _ := he
      rw [q1] at q2; cases q2
      exact absurd c2 (by show ¬ (Value.type "enumerate" = Value.type "tuple"); decide)
    have hlt : i < its.toArray.size := by
      have := (List.getElem?_eq_some_iff.mp hu).1
      simpa using this
    refine wpAny_pyNext_enum_itemD (Draws.tuple (A := X.A.in1) (I.ok.hd hc) it a nia its.toArray) he ⟨hit, hT0⟩ hlt hne (by simp; exact ⟨hne, nea⟩) fun y h' tk hy ho st' hT hsz hk => ?_
    have ey : y = u := by
      have : its.toArray[i]? = some u := by simpa using hu
      rw [this] at hy; cases hy; rfl
    subst ey
    refine ⟨_, rfl, wpAny_letOwnedTupleGo_enum (s := { s with heap := h', toks := tk + 1 }) ho fun h'' he' sb => ?_⟩
    have hT2 : h''.get? s.heap.objs.size = some { cls := .type "tuple", data := .seq #[.int i tk, y] } := (sb.2 _ (Nat.ne_of_gt hel)).trans hT
    have new : ObjOk X.prog X.w (upd H s.heap.objs.size (.tup [.int (i : Nat), x])) h'' s.heap.objs.size (.tup [.int (i : Nat), x]) :=
      ⟨by show 2 ≤ sizeLine; decide, [.int i tk, y], .cons ⟨_, rfl⟩ (.cons ru .nil), ⟨_, hT2, rfl, _, rfl⟩⟩
    have I1 : Inv X pins σ (upd H s.heap.objs.size (.tup [.int (i : Nat), x])) { s with heap := h'', toks := tk + 1 } :=
      I.turnedNew (ch := [e, it]) (fun b ob hb q => (sb.2 b (fun z => hb (by simp [z]))).trans (hk b ob (fun z => hb (by simp [z])) (fun z => hb (by simp [z])) q)) hf (Nat.le_refl _) new
    refine ⟨.ref s.heap.objs.size, _, I1, rfl, ⟨_, x, rfl, I.hok.fresh (Nat.le_refl _), rfl, fun ys hy => by rw [I.tuple_inj hy hq]; exact hx⟩, ⟨⟨y, ?_⟩, st'.1.at fun o q => (sb.2 it (Ne.symm hne)).trans q, hne⟩, fun b hb => ?_⟩
    · rw [show ((i + 1 : Nat) : Int) = (i : Int) + 1 by omega]; exact he'
    · have hb' : b < s.heap.objs.size := by
        rcases (by simpa using hb : b = e ∨ b = it) with rfl | rfl
        · exact hel
        · exact hil
      rw [upd_ne (Nat.ne_of_lt hb')]
      exact (hf b hb).1
  done := by
    intro X hP hw hK hc i pins s σ H E I hf st hg
    subst hP hw hK
    obtain ⟨⟨old, he⟩, hit, hne⟩ := st
    obtain ⟨xs, hq, hx⟩ := hg
    obtain ⟨its, rv, p, hz⟩ := I.tuple hq
    obtain ⟨f0, f1, f2, f3, f4, f5⟩ := hf it (by simp)
    have hl := rv.length
    have hT0 : s.heap.IsTuple a its.toArray := p
    exact nt_en_end (I.ok.hd hc) he hit hT0 (by simp; omega) fun h' eb => ⟨rfl, I.turned (t' := s.toks) (fun b o hb q => eb b o hb q) f0 f1 f3 f4 f5⟩
  self := fun A i s Q E st h => let ⟨⟨_, he⟩, _⟩ := st; wpAny_pyIter_enum he h
def iEnumT (K : PySem.W.Frag) (ta : TA) : TI := fun σ H R => ta σ H fun vs H1 => ∃ a xs, vs = [.ref a] ∧ SqT K H1 a xs ∧ R (IteT K a) H1
theorem pi_enumT {X : Cx} {e : Expr} {ta : TA} {p pos tpos : Pos} {elts : List Expr} {kk : Nat} (hg : Gl X "enumerate") (hm : X.mg "enumerate" = none) (ha : PA X [e] ta) (hs : starEach [e] X.env = [(false, eval e X.env)] := by rfl) :
    PI X (.Tuple elts kk tpos) (.Call (.Name "enumerate" p) [e] [] pos) (iEnumT X.K ta) := by
  refine ⟨fun pins s σ H R I h => Call_ (ld_blt I hg hm boot_enumerate (PyProof.Rows.callWith_type1 (thn (ha.run pos pins s σ H _ I h) fun us s1 ⟨vs, H1, I1, r1, q1⟩ => ?_) hs rfl))⟩
  obtain ⟨a, xs, rfl, hq, q⟩ := q1
  cases r1 with
  | cons r rr =>
    cases rr
    cases r
    obtain ⟨its, rv, p', hz⟩ := I1.tuple hq
    refine nt_en_call (begins_tuple a its.toArray) p' fun h' he ho hk => wpAny_pyIter_enum he ?_
    have I2 : Inv X pins σ H1 { s1 with heap := h' } := I1.kept (t' := s1.toks) hk
    refine ⟨s1.heap.objs.size + 1, [s1.heap.objs.size + 1, s1.heap.objs.size], _, _, H1, rfl, I2, turn_enumT a (s1.heap.objs.size + 1) s1.heap.objs.size, ⟨⟨.none, he⟩, ⟨_, ho, rfl, rfl⟩, Nat.succ_ne_self _⟩, fun b hb => ?_, q⟩
    have hle : s1.heap.objs.size ≤ b := by
      rcases (by simpa using hb : b = s1.heap.objs.size + 1 ∨ b = s1.heap.objs.size) with rfl | rfl
      · exact Nat.le_add_right _ _
      · exact Nat.le_refl _
    exact I1.fpOk hle (I1.hok.fresh hle)
theorem ItOk.enumT {K : PySem.W.Frag} {F : Hp} {a : Addr} {xs : List V} {ds : List D} (h : F a = some (.tup xs)) (r : RepL K F xs ds) : ItOk K (IteT K a) F (fun _ => none) (enumD 0 ds) := fun H F' s _ k i => by
  have hq : SqT K H a xs := .inl (.inl (k.tup (s _ _ h)))
  refine ⟨fun hi _ => ⟨xs, hq, by rw [enumD_len] at hi; rw [r.length]; exact hi⟩, fun d hd => ?_⟩
  rw [enumD_get] at hd
  cases e1 : ds[i]? with
  | none => rw [e1] at hd; cases hd
  | some d' =>
    rw [e1] at hd
    simp only [Option.map_some, Option.some.injEq, Nat.zero_add] at hd
    subst hd
    obtain ⟨v, hv, rv⟩ := r.get e1
    refine ⟨⟨xs, v, hq, hv⟩, fun x H' ⟨T, x', hx, hT, hH, y⟩ => ?_⟩
    subst hx hH
    have z := y xs hq
    rw [hv] at z; cases z
    exact outV_pair k hT (.int _) (rv.mono s)
/-- enumerate of a list or a tuple -/
def enDT : List D → Option (List D)
  | [.tup ds] => some (enumD 0 ds)
  | _ => none
def mEnumT (fs : M (List D)) : M (List D) := fun r => match fs r with
  | .ok ds r1 => oO (enDT ds) okK r1
  | .ex x r1 => .ex x r1
  | .st => .st
def enTK (ds : List D) (r : En) : R (List D) := oO (enDT ds) okK r
@[simp] theorem enTK_eq (ds : List D) (r : En) : enTK ds r = oO (enDT ds) okK r := rfl
@[simp] theorem mEnumT_eq {fs : M (List D)} {r : En} : mEnumT fs r = (fs r).b enTK := by
  unfold mEnumT; cases fs r <;> rfl
@[simp] theorem enDT_tup (ds : List D) : enDT [.tup ds] = some (enumD 0 ds) := rfl
theorem di_enumT {X : Cx} {P : List V} {E : XK} {e : Expr} {pos p tpos : Pos} {elts : List Expr} {kk : Nat} {fl : M (List D)} (hg : Gl X "enumerate") (hm : X.mg "enumerate" = none) (ha : DL X P E [e] fl) (hs : starEach [e] X.env = [(false, eval e X.env)] := by rfl) :
    DI X P E (.Tuple elts kk tpos) (.Call (.Name "enumerate" p) [e] [] pos) (mEnumT fl) :=
  ⟨PI.wk (pi_enumT hg hm ha.pa hs) fun σ H R ⟨r, F, Af, Rl, q⟩ => ⟨r, F, Af, Rl, by
    unfold mEnumT at q
    cases e1 : fl r with
    | ex x r' => rw [e1] at q; exact q
    | st => rw [e1] at q; exact q
    | ok ds r1 =>
      rw [e1] at q
      intro vs H1 F1 Af1 ex1 R1 rp1
      match ds, rp1, q with
      | [], _, q => exact q.elim
      | d :: _ :: _, _, q => cases d <;> exact q.elim
      | [d], .cons ra .nil, q =>
        cases ra with
        | tup ha ta => exact ⟨_, _, rfl, .inl (.inl (R1.keep.tup ha)), q _ _ H1 F1 Af1 ex1 R1 Held.none (ItOk.enumT ha ta)⟩
        | _ => exact q.elim⟩⟩
end NT

set_option Elab.async false
set_option linter.all false
set_option maxRecDepth 100000
set_option maxHeartbeats 1000000
/-! for k in d: a statement's walk over a dict's keys -/
namespace NT
open PySem PySem.Spec PyProof.Rows L2
def lockZ (a : Addr) (u : HO) (od : Obj) (Z : Ends) : Ends :=
  ⟨fun σ' H' => H' a = some (.frz od u) ∧ Z.nx σ' (upd H' a u), fun v H' => H' a = some (.frz od u) ∧ Z.rt v (upd H' a u), fun σ' H' => H' a = some (.frz od u) ∧ Z.bk σ' (upd H' a u), fun σ' H' => H' a = some (.frz od u) ∧ Z.ct σ' (upd H' a u)⟩
theorem PostS.lock {K : PySem.W.Frag} {mg : Str → Option Value} {P : List V} {E : XK} {H F : Hp} {Af : Nat → Fp} {r : RS} {Z : Ends} {a : Addr} {u : HO} {od : Obj} (hl : lk u) (h : H a = some u) (hF : F a = some u) (hA : ¬ U Af a) (hx : ∀ x r', r ≠ .ex x r') (q : PostS K mg P E H F Af r Z) :
    PostS K mg P E (upd H a (.frz od u)) F Af r (lockZ a u od Z) := by
  have st : ∀ {k : L2.St → Hp → Prop} {r' : En}, (∀ σ' H' F' Af', Ext H F (U Af) H' F' (U Af') → Rel K P r' σ' H' F' Af' → k σ' H') → ∀ σ' H' F' Af', Ext (upd H a (.frz od u)) F (U Af) H' F' (U Af') → Rel K P r' σ' H' F' Af' → H' a = some (.frz od u) ∧ k σ' (upd H' a u) := fun {k r'} q σ' H' F' Af' e R => by
    obtain ⟨z, e2⟩ := e.under h hA
    exact ⟨z, q σ' _ F' Af' e2 (R.unlock hl z (e.ff _ _ hF))⟩
  cases r with
  | nx r' => exact st (k := fun σ' H' => Z.nx σ' H') q
  | bk r' => exact st (k := fun σ' H' => Z.bk σ' H') q
  | ct r' => exact st (k := fun σ' H' => Z.ct σ' H') q
  | ex x r' => exact (hx x r' rfl).elim
  | st => exact q
  | rt p r' =>
    intro v σ' H' F' Af' T e R rp
    obtain ⟨z, e2⟩ := e.under h hA
    have hF' := e.ff _ _ hF
    refine ⟨z, q v σ' _ F' Af' T e2 (R.unlock hl z hF') ?_⟩
    cases p with
    | v d => exact rp
    | s i => exact rp
    | n o =>
      refine ⟨rp.1.mono (Same.refl _) fun b w t hw => ?_, rp.2⟩
      have zz := (rp.1.at t).2.1
      have ne : b ≠ a := fun q => by rw [q, hF'] at zz; cases zz
      rw [upd_ne ne]; exact ⟨hw, zz⟩
/-- what a for asks once its iterator has come -/
theorem for_in {K : PySem.W.Frag} {mg : Str → Option Value} {P : List V} {E : XK} {sl : List Nat} {f : D → M Unit} {b : En → RS} {ds : List D} {r0 : En} {σ : L2.St} {J : It} {G0 H0 F0 : Hp} {Af0 : Nat → Fp} {Z : Ends} (R0 : Rel K P r0 σ H0 F0 Af0) (hd0 : Held G0 H0 (U Af0)) (io : ItOk K J F0 G0 ds) (q0 : PostS K mg P E H0 F0 Af0 (forL f b ds r0) Z) :
    ∃ W : Nat → Nat → L2.St → Hp → Prop, (∃ m, W 0 m σ H0) ∧ ∀ i m σ H, W i m σ H → (J.stop i H ∧ Z.nx σ H) ∨ (J.go i H ∧ ∃ N : L2.St → Hp → Prop, (∀ σ' H', N σ' H' → ∃ m', m' < m ∧ W (i + 1) m' σ' H') ∧ ∀ x H', J.yld i H x H' → tG K mg P E sl f x σ H' fun σ2 H2 => tS K mg P E b { Z with nx := N, ct := N, bk := Z.nx } σ2 H2) := by
  refine ⟨fun i m σ H => m + i = ds.length ∧ ∃ r F Af, Rel K P r σ H F Af ∧ Same F0 F ∧ Held G0 H (U Af) ∧ PostS K mg P E H F Af (forL f b (ds.drop i) r) Z, ⟨ds.length, by omega, r0, F0, Af0, R0, Same.refl _, hd0, q0⟩, ?_⟩
  rintro i m σ H ⟨em, r, F, Af, R, sm, hd, q⟩
  obtain ⟨i1, i2⟩ := io H F sm hd.1 R.keep i
  by_cases hi : i < ds.length
  · rw [List.drop_eq_getElem_cons hi] at q
    obtain ⟨g1, g2⟩ := i2 ds[i] (List.getElem?_eq_getElem hi)
    refine .inr ⟨g1, fun σ' H' => ∃ r' F' Af', Rel K P r' σ' H' F' Af' ∧ Same F0 F' ∧ Held G0 H' (U Af') ∧ PostS K mg P E H' F' Af' (forL f b (ds.drop (i + 1)) r') Z, fun σ' H' w => ⟨m - 1, by omega, by omega, w⟩, fun x H' y => ?_⟩
    obtain ⟨F1, gr, rp⟩ := g2 x H' y
    have R1 := R.grow gr
    have ex1 : Ext H F (U Af) H' F1 (U Af) := gr.ext
    refine ⟨ds[i], r, F1, Af, R1, rp, ?_⟩
    unfold forL at q
    cases e1 : f ds[i] r with
    | ex x r2 => rw [e1] at q; exact PostX.from q ex1
    | st => rw [e1] at q; exact q.elim
    | ok u r2 =>
      rw [e1] at q
      simp only at q
      intro σ2 H2 F2 Af2 _ _ ex2 R2
      have ex12 := ex1.trans ex2
      refine ⟨r2, F2, Af2, R2, ?_⟩
      cases e2 : b r2 with
      | nx r3 => rw [e2] at q; exact fun σ' H' F' Af' ex R' => ⟨r3, F', Af', R', (sm.trans gr.ff).trans (ex2.ff.trans ex.ff), hd.ext (ex12.trans ex), PostS.from q (ex12.trans ex)⟩
      | ct r3 => rw [e2] at q; exact fun σ' H' F' Af' ex R' => ⟨r3, F', Af', R', (sm.trans gr.ff).trans (ex2.ff.trans ex.ff), hd.ext (ex12.trans ex), PostS.from q (ex12.trans ex)⟩
      | bk r3 => rw [e2] at q; exact fun σ' H' F' Af' ex R' => q σ' H' F' Af' (ex12.trans ex) R'
      | rt p r3 => rw [e2] at q; exact fun v σ' H' F' Af' T ex R' rp => q v σ' H' F' Af' T (ex12.trans ex) R' rp
      | ex x r3 => rw [e2] at q; exact PostX.from q ex12
      | st => rw [e2] at q; exact q.elim
  · rw [List.drop_of_length_le (by omega)] at q
    exact .inl ⟨i1 (by omega) (by omega), q σ H F Af Ext.refl R⟩
/-- nothing may be raised -/
def noEx (x : RS) : RS := match x with
  | .ex _ _ => .st
  | x => x
theorem noEx_nx (x : RS) : ∀ y r, noEx x ≠ .ex y r := fun y r h => by
  unfold noEx at h
  split at h
  · cases h
  · rename_i hx; exact hx _ _ h
theorem noEx_post {K : PySem.W.Frag} {mg : Str → Option Value} {P : List V} {E : XK} {H F : Hp} {Af : Nat → Fp} {x : RS} {Z : Ends} (q : PostS K mg P E H F Af (noEx x) Z) : PostS K mg P E H F Af x Z ∧ ∀ y r, x ≠ .ex y r := by
  cases x with
  | ex y r => exact q.elim
  | _ => exact ⟨q, fun _ _ h => by cases h⟩
def sForK (pk : En → Option D) (g : D → M Unit) (b : En → RS) : En → RS := fun r => match mKeys pk r with
  | .ok ds r1 => noEx (forL g b ds r1)
  | _ => .st
theorem forK_t {K : PySem.W.Frag} {mg : Str → Option Value} {P : List V} {E : XK} {sl : List Nat} {pk : En → Option D} {g : D → M Unit} {b : En → RS} {t0 : TE} (h0 : ∀ r F Af σ H d, Rel K P r σ H F Af → pk r = some d → ∃ v, Rep K F v d ∧ ∀ H', Keep F H' → ∀ Q : VK, Q v H' → t0 σ H' Q)
    (Z : Ends) (σ : L2.St) (H : Hp) (h : tS K mg P E (sForK pk g b) Z σ H) : tLock (tFor (iKeys t0) (tG K mg P E sl g) (tS K mg P E b)) Z σ H ∨ tFor (iKeys t0) (tG K mg P E sl g) (tS K mg P E b) Z σ H := by
  obtain ⟨r, F, Af, R, q⟩ := h
  unfold sForK mKeys at q
  cases e0 : pk r with
  | none => rw [e0] at q; exact q.elim
  | some d =>
    rw [e0] at q
    simp only at q
    obtain ⟨v, rp, kq⟩ := h0 r F Af σ H d R e0
    cases rp with
    | @dK a kvs l ha hk hr =>
      simp only [keysD] at q
      obtain ⟨q, nx⟩ := noEx_post q
      have na : ¬ U Af a := fun z => by have := (R.own z).2; rw [ha] at this; cases this
      rcases R.keep _ _ ha with z | ⟨_, o, z⟩
      · refine .inl ⟨a, .dK kvs, z, True.intro, fun od => ?_⟩
        have R' := R.lock (od := od) (u := .dK kvs) True.intro z (by rw [ha]; simp)
        refine kq _ R'.keep _ ⟨a, od, rfl, .inl ⟨kvs, upd_same, ?_⟩⟩
        exact for_in R' (held_one upd_same na) (ItOk.keysK hk) (PostS.lock (u := .dK kvs) True.intro z ha na nx q)
      · exact .inr (kq H R.keep _ ⟨a, o, rfl, .inl ⟨kvs, z, for_in R (held_one z na) (ItOk.keysK hk) q⟩⟩)
    | @dT a kvs l ha hk hr =>
      simp only [keysD] at q
      obtain ⟨q, nx⟩ := noEx_post q
      have na : ¬ U Af a := fun z => by have := (R.own z).2; rw [ha] at this; cases this
      rcases R.keep _ _ ha with z | ⟨_, o, z⟩
      · refine .inl ⟨a, .dT kvs, z, True.intro, fun od => ?_⟩
        have R' := R.lock (od := od) (u := .dT kvs) True.intro z (by rw [ha]; simp)
        refine kq _ R'.keep _ ⟨a, od, rfl, .inr ⟨kvs, upd_same, ?_⟩⟩
        exact for_in R' (held_one upd_same na) (ItOk.keysT hk) (PostS.lock (u := .dT kvs) True.intro z ha na nx q)
      · exact .inr (kq H R.keep _ ⟨a, o, rfl, .inr ⟨kvs, z, for_in R (held_one z na) (ItOk.keysT hk) q⟩⟩)
    | _ => exact q.elim
theorem ds_forK {X : Cx} {P : List V} {E : XK} {sl : List Nat} {tg e : Expr} {pk : En → Option D} {g : D → M Unit} {b : En → RS} {body : List Stmt} {pos : Pos} (hp : PassesOwn (model X.prog X.w) X.A X.env X.xe) (hcm : X.calm = true) (hi : PK X P e pk) (hg : DG X P E sl tg g) (hb : DB X P E body b) (hs : ∀ x, foldedSetIterable e X.env x = pure x := by intro _; rfl) :
    DS X P E (.For tg e body [] pos) (sForK pk g b) := by
  obtain ⟨t0, hp0, h0⟩ := hi.ex
  have base := ps_for (pos := pos) hp hcm (pi_keys (tg := tg) hp0) hg.pg hb.pss hs
  exact ⟨PS.wk (PS.or (ps_lock base) base) (forK_t h0)⟩
section
variable {X : Cx} {P : List V} {E : XK} {elt tg iter : Expr} {ifs : List Expr} {scope : Scope} {own : List (Str × Nat)} {pos spos py : Pos} {pk : En → Option D} {g : D → M Unit} {tt : M Bool} {te : M D} {y : Str} {i : Nat}
theorem ds_setCompK (hc : X.calm = true) (hN : X.N.Nodup) (hy : X.N[i]? = some y) (hyl : X.env.scope.names.lookup y = some .local) (hPi : P.length ≤ i) (hsw : swapsWith (.ListComp elt [⟨tg, iter, ifs, 0⟩] scope pos) (some (.Name y py)) spos.line X.env = pure true)
    (hP : ∀ v ∈ own.map (·.2), P.length ≤ v) (hi : PK X P iter pk) (ok : BlkOk X.N X.env.scope scope own)
    (hg : ∀ (s : Shared) (H : Hp) (C : Addr) (cl : List (Str × Addr)) (fp : List Addr), DG (X.blk s H scope (compEnvC scope cl C X.env) fp) P (fun _ _ _ => False) (own.map (·.2)) tg g) (ht : ∀ (s : Shared) (H : Hp) (C : Addr) (cl : List (Str × Addr)) (fp : List Addr), DP (X.blk s H scope (compEnvC scope cl C X.env) fp) P (fun _ _ _ => False) ifs tt)
    (he : ∀ (s : Shared) (H : Hp) (C : Addr) (cl : List (Str × Addr)) (fp : List Addr), DF (X.blk s H scope (compEnvC scope cl C X.env) fp) P (fun _ _ _ => False) elt te) (hs : ∀ x, foldedSetIterable iter X.env x = pure x := by intro _; rfl) :
    DS X P E (.Assign [.Name y py] (.ListComp elt [⟨tg, iter, ifs, 0⟩] scope pos) spos) (sSet i (mComp (own.map (·.2)) (mKeys pk) g tt te)) := by
  obtain ⟨t0, hp, h0⟩ := hi.ex
  have base := ps_setLc (own := own) (g := tG X.K X.mg P (fun _ _ _ => False) (own.map (fun x : Str × Nat => x.2)) g) (tt := tT X.K X.mg P (fun _ _ _ => False) tt) (te := tF X.K X.mg P (fun _ _ _ => False) te) hc hN hy hyl hsw (pi_keys (tg := tg) hp) ok (fun s H C cl fp => (hg s H C cl fp).pg) (fun s H C cl fp => (ht s H C cl fp).pts) (fun s H C cl fp => (he s H C cl fp).pe) hs
  exact ⟨PS.wk (PS.or (ps_lock base) base) fun Z σ H q => (compK_t hP h0 σ H _ (set_t hPi Z σ H q)).elim (fun ⟨d, u, h1, h2, h3⟩ => .inl ⟨d, u, h1, h2, h3⟩) .inr⟩
end
/-! step by step -/
@[simp] theorem noEx_rnx (r : En) : noEx (.nx r) = .nx r := rfl
@[simp] theorem noEx_rt (p : Pl) (r : En) : noEx (.rt p r) = .rt p r := rfl
def keysO (d : Option D) : Option (List D) := match d with
  | some d => keysD d
  | none => none
@[simp] theorem keysO_some (d : D) : keysO (some d) = keysD d := rfl
theorem sForK_eq {pk : En → Option D} {g : D → M Unit} {b : En → RS} {r : En} {d : D} {ds : List D} (h : pk r = some d) (hk : keysD d = some ds) : sForK pk g b r = noEx (forL g b ds r) := by
  unfold sForK mKeys
  rw [h]
  simp only [hk]
end NT

set_option Elab.async false
set_option linter.all false
set_option maxRecDepth 100000
set_option maxHeartbeats 1000000
/-! a, b = ({}, []): some new objects at once, each its name's own -/
namespace NT
open PySem PySem.Spec PyProof.Rows L2
def UT (Ts : List Fp) : Fp := fun a => ∃ T ∈ Ts, T a
/-- new objects that wait for their names -/
inductive PN (K : PySem.W.Frag) (H F : Hp) (Af : Nat → Fp) : List V → List Fp → List O → Prop
  | nil : PN K H F Af [] [] []
  | cons {v : V} {T : Fp} {o : O} {vs : List V} {Ts : List Fp} {os : List O} : OwnRep K H F v T o → (∀ a, T a → ¬ U Af a) → (∀ a, T a → ¬ UT Ts a) → PN K H F Af vs Ts os → PN K H F Af (v :: vs) (T :: Ts) (o :: os)
theorem PN.length {K : PySem.W.Frag} {H F : Hp} {Af : Nat → Fp} {vs : List V} {Ts : List Fp} {os : List O} (h : PN K H F Af vs Ts os) : vs.length = os.length := by
  induction h with
  | nil => rfl
  | cons _ _ _ _ ih => simp [ih]
def PostN (K : PySem.W.Frag) (mg : Str → Option Value) (P : List V) (E : XK) (σ : L2.St) (H F : Hp) (Af : Nat → Fp) (r : R (List O)) (Q : List V → Hp → Prop) : Prop := match r with
  | .ok os r' => ∀ vs Ts H' F' Af', Ext H F (U Af) H' F' (fun a => U Af' a ∨ UT Ts a) → Rel K P r' σ H' F' Af' → PN K H' F' Af' vs Ts os → Q vs H'
  | .ex x r' => PostX K mg P E H F Af x r' (fun _ => True)
  | .st => False
def tN (K : PySem.W.Frag) (mg : Str → Option Value) (P : List V) (E : XK) (f : M (List O)) : TA := fun σ H Q => ∃ r F Af, Rel K P r σ H F Af ∧ PostN K mg P E σ H F Af (f r) Q
structure DN (X : Cx) (P : List V) (E : XK) (es : List Expr) (f : M (List O)) : Prop where
  pa : PA X es (tN X.K X.mg P E f)
def nNil : M (List O) := M.pure []
def nCons (f : M Pl) (fs : M (List O)) : M (List O) := fun r => match f r with
  | .ok (.n o) r1 => match fs r1 with
    | .ok os r2 => .ok (o :: os) r2
    | .ex x r2 => .ex x r2
    | .st => .st
  | .ok _ _ => .st
  | .ex x r1 => .ex x r1
  | .st => .st
theorem OwnRep.over {K : PySem.W.Frag} {H F H' F' : Hp} {v : V} {T A A' : Fp} {o : O} (h : OwnRep K H F v T o) (e : Ext H F A H' F' A') (n : ∀ a, T a → ¬ A a) : OwnRep K H' F' v T o :=
  h.mono e.ff fun a u t hu => ⟨e.fr a u hu (n a t), by
    rcases e.new a (h.at t).2.1 with z | z | z
    · exact z
    · exact (h.nfx t z).elim
    · exact (n a t z).elim⟩
section
variable {X : Cx} {P : List V} {E : XK} {e : Expr} {es : List Expr} {f : M Pl} {fs : M (List O)} {pos : Pos}
theorem dn_nil : DN X P E [] nNil := ⟨PA.wk pa_nil fun σ H Q ⟨r, F, Af, R, q⟩ => q [] [] H F Af (Ext.refl.less fun a z => z.elim id fun ⟨_, h, _⟩ => (by simp at h)) R .nil⟩
theorem dn_cons (h : DE X P E e f) (hs : DN X P E es fs) (hst : starEach (e :: es) X.env = (false, eval e X.env) :: starEach es X.env := by rfl) : DN X P E (e :: es) (nCons f fs) :=
  ⟨PA.wk (pa_cons h.pe hs.pa hst) fun σ H Q ⟨r, F, Af, R, q⟩ => ⟨r, F, Af, R, by
    unfold nCons at q
    cases e1 : f r with
    | ex x r' => rw [e1] at q; exact q
    | st => rw [e1] at q; exact q
    | ok p r1 =>
      rw [e1] at q
      cases p with
      | v d => exact q.elim
      | s i => exact q.elim
      | n o =>
        simp only at q
        intro v H1 F1 Af1 T1 ex1 R1 rp1
        refine ⟨r1, F1, Af1, R1, ?_⟩
        cases e2 : fs r1 with
        | ex x r' => rw [e2] at q; exact PostX.from q ex1.noT
        | st => rw [e2] at q; exact q
        | ok os r2 =>
          rw [e2] at q
          simp only at q
          intro vs Ts H2 F2 Af2 ex2 R2 pn
          have b := ex1.noT.trans ex2
          have up : ∀ a, T1 a → ¬ (U Af2 a ∨ UT Ts a) := fun a t z => by
            rcases ex2.own a z with y | y
            · exact rp1.2 a t y
            · exact (rp1.1.at t).1 y
          refine q (v :: vs) (T1 :: Ts) H2 F2 Af2 ⟨b.fr, b.dom, b.ff, b.new, fun a z => ?_⟩ R2 (.cons (rp1.1.over ex2 rp1.2) (fun a t z => up a t (.inl z)) (fun a t z => up a t (.inr z)) pn)
          rcases z with z | ⟨T, hT, z⟩
          · exact b.own a (.inl z)
          · rcases List.mem_cons.mp hT with rfl | hT
            · exact ex1.own a (.inr z)
            · exact b.own a (.inr ⟨T, hT, z⟩)⟩⟩
end
def putN (r : En) : List Nat → List O → En
  | i :: is, o :: os => putN (r.set i (.own o)) is os
  | _, _ => r
def setN (σ : L2.St) : List Nat → List V → L2.St
  | i :: is, v :: vs => setN (σ.set i (some v)) is vs
  | _, _ => σ
theorem setN_rel {K : PySem.W.Frag} {P : List V} {H F : Hp} : ∀ {is : List Nat} {vs : List V} {Ts : List Fp} {os : List O} {r : En} {σ : L2.St} {Af : Nat → Fp}, (∀ i ∈ is, P.length ≤ i) → (∀ i ∈ is, i < r.length) → Rel K P r σ H F Af → PN K H F Af vs Ts os → is.length = os.length →
    ∃ Af', Rel K P (putN r is os) (setN σ is vs) H F Af' ∧ ∀ a, U Af' a → U Af a ∨ UT Ts a
  | [], _, _, _, r, σ, Af, _, _, R, .nil, _ => ⟨Af, R, fun a z => .inl z⟩
  | i :: is, _, _, _, r, σ, Af, hP, hi, R, .cons (v := v) (T := T) (o := o) (vs := vs) (Ts := Ts) (os := os) ow d1 d2 pn, hl => by
    have R1 := put_rel R i (.own o) v T (hP i List.mem_cons_self) (fun a t ⟨j, _, z⟩ => d1 a t ⟨j, z⟩) ⟨v, rfl, ow⟩ (hi i List.mem_cons_self)
    have up : ∀ a, U (fun j => if j = i then T else Af j) a → U Af a ∨ T a := fun a ⟨j, z⟩ => by
      by_cases hj : j = i
      · simp only [if_pos hj] at z; exact .inr z
      · simp only [if_neg hj] at z; exact .inl ⟨j, z⟩
    have pn1 : PN K H F (fun j => if j = i then T else Af j) vs Ts os := by
      have gen : ∀ {vs : List V} {Ts : List Fp} {os : List O}, PN K H F Af vs Ts os → (∀ a, T a → ¬ UT Ts a) → PN K H F (fun j => if j = i then T else Af j) vs Ts os := fun {vs Ts os} p => by
        induction p with
        | nil => exact fun _ => .nil
        | @cons v' T' o' vs' Ts' os' a b c p ih =>
          intro n
          refine .cons a (fun x t z => ?_) c (ih fun x t ⟨S, hS, z⟩ => n x t ⟨S, List.mem_cons_of_mem _ hS, z⟩)
          rcases up x z with q | q
          · exact b x t q
          · exact n x q ⟨T', List.mem_cons_self, t⟩
      exact gen pn d2
    obtain ⟨Af', R2, k⟩ := setN_rel (is := is) (fun j hj => hP j (List.mem_cons_of_mem _ hj)) (fun j hj => by rw [List.length_set]; exact hi j (List.mem_cons_of_mem _ hj)) R1 pn1 (by simpa using hl)
    refine ⟨Af', R2, fun a z => ?_⟩
    rcases k a z with q | ⟨S, hS, q⟩
    · exact (up a q).imp id fun t => ⟨T, List.mem_cons_self, t⟩
    · exact .inr ⟨S, List.mem_cons_of_mem _ hS, q⟩
/-- names as targets -/
structure DNm (X : Cx) (is : List Nat) (es : List Expr) : Prop where
  pgs : PGs X es fun vs σ H Q => vs.length = is.length ∧ Q (setN σ is vs) H
section
variable {X : Cx} {P : List V} {E : XK} {es vals : List Expr} {is : List Nat} {fs : M (List O)} {pos tp vp : Pos}
theorem dnm_nil : DNm X [] [] := ⟨PGs.wk pgs_nil fun vs σ H Q ⟨h, q⟩ => by
  cases vs with
  | nil => exact ⟨rfl, q⟩
  | cons v vs => cases h⟩
theorem dnm_cons {i : Nat} {x : Str} {p : Pos} (hN : X.N.Nodup) (hi : X.N[i]? = some x) (hx : Loc X.env.scope x) (h : DNm X is es) (hf : X.fn x = true ∨ X.env.scope.names.lookup x = some .local := by first | exact .inl rfl | exact .inr rfl | assumption) : DNm X (i :: is) (.Name x p :: es) :=
  ⟨PGs.wk (pgs_cons (pg_name hN hi hx hf) h.pgs) fun vs σ H Q ⟨hl, q⟩ => by
    cases vs with
    | nil => cases hl
    | cons v vs => exact ⟨v, vs, rfl, by simpa using hl, q⟩⟩
def sAsgN (is : List Nat) (fs : M (List O)) : En → RS := fun r => match fs r with
  | .ok os r1 => if os.length = is.length ∧ (∀ i ∈ is, i < r1.length) ∧ os.length ≤ sizeLine then .nx (putN r1 is os) else .st
  | .ex x r1 => .ex x r1
  | .st => .st
theorem ds_asgN {k k2 : Nat} (hc : X.calm = true) (hv : DN X P E vals fs) (ht : DNm X is es) (hP : ∀ i ∈ is, P.length ≤ i) (hn : (assignEach es X.env).length = is.length := by rfl) (hst : (assignEach es X.env).findIdx? (·.1) = none := by rfl)
    (hs : swapsWithSole [.Tuple es k tp] (.Tuple vals k2 vp) pos.line X.env = pure false := by rfl) (hw : swappedStores [.Tuple es k tp] (.Tuple vals k2 vp) X.env = pure none := by rfl) (h1 : (assignEach [.Tuple es k tp] X.env).map (·.2) = [assign (.Tuple es k tp) X.env] := by rfl) :
    DS X P E (.Assign [.Tuple es k tp] (.Tuple vals k2 vp) pos) (sAsgN is fs) :=
  ⟨PS.wk (ps_asg (pe_tup hv.pa) (pg_tup hc ht.pgs hn hst) hs hw h1) fun Z σ H ⟨r, F, Af, R, q⟩ => ⟨r, F, Af, R, by
    unfold sAsgN at q
    cases e1 : fs r with
    | ex x r1 => rw [e1] at q; exact q
    | st => rw [e1] at q; exact q
    | ok os r1 =>
      rw [e1] at q
      simp only at q
      intro vs Ts H1 F1 Af1 ex1 R1 pn
      by_cases hl : os.length = is.length ∧ (∀ i ∈ is, i < r1.length) ∧ os.length ≤ sizeLine
      · rw [if_pos hl] at q
        refine ⟨by rw [pn.length]; exact hl.2.2, fun p hp => ⟨p, vs, rfl, .inl (.inl upd_same), by rw [pn.length]; exact hl.1, by rw [pn.length]; exact hl.1, ?_⟩⟩
        have g := grow_own (o := .tup vs) R1.keep hp
        have R2 := R1.grow g
        have pn2 : PN X.K (upd H1 p (.tup vs)) F1 Af1 vs Ts os := by
          have gen : ∀ {ws : List V} {Ts : List Fp} {os : List O}, PN X.K H1 F1 Af1 ws Ts os → PN X.K (upd H1 p (.tup vs)) F1 Af1 ws Ts os := fun {ws Ts os} h => by
            induction h with
            | nil => exact .nil
            | cons a b c _ ih => exact .cons (a.mono (Same.refl _) fun x u t hu => ⟨by rw [upd_ne (ne_of_none hu hp)]; exact hu, (a.at t).2.1⟩) b c ih
          exact gen pn
        obtain ⟨Af', R3, k3⟩ := setN_rel hP hl.2.1 R2 pn2 hl.1.symm
        have ex2 := ex1.trans (g.ext (A := fun a => U Af1 a ∨ UT Ts a))
        exact q _ _ F1 Af' (ex2.less k3) R3
      · rw [if_neg hl] at q; exact q.elim⟩⟩
end
/-! the same of names of the def alone: nothing but the values is made -/
theorem par_fz {K : PySem.W.Frag} {mg : Str → Option Value} {P : List V} {E : XK} {H F : Hp} {Af : Nat → Fp} {Z : Ends} : ∀ {is : List Nat} {vs : List V} {ds : List D} {r : En} {Af1 : Nat → Fp} {H1 F1 : Hp} {σ : L2.St}, (∀ i ∈ is, P.length ≤ i) → Ext H F (U Af) H1 F1 (U Af1) → Rel K P r σ H1 F1 Af1 → RepL K F1 vs ds → is.length = ds.length →
    PostS K mg P E H F Af (((is.foldr (fun i g => gsCons (gN i) g) gsNil) ds r).s nxK) Z → Z.nx (setN σ is vs) H1
  | [], _, _, r, Af1, H1, F1, σ, _, ex, R, .nil, _, q => q σ H1 F1 Af1 ex R
  | i :: is, _, _, r, Af1, H1, F1, σ, hP, ex, R, .cons (v := v) (d := d) (vs := vs) (ds := ds) a t, hl, q => by
    simp only [List.foldr_cons, gsCons_eq, gN_eq] at q
    by_cases hi : i < r.length
    · rw [if_pos hi] at q
      have R1 := put_rel R i (.fz d) v (fun _ => False) (hP i List.mem_cons_self) (fun _ z => z.elim) ⟨⟨v, rfl, a⟩, fun _ => id⟩ hi
      exact par_fz (is := is) (vs := vs) (fun j hj => hP j (List.mem_cons_of_mem _ hj)) (put_ext (extF ex)) R1 t (by simpa using hl) q
    · rw [if_neg hi] at q; exact q.elim
section
variable {X : Cx} {P : List V} {E : XK} {a b c : Expr} {fs : M (List D)} {gs : M (List O)} {pos px py pz pt pt2 : Pos} {x y z : Str} {i j l kt k2 : Nat}
theorem ds_par2 (hc : X.calm = true) (hN : X.N.Nodup) (hi : X.N[i]? = some x) (hj : X.N[j]? = some y) (hij : i ≠ j) (hx : X.env.scope.names.lookup x = some .local) (hy : X.env.scope.names.lookup y = some .local) (hv : DL X P E [a, b] fs) (hP : ∀ k ∈ [i, j], P.length ≤ k)
    (hw : swappedStores [.Tuple [.Name x px, .Name y py] kt pt] (.Tuple [a, b] k2 pt2) X.env = pure (some [x, y]) := by rfl) (hs : swapsWithSole [.Tuple [.Name x px, .Name y py] kt pt] (.Tuple [a, b] k2 pt2) pos.line X.env = pure false := by rfl) :
    DS X P E (.Assign [.Tuple [.Name x px, .Name y py] kt pt] (.Tuple [a, b] k2 pt2) pos) (sAsg (frz (eTup fs)) (gT 2 (gsCons (gN i) (gsCons (gN j) gsNil)))) :=
  ⟨PS.wk (ps_par hc hN hi hj hij hx hy hv.pa hw hs) fun Z σ H ⟨r, F, Af, R, q⟩ => ⟨r, F, Af, R, by
    simp only [sAsg_eq, frz_eq, eTup_eq] at q
    cases e1 : fs r with
    | ex x r1 => rw [e1] at q; exact q
    | st => rw [e1] at q; exact q
    | ok ds r1 =>
      rw [e1] at q
      intro vs H1 F1 Af1 ex1 R1 rp1
      have hl := hv.len _ _ _ e1
      have hz : ds.length ≤ sizeLine := by rw [hl]; show 2 ≤ sizeLine; decide
      have hl2 : ds.length = 2 := hl
      simp only [NT.R.b_ok, tpK_eq, if_pos hz, frK_v, NT.R.s_ok, asK_eq, gT_eq, if_pos hl2] at q
      match ds, hl, rp1, q with
      | [d1, d2], _, .cons (v := v) a1 (.cons (v := w) a2 .nil), q => exact ⟨v, w, rfl, par_fz (is := [i, j]) (σ := σ) (by assumption) ex1 R1 (.cons a1 (.cons a2 .nil)) rfl q⟩⟩⟩
theorem ds_par3 (hc : X.calm = true) (hN : X.N.Nodup) (hi : X.N[i]? = some x) (hj : X.N[j]? = some y) (hk : X.N[l]? = some z) (hij : i ≠ j) (hil : i ≠ l) (hjl : j ≠ l) (hx : X.env.scope.names.lookup x = some .local) (hy : X.env.scope.names.lookup y = some .local) (hzz : X.env.scope.names.lookup z = some .local) (hv : DL X P E [a, b, c] fs) (hP : ∀ k ∈ [i, j, l], P.length ≤ k)
    (hw : swappedStores [.Tuple [.Name x px, .Name y py, .Name z pz] kt pt] (.Tuple [a, b, c] k2 pt2) X.env = pure (some [x, y, z]) := by rfl) (hs : swapsWithSole [.Tuple [.Name x px, .Name y py, .Name z pz] kt pt] (.Tuple [a, b, c] k2 pt2) pos.line X.env = pure false := by rfl) :
    DS X P E (.Assign [.Tuple [.Name x px, .Name y py, .Name z pz] kt pt] (.Tuple [a, b, c] k2 pt2) pos) (sAsg (frz (eTup fs)) (gT 3 (gsCons (gN i) (gsCons (gN j) (gsCons (gN l) gsNil))))) :=
  ⟨PS.wk (ps_par3 hc hN hi hj hk hij hil hjl hx hy hzz hv.pa hw hs) fun Z σ H ⟨r, F, Af, R, q⟩ => ⟨r, F, Af, R, by
    simp only [sAsg_eq, frz_eq, eTup_eq] at q
    cases e1 : fs r with
    | ex x r1 => rw [e1] at q; exact q
    | st => rw [e1] at q; exact q
    | ok ds r1 =>
      rw [e1] at q
      intro vs H1 F1 Af1 ex1 R1 rp1
      have hl := hv.len _ _ _ e1
      have hz : ds.length ≤ sizeLine := by rw [hl]; show 3 ≤ sizeLine; decide
      have hl2 : ds.length = 3 := hl
      simp only [NT.R.b_ok, tpK_eq, if_pos hz, frK_v, NT.R.s_ok, asK_eq, gT_eq, if_pos hl2] at q
      match ds, hl, rp1, q with
      | [d1, d2, d3], _, .cons (v := v) a1 (.cons (v := w) a2 (.cons (v := u) a3 .nil)), q => exact ⟨v, w, u, rfl, par_fz (is := [i, j, l]) (σ := σ) (by assumption) ex1 R1 (.cons a1 (.cons a2 (.cons a3 .nil))) rfl q⟩⟩⟩
def anK (is : List Nat) (os : List O) (r : En) : RS := if os.length = is.length ∧ (∀ i ∈ is, i < r.length) ∧ os.length ≤ sizeLine then .nx (putN r is os) else .st
theorem anK_post {K : PySem.W.Frag} {mg : Str → Option Value} {H F : Hp} {Af : Nat → Fp} {is : List Nat} {os : List O} {r1 : En} {σ : L2.St} {Z : Ends} {vs : List V} {Ts : List Fp} {H1 F1 : Hp} {Af1 : Nat → Fp} (hP : ∀ i ∈ is, P.length ≤ i) (ex1 : Ext H F (U Af) H1 F1 (fun a => U Af1 a ∨ UT Ts a)) (R1 : Rel K P r1 σ H1 F1 Af1) (pn : PN K H1 F1 Af1 vs Ts os)
    (q : PostS K mg P E H F Af (anK is os r1) Z) : os.length = is.length ∧ Z.nx (setN σ is vs) H1 := by
  unfold anK at q
  by_cases hl : os.length = is.length ∧ (∀ i ∈ is, i < r1.length) ∧ os.length ≤ sizeLine
  · rw [if_pos hl] at q
    obtain ⟨Af', R3, k3⟩ := setN_rel hP hl.2.1 R1 pn hl.1.symm
    exact ⟨hl.1, q _ _ F1 Af' (ex1.less k3) R3⟩
  · rw [if_neg hl] at q; exact q.elim
theorem ds_parN2 (hc : X.calm = true) (hN : X.N.Nodup) (hi : X.N[i]? = some x) (hj : X.N[j]? = some y) (hij : i ≠ j) (hx : X.env.scope.names.lookup x = some .local) (hy : X.env.scope.names.lookup y = some .local) (hv : DN X P E [a, b] gs) (hP : ∀ k ∈ [i, j], P.length ≤ k)
    (hw : swappedStores [.Tuple [.Name x px, .Name y py] kt pt] (.Tuple [a, b] k2 pt2) X.env = pure (some [x, y]) := by rfl) (hs : swapsWithSole [.Tuple [.Name x px, .Name y py] kt pt] (.Tuple [a, b] k2 pt2) pos.line X.env = pure false := by rfl) :
    DS X P E (.Assign [.Tuple [.Name x px, .Name y py] kt pt] (.Tuple [a, b] k2 pt2) pos) (sAsgN [i, j] gs) :=
  ⟨PS.wk (ps_par hc hN hi hj hij hx hy hv.pa hw hs) fun Z σ H ⟨r, F, Af, R, q⟩ => ⟨r, F, Af, R, by
    unfold sAsgN at q
    cases e1 : gs r with
    | ex x r1 => rw [e1] at q; exact q
    | st => rw [e1] at q; exact q
    | ok os r1 =>
      rw [e1] at q
      intro vs Ts H1 F1 Af1 ex1 R1 pn
      obtain ⟨h1, h2⟩ := anK_post hP ex1 R1 pn q
      have hl := pn.length.trans h1
      match vs, hl, h2 with
      | [v, w], _, h2 => exact ⟨v, w, rfl, h2⟩⟩⟩
theorem ds_parN3 (hc : X.calm = true) (hN : X.N.Nodup) (hi : X.N[i]? = some x) (hj : X.N[j]? = some y) (hk : X.N[l]? = some z) (hij : i ≠ j) (hil : i ≠ l) (hjl : j ≠ l) (hx : X.env.scope.names.lookup x = some .local) (hy : X.env.scope.names.lookup y = some .local) (hzz : X.env.scope.names.lookup z = some .local) (hv : DN X P E [a, b, c] gs) (hP : ∀ k ∈ [i, j, l], P.length ≤ k)
    (hw : swappedStores [.Tuple [.Name x px, .Name y py, .Name z pz] kt pt] (.Tuple [a, b, c] k2 pt2) X.env = pure (some [x, y, z]) := by rfl) (hs : swapsWithSole [.Tuple [.Name x px, .Name y py, .Name z pz] kt pt] (.Tuple [a, b, c] k2 pt2) pos.line X.env = pure false := by rfl) :
    DS X P E (.Assign [.Tuple [.Name x px, .Name y py, .Name z pz] kt pt] (.Tuple [a, b, c] k2 pt2) pos) (sAsgN [i, j, l] gs) :=
  ⟨PS.wk (ps_par3 hc hN hi hj hk hij hil hjl hx hy hzz hv.pa hw hs) fun Z σ H ⟨r, F, Af, R, q⟩ => ⟨r, F, Af, R, by
    unfold sAsgN at q
    cases e1 : gs r with
    | ex x r1 => rw [e1] at q; exact q
    | st => rw [e1] at q; exact q
    | ok os r1 =>
      rw [e1] at q
      intro vs Ts H1 F1 Af1 ex1 R1 pn
      obtain ⟨h1, h2⟩ := anK_post hP ex1 R1 pn q
      have hl := pn.length.trans h1
      match vs, hl, h2 with
      | [v, w, u], _, h2 => exact ⟨v, w, u, rfl, h2⟩⟩⟩
end
/-! step by step -/
def ncK2 (o : O) (os : List O) (r : En) : R (List O) := .ok (o :: os) r
@[simp] theorem ncK2_eq (o : O) (os : List O) (r : En) : ncK2 o os r = .ok (o :: os) r := rfl
def ncK (fs : M (List O)) (p : Pl) (r : En) : R (List O) := match p with
  | .n o => (fs r).b (ncK2 o)
  | _ => .st
@[simp] theorem ncK_n (fs : M (List O)) (o : O) (r : En) : ncK fs (.n o) r = (fs r).b (ncK2 o) := rfl
@[simp] theorem nNil_eq (r : En) : nNil r = .ok [] r := rfl
@[simp] theorem nCons_eq (f : M Pl) (fs : M (List O)) (r : En) : nCons f fs r = (f r).b (ncK fs) := by
  unfold nCons; cases f r with
  | ok p r1 => cases p with
    | n o => simp only [R.b_ok, ncK_n]; cases fs r1 <;> rfl
    | _ => rfl
  | _ => rfl
@[simp] theorem anK_eq (is : List Nat) (os : List O) (r : En) : anK is os r = if os.length = is.length ∧ (∀ i ∈ is, i < r.length) ∧ os.length ≤ sizeLine then .nx (putN r is os) else .st := rfl
@[simp] theorem sAsgN_eq (is : List Nat) (fs : M (List O)) (r : En) : sAsgN is fs r = (fs r).s (anK is) := by
  unfold sAsgN; cases fs r <;> rfl
@[simp] theorem putN_nil (r : En) (os : List O) : putN r [] os = r := by unfold putN; rfl
@[simp] theorem putN_cons (r : En) (i : Nat) (is : List Nat) (o : O) (os : List O) : putN r (i :: is) (o :: os) = putN (r.set i (.own o)) is os := by rw [putN]
@[simp] theorem eDK_eq (r : En) : eDK r = .ok (.n (.dK [])) r := rfl
@[simp] theorem eDT_eq (r : En) : eDT r = .ok (.n (.dT [])) r := rfl
end NT

set_option Elab.async false
set_option linter.all false
set_option maxRecDepth 100000
set_option maxHeartbeats 2000000
/-! [e for a in xs if t for b in ys] -/
namespace NT
open PySem PySem.Spec PyProof.Rows L2
def comp2L (vs vs1 : List Nat) (g : D → M Unit) (tt : M Bool) (it1 : M (List D)) (g1 : D → M Unit) (tt1 : M Bool) (te : M D) : List D → En → R (List D)
  | [], r => .ok [] r
  | d :: ds, r => match g d r with
    | .ok _ r1 => match tt r1 with
      | .ok b r2 => if b = true then (match it1 r2 with
        | .ok ds1 r3 => match compL vs1 g1 tt1 te ds1 (wipeE r3 vs1) with
          | .ok xs r4 => match comp2L vs vs1 g tt it1 g1 tt1 te ds (wipeE r4 vs) with
            | .ok ys r5 => .ok (xs ++ ys) r5
            | _ => .st
          | _ => .st
        | _ => .st) else comp2L vs vs1 g tt it1 g1 tt1 te ds (wipeE r2 vs)
      | _ => .st
    | _ => .st
def mComp2 (vs vs1 : List Nat) (it : M (List D)) (g : D → M Unit) (tt : M Bool) (it1 : M (List D)) (g1 : D → M Unit) (tt1 : M Bool) (te : M D) : M Pl := fun r => match it r with
  | .ok ds r0 => match comp2L vs vs1 g tt it1 g1 tt1 te ds (wipeE r0 vs) with
    | .ok xs r1 => if xs.length ≤ sizeLine then .ok (.n (.lst xs)) (restE r0 r1 vs) else .st
    | _ => .st
  | .ex x r1 => .ex x r1
  | .st => .st
theorem wipe_wipe (σ : L2.St) {vs vs1 : List Nat} (h : ∀ i ∈ vs1, i ∈ vs) : wipe (wipe σ vs1) vs = wipe σ vs := by
  apply List.ext_getElem?
  intro j
  by_cases hj : j ∈ vs
  · by_cases hl : j < σ.length
    · rw [wipe_in (wipe σ vs1) (by rw [wipe_length]; exact hl) hj, wipe_in σ hl hj]
    · rw [List.getElem?_eq_none (by rw [wipe_length, wipe_length]; omega), List.getElem?_eq_none (by rw [wipe_length]; omega)]
  · rw [wipe_out _ hj, wipe_out _ hj, wipe_out _ fun z => hj (h j z)]
/-- a walk over what f gives -/
def tSq (K : PySem.W.Frag) (mg : Str → Option Value) (P : List V) (E : XK) (f : M D) : TI := fun σ H R => tF K mg P E f σ H fun x H1 => ∃ d ds F, Keep F H1 ∧ Rep K F x d ∧ itemsOf d = some ds ∧ R (JOf K x d) H1
section
variable {K : PySem.W.Frag} {mg : Str → Option Value} {P : List V} {E : XK} {vs vs1 : List Nat} {g g1 : D → M Unit} {tt tt1 : M Bool} {te f1 : M D} {ds : List D} {r1 : En} {σ : L2.St} {J : It} {G0 H1 F1 : Hp} {Af1 : Nat → Fp}
/-- an outer turn's state behind: the list D holds acc -/
structure C2 (K : PySem.W.Frag) (P : List V) (G0 H1 F1 : Hp) (A1 : Fp) (τ : L2.St) (D : Addr) (acc : List NT.D) (r : En) (H : Hp) : Prop where
  ex : ∃ F Af accV, Rel K P r τ H F Af ∧ Ext H1 F1 A1 H F (U Af) ∧ ¬ U Af D ∧ F D = none ∧ H D = some (.lst accV) ∧ RepL K F accV acc
  sg : Same G0 H
theorem C2.held {A1 : Fp} {τ : L2.St} {D : Addr} {acc : List NT.D} {r : En} {H F : Hp} {Af : Nat → Fp} (hd : Held G0 H1 A1) (ex : Ext H1 F1 A1 H F (U Af)) : ∀ a, G0 a ≠ none → ¬ U Af a := fun a n z => (ex.own a z).elim (fun z => hd.2 a n z) fun z => by
  cases g : G0 a with
  | none => exact n g
  | some o => have := hd.1 a o g; rw [z] at this; cases this
theorem stay {D : Addr} {accV : List V} {H F H2 F2 : Hp} {Af Af2 : Nat → Fp} (hA : H D = some (.lst accV)) (nA : ¬ U Af D) (fA : F D = none) (ex2 : Ext H F (U Af) H2 F2 (U Af2)) : ¬ U Af2 D ∧ F2 D = none ∧ H2 D = some (.lst accV) :=
  ⟨fun z => (ex2.own D z).elim nA (fun z => by rw [hA] at z; cases z), (ex2.new D fA).elim id fun z => z.elim (fun z => by rcases z with z | ⟨_, z⟩ <;> (rw [hA] at z; cases z)) fun z => (nA z).elim, ex2.fr D _ hA nA⟩
theorem comp2_in (hP : ∀ v ∈ vs, P.length ≤ v) (hv : ∀ i ∈ vs1, i ∈ vs) (R1 : Rel K P r1 σ H1 F1 Af1) (hd1 : Held G0 H1 (U Af1)) (io : ItOk K J F1 G0 ds) {xs : List D} {re : En} (e1 : comp2L vs vs1 g tt (mIter f1) g1 tt1 te ds (wipeE r1 vs) = .ok xs re) (hl : xs.length ≤ sizeLine) {Q : VK}
    (q : Post K mg P E σ H1 F1 Af1 (.ok (.n (.lst xs)) (restE r1 re vs)) Q) : ∀ D, H1 D = none → ∃ W : Nat → Nat → Hp → Prop, (∃ m, W 0 m (upd H1 D (.lst []))) ∧ ∀ i m H, W i m H →
      (J.stop i H ∧ Q (.ref D) H) ∨ (J.go i H ∧ ∃ Nx : Hp → Prop, (∀ H', Nx H' → ∃ m', m' < m ∧ W (i + 1) m' H') ∧ ∀ x H', J.yld i H x H' → tG K mg P (fun _ _ _ => False) vs g x (wipe σ vs) H' fun σ2 H2 => wipe σ2 vs = wipe σ vs ∧ tT K mg P (fun _ _ _ => False) tt σ2 H2 fun b H3 =>
        if b = true then tSq K mg P (fun _ _ _ => False) f1 σ2 H3 fun J1 H4 => ∃ W1 : Nat → Nat → Hp → Prop, (∃ m, W1 0 m H4) ∧ ∀ j k H, W1 j k H → (J1.stop j H ∧ Nx H) ∨ (J1.go j H ∧ ∃ Nx1 : Hp → Prop, (∀ H', Nx1 H' → ∃ k', k' < k ∧ W1 (j + 1) k' H') ∧ ∀ x H', J1.yld j H x H' →
          tG K mg P (fun _ _ _ => False) vs1 g1 x (wipe σ2 vs1) H' fun σ3 H5 => wipe σ3 vs1 = wipe σ2 vs1 ∧ tT K mg P (fun _ _ _ => False) tt1 σ3 H5 fun b H6 => if b = true then tF K mg P (fun _ _ _ => False) te σ3 H6 fun y H7 => ∃ acc, H7 D = some (.lst acc) ∧ acc.length < sizeLine ∧ Nx1 (upd H7 D (.lst (acc ++ [y]))) else Nx1 H6)
        else Nx H3) := by
  intro D hD
  have hP1 : ∀ v ∈ vs1, P.length ≤ v := fun v h => hP v (hv v h)
  have Rw := R1.wipe hP
  have nD : ¬ U (wA Af1 vs) D := fun z => (R1.own (U_wA z)).1 hD
  have fD : F1 D = none := keep_none R1.keep hD
  have hdw : Held G0 H1 (U (wA Af1 vs)) := ⟨hd1.1, fun a n z => hd1.2 a n (U_wA z)⟩
  refine ⟨fun i m H => m + i = ds.length ∧ Same G0 H ∧ ∃ r F Af accV acc rs, Rel K P r (wipe σ vs) H F Af ∧ Ext H1 F1 (U (wA Af1 vs)) H F (U Af) ∧ ¬ U Af D ∧ F D = none ∧ H D = some (.lst accV) ∧ RepL K F accV acc ∧ comp2L vs vs1 g tt (mIter f1) g1 tt1 te (ds.drop i) r = .ok rs re ∧ acc ++ rs = xs,
    ⟨ds.length, by omega, fun a o e => by rw [upd_ne (ne_of_none (hd1.1 a o e) hD)]; exact hd1.1 a o e, wipeE r1 vs, F1, wA Af1 vs, [], [], xs, Rw.beside fD nD, ⟨fun a o e n => by rw [upd_ne (ne_of_none e hD)]; exact e, fun a e => ?_, Same.refl _, fun _ e => .inl e, fun _ e => .inl e⟩, nD, fD, upd_same, .nil, e1, rfl⟩, ?_⟩
  · by_cases ha : a = D
    · rw [ha, upd_same] at e; cases e
    · rw [upd_ne ha] at e; exact e
  rintro i m H ⟨em, sg, r, F, Af, accV, acc, rs, R, ex, nA, fA, hA, rA, ec, ea⟩
  obtain ⟨i1, i2⟩ := io H F ex.ff sg R.keep i
  have nG := C2.held (τ := σ) (D := D) (acc := acc) (r := r) hdw ex
  by_cases hi : i < ds.length
  · obtain ⟨go1, go2⟩ := i2 ds[i] (List.getElem?_eq_getElem hi)
    rw [List.drop_eq_getElem_cons hi] at ec
    unfold comp2L at ec
    cases c1 : g ds[i] r with
    | ex x r2 => rw [c1] at ec; cases ec
    | st => rw [c1] at ec; cases ec
    | ok u r2 =>
    rw [c1] at ec
    simp only at ec
    cases c2 : tt r2 with
    | ex x r3 => rw [c2] at ec; cases ec
    | st => rw [c2] at ec; cases ec
    | ok b r3 =>
    rw [c2] at ec
    simp only at ec
    refine .inr ⟨go1, fun H' => Same G0 H' ∧ ∃ r F Af accV acc rs, Rel K P r (wipe σ vs) H' F Af ∧ Ext H1 F1 (U (wA Af1 vs)) H' F (U Af) ∧ ¬ U Af D ∧ F D = none ∧ H' D = some (.lst accV) ∧ RepL K F accV acc ∧ comp2L vs vs1 g tt (mIter f1) g1 tt1 te (ds.drop (i + 1)) r = .ok rs re ∧ acc ++ rs = xs, fun H' w => ⟨m - 1, by omega, by omega, w⟩, fun x H' y => ?_⟩
    refine turn_test R (go2 x H' y) c1 c2 fun σ2 H2 F2 Af2 hw ex2 R2 => ?_
    obtain ⟨nA2, fA2, hA2⟩ := stay hA nA fA ex2
    cases b with
    | false =>
      rw [if_neg Bool.false_ne_true] at ec ⊢
      have R3 := R2.wipe hP
      rw [hw] at R3
      exact ⟨(Held.ext ⟨sg, nG⟩ ex2).1, wipeE r3 vs, F2, wA Af2 vs, accV, acc, rs, R3, (ex.trans ex2).less fun _ z => U_wA z, fun z => nA2 (U_wA z), fA2, hA2, rA.mono ex2.ff, ec, ea⟩
    | true =>
      rw [if_pos rfl] at ec ⊢
      cases c3 : f1 r3 with
      | ex x r4 => simp only [mIter, c3] at ec; cases ec
      | st => simp only [mIter, c3] at ec; cases ec
      | ok dd r4 =>
      cases c0 : itemsOf dd with
      | none => simp only [mIter, c3, c0] at ec; cases ec
      | some ds1 =>
      have c30 : mIter f1 r3 = .ok ds1 r4 := by simp only [mIter, c3, c0]
      rw [c30] at ec
      simp only at ec
      cases c4 : compL vs1 g1 tt1 te ds1 (wipeE r4 vs1) with
      | ex x r5 => rw [c4] at ec; cases ec
      | st => rw [c4] at ec; cases ec
      | ok xs1 r5 =>
      rw [c4] at ec
      simp only at ec
      cases c5 : comp2L vs vs1 g tt (mIter f1) g1 tt1 te (ds.drop (i + 1)) (wipeE r5 vs) with
      | ex x r6 => rw [c5] at ec; cases ec
      | st => rw [c5] at ec; cases ec
      | ok ys r6 =>
      rw [c5] at ec
      cases ec
      refine ⟨r3, F2, Af2, R2, ?_⟩
      rw [c3]
      intro v1 H4 F4 Af4 ex4 R4 rp4
      have io1 := ItOk.of rp4 c0
      refine ⟨dd, ds1, F4, R4.keep, rp4, c0, ?_⟩
      obtain ⟨nA4, fA4, hA4⟩ := stay hA2 nA2 fA2 ex4
      have exo := (ex.trans ex2).trans ex4
      have Rw4 := R4.wipe hP1
      have sg4 : Same G0 H4 := (Held.ext ⟨sg, nG⟩ (ex2.trans ex4)).1
      refine ⟨fun j k H => k + j = ds1.length ∧ Same G0 H ∧ ∃ r F Af accV acc1 rs1, Rel K P r (wipe σ2 vs1) H F Af ∧ Ext H1 F1 (U (wA Af1 vs)) H F (U Af) ∧ Same F4 F ∧ ¬ U Af D ∧ F D = none ∧ H D = some (.lst accV) ∧ RepL K F accV acc1 ∧ compL vs1 g1 tt1 te (ds1.drop j) r = .ok rs1 r5 ∧ acc1 ++ rs1 = acc ++ xs1,
        ⟨ds1.length, by omega, sg4, wipeE r4 vs1, F4, wA Af4 vs1, accV, acc, xs1, Rw4, exo.less fun _ z => U_wA z, Same.refl _, fun z => nA4 (U_wA z), fA4, hA4, rA.mono (ex2.ff.trans ex4.ff), c4, rfl⟩, ?_⟩
      rintro j k Hj ⟨ek, sgj, r, F, Af, accV, acc1, rs1, R, exo, exi, nA, fA, hA, rA, ec1, ea1⟩
      obtain ⟨j1, j2⟩ := io1 Hj F exi (fun _ _ e => nomatch e) R.keep j
      have nG0 := C2.held (τ := σ) (D := D) (acc := acc) (r := r) hdw exo
      by_cases hj : j < ds1.length
      · obtain ⟨gj1, gj2⟩ := j2 ds1[j] (List.getElem?_eq_getElem hj)
        rw [List.drop_eq_getElem_cons hj] at ec1
        unfold compL at ec1
        cases d1 : g1 ds1[j] r with
        | ex x r2 => rw [d1] at ec1; cases ec1
        | st => rw [d1] at ec1; cases ec1
        | ok u q2 =>
        rw [d1] at ec1
        simp only at ec1
        cases d2 : tt1 q2 with
        | ex x r3 => rw [d2] at ec1; cases ec1
        | st => rw [d2] at ec1; cases ec1
        | ok b q3 =>
        rw [d2] at ec1
        simp only at ec1
        refine .inr ⟨gj1, fun H' => Same G0 H' ∧ ∃ r F Af accV acc1 rs1, Rel K P r (wipe σ2 vs1) H' F Af ∧ Ext H1 F1 (U (wA Af1 vs)) H' F (U Af) ∧ Same F4 F ∧ ¬ U Af D ∧ F D = none ∧ H' D = some (.lst accV) ∧ RepL K F accV acc1 ∧ compL vs1 g1 tt1 te (ds1.drop (j + 1)) r = .ok rs1 r5 ∧ acc1 ++ rs1 = acc ++ xs1, fun H' w => ⟨k - 1, by omega, by omega, w⟩, fun x H' y => ?_⟩
        refine turn_test R (gj2 x H' y) d1 d2 fun σ3 H5 F5 Af5 hw5 ex5 R5 => ?_
        obtain ⟨nA5, fA5, hA5⟩ := stay hA nA fA ex5
        have sg5 := (Held.ext ⟨sgj, nG0⟩ ex5).1
        cases b with
        | false =>
          rw [if_neg Bool.false_ne_true] at ec1 ⊢
          have R6 := R5.wipe hP1
          rw [hw5] at R6
          exact ⟨sg5, wipeE q3 vs1, F5, wA Af5 vs1, accV, acc1, rs1, R6, (exo.trans ex5).less fun _ z => U_wA z, exi.trans ex5.ff, fun z => nA5 (U_wA z), fA5, hA5, rA.mono ex5.ff, ec1, ea1⟩
        | true =>
          rw [if_pos rfl] at ec1 ⊢
          cases d3 : te q3 with
          | ex x r4 => rw [d3] at ec1; cases ec1
          | st => rw [d3] at ec1; cases ec1
          | ok xd q4 =>
          rw [d3] at ec1
          simp only at ec1
          cases d4 : compL vs1 g1 tt1 te (ds1.drop (j + 1)) (wipeE q4 vs1) with
          | ex x r5 => rw [d4] at ec1; cases ec1
          | st => rw [d4] at ec1; cases ec1
          | ok rs' q5 =>
          rw [d4] at ec1
          cases ec1
          refine ⟨q3, F5, Af5, R5, ?_⟩
          rw [d3]
          intro v H6 F6 Af6 ex6 R6 rp6
          obtain ⟨nA6, fA6, hA6⟩ := stay hA5 nA5 fA5 ex6
          have hacc : accV.length < sizeLine := by
            rw [rA.length]
            have e2 : (acc1 ++ xd :: rs').length ≤ sizeLine := by
              rw [ea1]
              refine Nat.le_trans ?_ hl
              rw [← ea, List.length_append, List.length_append, List.length_append]
              omega
            rw [List.length_append, List.length_cons] at e2
            omega
          have R7 := R6.wipe hP1
          rw [hw5] at R7
          have exo6 := (exo.trans ex5).trans ex6
          have exi6 := (exi.trans ex5.ff).trans ex6.ff
          have sg6 := (Held.ext ⟨sgj, nG0⟩ (ex5.trans ex6)).1
          have nGD : ∀ a o, G0 a = some o → a ≠ D := fun a o e z => by
            have := hd1.1 a o e
            rw [z, hD] at this; cases this
          refine ⟨accV, hA6, hacc, fun a o e => by rw [upd_ne (nGD a o e)]; exact sg6 a o e, wipeE q4 vs1, F6, wA Af6 vs1, accV ++ [v], acc1 ++ [xd], rs', R7.beside fA6 fun z => nA6 (U_wA z), ⟨fun a o e n => ?_, fun a e => ?_, exo6.ff, exo6.new, fun a z => exo6.own a (U_wA z)⟩, exi6, fun z => nA6 (U_wA z), fA6, upd_same, (rA.mono (ex5.ff.trans ex6.ff)).append (.cons rp6 .nil), d4, by rw [← ea1]; simp⟩
          · rw [upd_ne (ne_of_none e hD)]; exact exo6.fr a o e n
          · by_cases ha : a = D
            · rw [ha, upd_same] at e; cases e
            · rw [upd_ne ha] at e; exact exo6.dom a e
      · rw [List.drop_of_length_le (by omega)] at ec1
        unfold compL at ec1
        cases ec1
        rw [List.append_nil] at ea1
        have R6 := R.wipe hP
        rw [wipe_wipe _ hv, hw] at R6
        refine .inl ⟨j1 (by omega) (by omega), sgj, wipeE r5 vs, F, wA Af vs, accV, acc1, ys, R6, exo.less fun _ z => U_wA z, fun z => nA (U_wA z), fA, hA, rA, c5, by rw [ea1, List.append_assoc]; exact ea⟩
  · rw [List.drop_of_length_le (by omega)] at ec
    unfold comp2L at ec
    cases ec
    rw [List.append_nil] at ea
    subst ea
    refine .inl ⟨i1 (by omega) (by omega), q (.ref D) H F _ (fun a => a = D) ?_ (R1.rest R ex) ⟨⟨D, accV, rfl, rfl, hA, fA, rA⟩, fun a ha ⟨j, z⟩ => ?_⟩⟩
    · have e2 := rest_ext ex hD
      exact ⟨fun a o e n => e2.fr a o e n, e2.dom, e2.ff, e2.new, e2.own⟩
    · subst ha
      by_cases hj : j ∈ vs
      · simp only [if_pos hj] at z; exact (R1.own ⟨j, z⟩).1 hD
      · simp only [if_neg hj] at z; exact nA ⟨j, z⟩
end
section
variable {X : Cx} {P : List V} {E : XK} {elt tg iter tg1 iter1 : Expr} {ifs ifs1 : List Expr} {scope : Scope} {own : List (Str × Nat)} {vs1 : List Nat} {pos : Pos} {it : M (List D)} {g g1 : D → M Unit} {tt tt1 : M Bool} {te f1 : M D}
theorem de_comp2 (hc : X.calm = true) (hN : X.N.Nodup) (hP : ∀ v ∈ own.map (·.2), P.length ≤ v) (hv : ∀ i ∈ vs1, i ∈ own.map (·.2)) (hi : DI X P E tg iter it) (ok : BlkOk X.N X.env.scope scope own)
    (hg : ∀ (s : Shared) (H : Hp) (C : Addr) (cl : List (Str × Addr)) (fp : List Addr), DG (X.blk s H scope (compEnvC scope cl C X.env) fp) P (fun _ _ _ => False) (own.map (·.2)) tg g) (ht : ∀ (s : Shared) (H : Hp) (C : Addr) (cl : List (Str × Addr)) (fp : List Addr), DP (X.blk s H scope (compEnvC scope cl C X.env) fp) P (fun _ _ _ => False) ifs tt)
    (hi1 : ∀ (s : Shared) (H : Hp) (C : Addr) (cl : List (Str × Addr)) (fp : List Addr), DF (X.blk s H scope (compEnvC scope cl C X.env) fp) P (fun _ _ _ => False) iter1 f1)
    (hg1 : ∀ (s : Shared) (H : Hp) (C : Addr) (cl : List (Str × Addr)) (fp : List Addr), DG (X.blk s H scope (compEnvC scope cl C X.env) fp) P (fun _ _ _ => False) vs1 tg1 g1) (ht1 : ∀ (s : Shared) (H : Hp) (C : Addr) (cl : List (Str × Addr)) (fp : List Addr), DP (X.blk s H scope (compEnvC scope cl C X.env) fp) P (fun _ _ _ => False) ifs1 tt1)
    (he : ∀ (s : Shared) (H : Hp) (C : Addr) (cl : List (Str × Addr)) (fp : List Addr), DF (X.blk s H scope (compEnvC scope cl C X.env) fp) P (fun _ _ _ => False) elt te) (hs : ∀ x, foldedSetIterable iter X.env x = pure x := by intro _; rfl) (hs1 : ∀ env x, foldedSetIterable iter1 env x = pure x := by intro _ _; rfl) :
    DE X P E (.ListComp elt [⟨tg, iter, ifs, 0⟩, ⟨tg1, iter1, ifs1, 0⟩] scope pos) (mComp2 (own.map (·.2)) vs1 it g tt (mIter f1) g1 tt1 te) := by
  refine ⟨PE.wk (pe_lc2 (g := tG X.K X.mg P (fun _ _ _ => False) (own.map (·.2)) g) (tt := tT X.K X.mg P (fun _ _ _ => False) tt) (te := tF X.K X.mg P (fun _ _ _ => False) te) (wi1 := tSq X.K X.mg P (fun _ _ _ => False) f1) (g1 := tG X.K X.mg P (fun _ _ _ => False) vs1 g1) (tt1 := tT X.K X.mg P (fun _ _ _ => False) tt1) (vs1 := vs1) hc hN hi.pi ok hv (fun s H C cl fp => (hg s H C cl fp).pg) (fun s H C cl fp => (ht s H C cl fp).pts) (fun s H C cl fp => pi_data (hi1 s H C cl fp).pe) (fun s H C cl fp => (hg1 s H C cl fp).pg) (fun s H C cl fp => (ht1 s H C cl fp).pts) (fun s H C cl fp => (he s H C cl fp).pe) hs hs1) fun σ H Q h => ?_⟩
  obtain ⟨r, F, Af, R, q⟩ := h
  refine ⟨r, F, Af, R, ?_⟩
  unfold mComp2 at q
  cases e0 : it r with
  | ex x r1 => rw [e0] at q; exact q
  | st => rw [e0] at q; exact q
  | ok ds r1 =>
    rw [e0] at q
    simp only at q
    intro J G0 H1 F1 Af1 ex1 R1 hd1 io
    cases e1 : comp2L (own.map (·.2)) vs1 g tt (mIter f1) g1 tt1 te ds (wipeE r1 (own.map (·.2))) with
    | ex x r2 => rw [e1] at q; exact q.elim
    | st => rw [e1] at q; exact q.elim
    | ok xs re =>
      rw [e1] at q
      simp only at q
      by_cases hl : xs.length ≤ sizeLine
      · rw [if_pos hl] at q
        exact comp2_in hP hv R1 hd1 io e1 hl (Post.from q ex1)
      · rw [if_neg hl] at q; exact q.elim
end
end NT

set_option Elab.async false
set_option linter.all false
set_option maxRecDepth 100000
set_option maxHeartbeats 1000000
/-! xs.index(text), dict(d) -/
namespace NT
open PySem PySem.Spec PyProof.Rows L2
def gIndex : D → D → Option Pl
  | .lst l, .str y => match strsD l with
    | some xs => if y ∈ xs then some (.v (.int (xs.idxOf y : Nat))) else none
    | none => none
  | _, _ => none
def isLstD : Option D → Bool
  | some (.lst _) => true
  | _ => false
def mIdx (fa fb : M Pl) : M Pl := fun r => match opd fa r with
  | .ok p r1 => if isLstD (deref r1 p) = true then (match opd fb r1 with
    | .ok p2 r2 => match deref r2 p, deref r2 p2 with
      | some d, some d2 => match gIndex d d2 with
        | some z => .ok z r2
        | none => .st
      | _, _ => .st
    | .ex x r2 => .ex x r2
    | .st => .st) else .st
  | .ex x r1 => .ex x r1
  | .st => .st
theorem idx_le {xs : List Str} {y : Str} : ∀ {m : Nat} {z : Str}, m < xs.idxOf y → xs[m]? = some z → z ≠ y := by
  induction xs with
  | nil => intro m z h _; simp at h
  | cons a xs ih =>
    intro m z h e
    rw [List.idxOf_cons] at h
    by_cases ha : (a == y) = true
    · rw [ha] at h; simp at h
    · have hf : (a == y) = false := by simpa using ha
      rw [hf] at h
      simp only [cond_false] at h
      cases m with
      | zero => simp at e; subst e; intro z; rw [z] at hf; simp at hf
      | succ m => exact ih (m := m) (by omega) (by simpa using e)
section
variable {X : Cx} {P : List V} {E : XK} {o k : Expr} {fd fk : M Pl} {apos cpos : Pos}
theorem de_index (ho : DE X P E o fd) (hk : DE X P E k fk) (hline : (apos.endLine == cpos.line) = true := by rfl) (hbase : attributeBase o "index" X.env (eval o X.env) = eval o X.env := by rfl)
    (hst : starEach [k] X.env = (false, eval k X.env) :: starEach [] X.env := by rfl) (hfew : (((backTo cpos (starEach [k] X.env)).all fun x => !x.1) && (backToKw cpos (keywordEach [] X.env)).all fun x => x.1.isSome) && decide (([k].length + ([] : List Keyword).length + if ([] : List Keyword).isEmpty = true then 0 else 1) < 30) = true := by rfl) (hpl : (backTo cpos (starEach [] X.env)).any (·.1) = false := by rfl) : DE X P E (.Call (.Attribute o "index" apos) [k] [] cpos) (mIdx fd fk) :=
  ⟨PE.wk (pe_bm PySem.F.plainAttrs_list PySem.F.slot_list_index PySem.F.type_list_index mt_index ho.opd.pe (pa_cons hk.opd.pe pa_nil hst) (hbase := hbase) (hfew := hfew) (hline := hline) (hs := hst) (hplain := hpl)) fun σ H Q ⟨r, F, Af, R, q⟩ => ⟨r, F, Af, R, by
    unfold mIdx at q
    cases e1 : opd fd r with
    | ex x r' => rw [e1] at q; exact q
    | st => rw [e1] at q; exact q
    | ok p r1 =>
      rw [e1] at q
      simp only at q
      intro v1 H1 F1 Af1 T1 ex1 R1 rp1
      by_cases hl : isLstD (deref r1 p) = true
      · rw [if_pos hl] at q
        have ty : tyV X.K "list" v1 H1 := by
          cases e0 : deref r1 p with
          | none => rw [e0] at hl; cases hl
          | some d =>
            rw [e0] at hl
            cases d with
            | lst l =>
              obtain ⟨a, xs, rfl, h1, _⟩ := PlRep.rd R1 rp1 e0
              exact .inl ⟨rfl, xs, .inl (.inl h1)⟩
            | _ => cases hl
        refine ⟨ty, r1, F1, Af1, R1, ?_⟩
        cases e2 : opd fk r1 with
        | ex x r' => rw [e2] at q; exact PostX.from q ex1.noT
        | st => rw [e2] at q; exact q
        | ok p2 r2 =>
          rw [e2] at q
          simp only at q
          intro v2 H2 F2 Af2 T2 ex2 R2 rp2
          have l1 : PlL X.K F2 σ [v1] [p] := by
            cases p with
            | v d => exact .v (rp1.1.mono ex2.ff) .nil
            | s i => exact .s rp1.1 .nil
            | n o => exact (opd_ne e1).elim
          cases e3 : deref r2 p with
          | none => rw [e3] at q; exact q.elim
          | some d =>
            cases e4 : deref r2 p2 with
            | none => rw [e3, e4] at q; exact q.elim
            | some d2 =>
              rw [e3, e4] at q
              simp only at q
              have rd1 : RdF X.K H2 F2 v1 d := by
                have t := PlL.rd (ds := [d]) R2 l1 (by unfold derefL; rw [e3]; rfl)
                cases t with
                | cons t _ => exact t
              have rd2 := PlRep.rd R2 rp2 e4
              cases d with
              | lst l =>
                cases d2 with
                | str y =>
                  cases e5 : strsD l with
                  | none => simp only [gIndex, e5] at q; exact q.elim
                  | some xs =>
                    by_cases hy : y ∈ xs
                    · simp only [gIndex, e5, if_pos hy] at q
                      obtain ⟨a, vs, rfl, h1, h2⟩ := rd1
                      rw [strsD_map e5] at h2
                      have ev := repL_strs h2
                      subst ev
                      obtain rfl : v2 = .str y := rd2
                      have hlt := List.idxOf_lt_length_of_mem hy
                      have hget : xs[xs.idxOf y]? = some y := by
                        rw [List.getElem?_eq_getElem hlt]
                        simp
                      refine ⟨a, xs.map V.str, .str y, xs.idxOf y, .str y, rfl, rfl, .inl (.inl h1), rfl, ?_, ?_, ?_, ?_, ?_⟩
                      · rw [List.all_map, List.all_eq_true]; exact fun _ _ => rfl
                      · rw [List.getElem?_map, hget]; rfl
                      · exact beq_self_eq_true y
                      · intro m z' hm hz
                        rw [List.getElem?_map] at hz
                        cases e6 : xs[m]? with
                        | none => rw [e6] at hz; cases hz
                        | some z =>
                          rw [e6] at hz
                          cases hz
                          have := idx_le hm e6
                          show (z == y) = false
                          simpa using this
                      · exact q _ H2 F2 Af2 (fun _ => False) (extF (ex1.noT.trans ex2.noT)) R2 ⟨.int _, fun _ => id⟩
                    · simp only [gIndex, e5, if_neg hy] at q; exact q.elim
                | _ => simp only [gIndex] at q; exact q.elim
              | _ => simp only [gIndex] at q; exact q.elim
      · rw [if_neg hl] at q; exact q.elim⟩⟩
end
def gDictD : List D → Option Pl
  | [.dK l] => some (.n (.dK l))
  | _ => none
theorem sp_dictD {X : Cx} : CallSpec X.K (fun xs H Q => ∃ (a : Addr) (kvs : List (Key × V)), xs = [.ref a] ∧ Rd H a (.dK kvs) ∧ ∀ p, H p = none → Q (.ref p) (upd H p (.dK kvs))) gDictD := fun H F xs ds z Q k h hz q => by
  unfold gDictD at hz
  split at hz
  · cases hz
    obtain ⟨v, rfl, a, kvs, rfl, h1, h2, h3⟩ := h.one
    exact ⟨a, kvs, rfl, h1, fun p hp => q _ _ (out_dK k hp h2 h3)⟩
  · cases hz
/-! step by step -/
def ixK2 (p : Pl) (p2 : Pl) (r : En) : R Pl := match deref r p, deref r (opP p2) with
  | some d, some d2 => zK (gIndex d d2) r
  | _, _ => .st
def ixK1 (fb : M Pl) (p : Pl) (r : En) : R Pl := if isLstD (deref r (opP p)) = true then (fb r).b (ixK2 (opP p)) else .st
@[simp] theorem ixK1_eq (fb : M Pl) (p : Pl) (r : En) : ixK1 fb p r = if isLstD (deref r (opP p)) = true then (fb r).b (ixK2 (opP p)) else .st := rfl
theorem ixK2_of {p p2 : Pl} {r : En} {d d2 : D} (h1 : deref r p = some d) (h2 : deref r (opP p2) = some d2) : ixK2 p p2 r = zK (gIndex d d2) r := by
  unfold ixK2; rw [h1, h2]
@[simp] theorem ixK2_vv (d d2 : D) (r : En) : ixK2 (.v d) (.v d2) r = zK (gIndex d d2) r := rfl
@[simp] theorem ixK2_sv (i : Nat) (d2 : D) (r : En) : ixK2 (.s i) (.v d2) r = oO (slD r[i]?) (fun d r => zK (gIndex d d2) r) r := by
  unfold ixK2; rw [deref_s]; cases slD r[i]? <;> rfl
@[simp] theorem isLstD_lst (l : List D) : isLstD (some (.lst l)) = true := rfl
@[simp] theorem mIdx_eq (fa fb : M Pl) (r : En) : mIdx fa fb r = (fa r).b (ixK1 fb) := by
  unfold mIdx; rw [opd_eq]
  cases fa r with
  | ok p r1 =>
    simp only [R.b_ok, oK_eq, ixK1_eq]
    split
    · rw [opd_eq]
      cases fb r1 with
      | ok p2 r2 =>
        simp only [R.b_ok, oK_eq]
        unfold ixK2
        cases deref r2 (opP p) <;> cases deref r2 (opP p2) <;> (try rfl)
        (try simp only)
        (try (cases gIndex _ _ <;> rfl))
      | _ => rfl
    · rfl
  | _ => rfl
theorem strsD_strs : ∀ l : List Str, strsD (l.map D.str) = some l
  | [] => rfl
  | a :: l => by simp [strsD, strsD_strs l]
theorem gIndex_strs {xs : List Str} {y : Str} (h : y ∈ xs) : gIndex (.lst (xs.map D.str)) (.str y) = some (.v (.int (xs.idxOf y : Nat))) := by
  simp [gIndex, strsD_strs, h]
end NT

set_option Elab.async false
set_option linter.all false
set_option maxRecDepth 100000
set_option maxHeartbeats 1000000
/-! zip of a list and a tuple -/
namespace NT
open PySem PySem.Spec PyProof.Rows L2
def ItzM (K : PySem.W.Frag) (a b : Addr) : It :=
  ⟨fun i H => ∃ (xs ys : List V) (x y : V), SqL K H a xs ∧ SqT K H b ys ∧ xs[i]? = some x ∧ ys[i]? = some y,
   fun i H v H' => ∃ T x y, v = .ref T ∧ H T = none ∧ H' = upd H T (.tup [x, y]) ∧ (∀ xs, SqL K H a xs → xs[i]? = some x) ∧ ∀ ys, SqT K H b ys → ys[i]? = some y,
   fun i H => ∃ xs ys : List V, SqL K H a xs ∧ SqT K H b ys ∧ i ≤ xs.length ∧ i ≤ ys.length ∧ (i = xs.length ∨ i = ys.length)⟩
theorem li_ne {h : Heap} {a it : Addr} {i : Nat} {its : Array Value} (h1 : h.IsListIter it a i) (h2 : h.IsList a its) : a ≠ it := fun z => by
  subst z
  obtain ⟨o1, q1, c1, _⟩ := h1
  obtain ⟨o2, q2, c2, _⟩ := h2
  rw [q1] at q2; cases q2
  rw [c1] at c2
  exact absurd c2 (by decide)
theorem ti_ne {h : Heap} {a it : Addr} {i : Nat} {its : Array Value} (h1 : h.IsTupleIter it a i) (h2 : h.IsTuple a its) : a ≠ it := fun z => by
  subst z
  obtain ⟨o1, q1, c1, _⟩ := h1
  obtain ⟨o2, q2, c2, _⟩ := h2
  rw [q1] at q2; cases q2
  rw [c1] at c2
  exact absurd c2 (by decide)
theorem turn_zipM {P : Program} {w : World} {K : PySem.W.Frag} {elts : List Expr} {kk : Nat} {tpos : Pos} {a b z TI TO i1 i2 : Addr} (S : ZipSep2 z TI TO i1 i2 [i1, a] [i2, b]) :
    Turn P w K (.Tuple elts kk tpos) (ItzM K a b) [z, TI, TO, i1, i2] z (fun i h => IsZip h z TI TO .none ∧ IsTupOf2 h TI (.ref i1) (.ref i2) ∧ (∃ x y, IsTupOf2 h TO x y) ∧ h.IsListIter i1 a i ∧ h.IsTupleIter i2 b i) where
  mem := by simp
  obj := fun i h st c hc => by
    obtain ⟨hz, hTI, ⟨x, y, hTO⟩, ⟨o1, e1, _, d1⟩, ⟨o2, e2, _, d2⟩⟩ := st
    rcases (by simpa using hc : c = z ∨ c = TI ∨ c = TO ∨ c = i1 ∨ c = i2) with rfl | rfl | rfl | rfl | rfl
    · exact ⟨_, hz, fun v q => nomatch q⟩
    · exact ⟨_, hTI, fun v q => nomatch q⟩
    · exact ⟨_, hTO, fun v q => nomatch q⟩
    · exact ⟨o1, e1, fun v q => by rw [d1] at q; cases q⟩
    · exact ⟨o2, e2, fun v q => by rw [d2] at q; cases q⟩
  keep := fun i h h' ⟨hz, hTI, ⟨x, y, hTO⟩, h1, h2⟩ k => ⟨k z (by simp) _ hz, k TI (by simp) _ hTI, ⟨x, y, k TO (by simp) _ hTO⟩, h1.at fun o q => k i1 (by simp) o q, h2.at fun o q => k i2 (by simp) o q⟩
  item := by
    intro X hP hw hK hc i pins s σ H E I hf st hg
    subst hP hw hK
    obtain ⟨hz, hTI, ⟨x0, y0, hTO⟩, h1, h2⟩ := st
    obtain ⟨xs, ys, x, y, hqx, hqy, hx, hy⟩ := hg
    obtain ⟨its, rv, p, _⟩ := I.list hqx
    obtain ⟨its2, rv2, p2, _⟩ := I.tuple hqy
    obtain ⟨u, hu, ru⟩ := rv.get hx
    obtain ⟨u2, hu2, ru2⟩ := rv2.get hy
    have hL : s.heap.IsList a its.toArray := p.isList
    have hT0 : s.heap.IsTuple b its2.toArray := p2
    have hzl : z < s.heap.objs.size := Heap.lt_size hz
    have lt1 : i < its.toArray.size := by simpa using (List.getElem?_eq_some_iff.mp hu).1
    have lt2 : i < its2.toArray.size := by simpa using (List.getElem?_eq_some_iff.mp hu2).1
    refine wpAny_pyNext_zipD2_item S (Draws.list (A := X.A.in1) (I.ok.hd hc) i1 a (li_ne h1 hL) its.toArray) (Draws.tuple (A := X.A.in1) (I.ok.hd hc) i2 b (ti_ne h2 hT0) its2.toArray) hz hTI hTO ⟨h1, hL⟩ ⟨h2, hT0⟩ lt1 lt2 fun v1 v2 h' tk y1 y2 z' TO' st1 st2 hT hsz hk => ?_
    have e1 : v1 = u := by
      have q : its.toArray[i]? = some u := by simpa using hu
      rw [q] at y1; cases y1; rfl
    have e2 : v2 = u2 := by
      have q : its2.toArray[i]? = some u2 := by simpa using hu2
      rw [q] at y2; cases y2; rfl
    subst e1 e2
    refine ⟨_, rfl, wpAny_letOwnedTupleGo_zip (s := { s with heap := h', toks := tk }) z' fun h'' z'' sb => ?_⟩
    have hT2 : h''.get? s.heap.objs.size = some { cls := .type "tuple", data := .seq #[v1, v2] } := (sb.2 _ (Nat.ne_of_gt hzl)).trans hT
    have new : ObjOk X.prog X.w (upd H s.heap.objs.size (.tup [x, y])) h'' s.heap.objs.size (.tup [x, y]) :=
      ⟨by show 2 ≤ sizeLine; decide, [v1, v2], .cons ru (.cons ru2 .nil), ⟨_, hT2, rfl, _, rfl⟩⟩
    have I1 : Inv X pins σ (upd H s.heap.objs.size (.tup [x, y])) { s with heap := h'', toks := tk } :=
      I.turnedNew (ch := [z, TI, TO, i1, i2]) (fun c o hb q => (sb.2 c (fun q' => hb (by simp [q']))).trans (hk c o (fun q' => hb (by simp [q'])) (fun q' => hb (by simp [q'])) (fun q' => hb (by simp [q'])) (fun q' => hb (by simp [q'])) q)) hf (Nat.le_refl _) new
    have i1z : i1 ≠ z := fun q => S.zf1 (by rw [← q]; exact S.mem1)
    have i2z : i2 ≠ z := fun q => S.zf2 (by rw [← q]; exact S.mem2)
    refine ⟨.ref s.heap.objs.size, _, I1, rfl, ⟨_, x, y, rfl, I.hok.fresh (Nat.le_refl _), rfl, fun l hl => by rw [I.list_inj hl hqx]; exact hx, fun l hl => by rw [I.tuple_inj hl hqy]; exact hy⟩, ⟨z'', ?_, ⟨v1, v2, ?_⟩, ?_, ?_⟩, fun c hcm => ?_⟩
    · exact (sb.2 _ S.TIz).trans (hk _ _ S.TIz S.TITO S.TIi1 S.TIi2 hTI)
    · exact (sb.2 _ S.TOz).trans TO'
    · exact st1.1.at fun o q => (sb.2 _ i1z).trans q
    · exact st2.1.at fun o q => (sb.2 _ i2z).trans q
    · have hlt : c < s.heap.objs.size := by
        rcases (by simpa using hcm : c = z ∨ c = TI ∨ c = TO ∨ c = i1 ∨ c = i2) with q | q | q | q | q
        · rw [q]; exact hzl
        · rw [q]; exact Heap.lt_size hTI
        · rw [q]; exact Heap.lt_size hTO
        · rw [q]; obtain ⟨_, e1, _⟩ := h1; exact Heap.lt_size e1
        · rw [q]; obtain ⟨_, e2, _⟩ := h2; exact Heap.lt_size e2
      rw [upd_ne (Nat.ne_of_lt hlt)]
      exact (hf c hcm).1
  done := by
    intro X hP hw hK hc i pins s σ H E I hf st hg
    subst hP hw hK
    obtain ⟨hz, hTI, ⟨x0, y0, hTO⟩, h1, h2⟩ := st
    obtain ⟨xs, ys, hqx, hqy, le1, le2, hend⟩ := hg
    obtain ⟨its, rv, p, _⟩ := I.list hqx
    obtain ⟨its2, rv2, p2, _⟩ := I.tuple hqy
    have hL : s.heap.IsList a its.toArray := p.isList
    have hT0 : s.heap.IsTuple b its2.toArray := p2
    have l1 : its.toArray.size = xs.length := by rw [List.size_toArray, ← rv.length]
    have l2 : its2.toArray.size = ys.length := by rw [List.size_toArray, ← rv2.length]
    refine wpAny_pyNext_zipD2_end S (Draws.list (A := X.A.in1) (I.ok.hd hc) i1 a (li_ne h1 hL) its.toArray) (Draws.tuple (A := X.A.in1) (I.ok.hd hc) i2 b (ti_ne h2 hT0) its2.toArray) hz hTI hTO ⟨h1, hL⟩ ⟨h2, hT0⟩ (by omega) (by omega) (by omega) fun h' tk hk => ⟨rfl, ?_⟩
    exact I.turnedL (t' := tk) (ch := [z, TI, TO, i1, i2]) (fun c o hb q => hk c o (fun q' => hb (by simp [q'])) (fun q' => hb (by simp [q'])) (fun q' => hb (by simp [q'])) (fun q' => hb (by simp [q'])) q) hf
  self := fun A i s Q E st h => wpAny_pyIter_zip st.1 h
def iZipM (K : PySem.W.Frag) (ta : TA) : TI := fun σ H R => ta σ H fun vs H1 => ∃ a b xs ys, vs = [.ref a, .ref b] ∧ SqL K H1 a xs ∧ SqT K H1 b ys ∧ R (ItzM K a b) H1
theorem pi_zipM {X : Cx} {e e2 : Expr} {ta : TA} {p pos tpos : Pos} {elts : List Expr} {kk : Nat} (hg : Gl X "zip") (hm : X.mg "zip" = none) (ha : PA X [e, e2] ta)
    (hs : starEach [e, e2] X.env = (false, eval e X.env) :: starEach [e2] X.env := by rfl) (hpl : (backTo pos (starEach [e2] X.env)).any (·.1) = false := by rfl) :
    PI X (.Tuple elts kk tpos) (.Call (.Name "zip" p) [e, e2] [] pos) (iZipM X.K ta) := by
  refine ⟨fun pins s σ H R I h => Call_ (ld_blt I hg hm PyProof.Rows.boot_zip (PyProof.Rows.callWith_type1 (thn (ha.run pos pins s σ H _ I h) fun us s1 ⟨vs, H1, I1, r1, q1⟩ => ?_) hs hpl))⟩
  obtain ⟨a, b, xs, ys, rfl, hqx, hqy, q⟩ := q1
  cases r1 with
  | cons r rr =>
    cases rr with
    | cons r' rr =>
      cases rr
      cases r
      cases r'
      obtain ⟨its, rv, p1, _⟩ := I1.list hqx
      obtain ⟨its2, rv2, p2, _⟩ := I1.tuple hqy
      obtain ⟨o2, ho2, _⟩ := id p2
      refine zip_begins2 (begins_list a its.toArray) (begins_tuple b its2.toArray) p1.isList p2 fun h' hz hTI hTO q1 q2 hsz hk => wpAny_pyIter_zip hz ?_
      have I2 : Inv X pins σ H1 { s1 with heap := h' } := I1.kept (t' := s1.toks) hk
      have sep := zip_sep2 (N := s1.heap.objs.size) (fp1 := [a]) (fp2 := [b]) (fun c hc => by rw [List.mem_singleton.mp hc]; exact p1.lt) (fun c hc => by rw [List.mem_singleton.mp hc]; exact Heap.lt_size ho2)
      refine ⟨s1.heap.objs.size + 4, [s1.heap.objs.size + 4, s1.heap.objs.size + 2, s1.heap.objs.size + 3, s1.heap.objs.size, s1.heap.objs.size + 1], _, _, H1, rfl, I2, turn_zipM sep, ⟨hz, hTI, ⟨_, _, hTO⟩, ⟨_, q1, rfl, rfl⟩, ⟨_, q2, rfl, rfl⟩⟩, fun c hcm => ?_, q⟩
      have hle : s1.heap.objs.size ≤ c := by
        rcases (by simpa using hcm : c = s1.heap.objs.size + 4 ∨ c = s1.heap.objs.size + 2 ∨ c = s1.heap.objs.size + 3 ∨ c = s1.heap.objs.size ∨ c = s1.heap.objs.size + 1) with q | q | q | q | q
        · rw [q]; exact Nat.le_add_right _ _
        · rw [q]; exact Nat.le_add_right _ _
        · rw [q]; exact Nat.le_add_right _ _
        · rw [q]; exact Nat.le_refl _
        · rw [q]; exact Nat.le_add_right _ _
      exact I1.fpOk hle (I1.hok.fresh hle)
theorem ItOk.zipM {K : PySem.W.Frag} {F : Hp} {a b : Addr} {xs ys : List V} {as bs : List D} (ha : F a = some (.lst xs)) (hb : F b = some (.tup ys)) (ra : RepL K F xs as) (rb : RepL K F ys bs) : ItOk K (ItzM K a b) F (fun _ => none) (zipD as bs) := fun H F' s _ k i => by
  have qa : SqL K H a xs := .inl (.inl (k.lst (s _ _ ha)))
  have qb : SqT K H b ys := .inl (.inl (k.tup (s _ _ hb)))
  refine ⟨fun hi hi2 => ⟨xs, ys, qa, qb, ?_⟩, fun d hd => ?_⟩
  · rw [zipD_len] at hi hi2
    rw [ra.length, rb.length]
    omega
  · rw [zipD_get] at hd
    cases e1 : as[i]? with
    | none => rw [e1] at hd; cases hd
    | some da =>
      cases e2 : bs[i]? with
      | none => rw [e1, e2] at hd; cases hd
      | some db =>
        rw [e1, e2] at hd
        cases hd
        obtain ⟨x, hx, rx⟩ := ra.get e1
        obtain ⟨y, hy, ry⟩ := rb.get e2
        refine ⟨⟨xs, ys, x, y, qa, qb, hx, hy⟩, fun v H' ⟨T, x', y', hv, hT, hH, q1, q2⟩ => ?_⟩
        subst hv hH
        have z1 := q1 xs qa
        have z2 := q2 ys qb
        rw [hx] at z1; cases z1
        rw [hy] at z2; cases z2
        exact outV_pair k hT (rx.mono s) (ry.mono s)
def zmD : List D → Option (List D)
  | [.lst as, .tup bs] => some (zipD as bs)
  | _ => none
@[simp] theorem zmD_eq (as bs : List D) : zmD [.lst as, .tup bs] = some (zipD as bs) := rfl
def zmK (ds : List D) (r : En) : R (List D) := oO (zmD ds) okK r
@[simp] theorem zmK_eq (ds : List D) (r : En) : zmK ds r = oO (zmD ds) okK r := rfl
def mZipM (fs : M (List D)) : M (List D) := fun r => match fs r with
  | .ok ds r1 => oO (zmD ds) okK r1
  | .ex x r1 => .ex x r1
  | .st => .st
@[simp] theorem mZipM_eq {fs : M (List D)} {r : En} : mZipM fs r = (fs r).b zmK := by
  unfold mZipM; cases fs r <;> rfl
theorem di_zipM {X : Cx} {P : List V} {E : XK} {e e2 : Expr} {pos p tpos : Pos} {elts : List Expr} {kk : Nat} {fl : M (List D)} (hg : Gl X "zip") (hm : X.mg "zip" = none) (ha : DL X P E [e, e2] fl) (hs : starEach [e, e2] X.env = (false, eval e X.env) :: starEach [e2] X.env := by rfl) (hpl : (backTo pos (starEach [e2] X.env)).any (·.1) = false := by rfl) :
    DI X P E (.Tuple elts kk tpos) (.Call (.Name "zip" p) [e, e2] [] pos) (mZipM fl) := ⟨PI.wk (pi_zipM hg hm ha.pa hs hpl) fun σ H R ⟨r, F, Af, Rl, q⟩ => ⟨r, F, Af, Rl, by
  unfold mZipM at q
  cases e1 : fl r with
  | ex x r' => rw [e1] at q; exact q
  | st => rw [e1] at q; exact q
  | ok ds r1 =>
    rw [e1] at q
    intro vs H1 F1 Af1 ex1 R1 rp1
    match ds, rp1, q with
    | [], _, q => exact q.elim
    | [a], _, q => cases a <;> exact q.elim
    | a :: b :: _ :: _, _, q => cases a <;> cases b <;> exact q.elim
    | [a, b], .cons (v := va) ra (.cons (v := vb) rb .nil), q =>
      cases ra with
      | lst ha ta =>
        cases rb with
        | tup hb tb => exact ⟨_, _, _, _, rfl, .inl (.inl (R1.keep.lst ha)), .inl (.inl (R1.keep.tup hb)), q _ _ H1 F1 Af1 ex1 R1 Held.none (ItOk.zipM ha hb ta tb)⟩
        | _ => exact q.elim
      | _ => exact q.elim⟩⟩
end NT

set_option Elab.async false
set_option linter.all false
set_option maxRecDepth 100000
set_option maxHeartbeats 1000000
/-! sorted(d) of a dict whose keys are texts -/
namespace NT
open PySem PySem.Spec PyProof.Rows L2
def keysS : List Key → Option (List Str)
  | [] => some []
  | .inr x :: l => match keysS l with
    | some xs => some (x :: xs)
    | none => none
  | .inl _ :: _ => none
theorem keysS_map : ∀ {l : List Key} {xs : List Str}, keysS l = some xs → l = xs.map Sum.inr
  | [], xs, e => by cases e; rfl
  | .inr x :: l, xs, e => by
    unfold keysS at e
    split at e
    · rename_i ys h; cases e; rw [List.map_cons, ← keysS_map h]
    · cases e
  | .inl _ :: _, xs, e => by cases e
theorem keysS_of : ∀ xs : List Str, keysS (xs.map Sum.inr) = some xs
  | [] => rfl
  | x :: xs => by rw [List.map_cons, keysS, keysS_of xs]
def sortK (l : List Str) : List Str := l.mergeSort fun a b => !ltS b a
def gSortedD : List D → Option Pl
  | [.dK l] => match keysS (l.map (·.1)) with
    | some ks => if ks.length < 64 then some (.n (.lst ((sortK ks).map D.str))) else none
    | none => none
  | _ => none
theorem le_tr (a b c : Str) (h1 : (!ltS b a) = true) (h2 : (!ltS c b) = true) : (!ltS c a) = true := by
  simp only [Bool.not_eq_true'] at h1 h2 ⊢
  cases e : ltS c a with
  | false => rfl
  | true =>
    cases q : ltS a b with
    | true => rw [ltS_tr e q] at h2; cases h2
    | false =>
      have := ltS_or q h1
      subst this
      rw [e] at h2; cases h2
theorem le_tot (a b : Str) : ((!ltS b a) || (!ltS a b)) = true := by
  cases e : ltS b a with
  | false => rfl
  | true =>
    cases e2 : ltS a b with
    | false => rfl
    | true => have := ltS_tr e e2; rw [ltS_irr] at this; cases this
theorem ltC (a b : Str) : ltCps a.cps.toList b.cps.toList = ltS a b := by rw [PyProof.Rows.ltCps_eq]; rfl
theorem risingS_le : ∀ (r : List Str) (p : Str), risingS p r = true → (p :: r).Pairwise fun a b => (!ltS b a) = true
  | [], p, _ => List.pairwise_singleton _ _
  | x :: r, p, h => by
    unfold risingS at h
    rw [Bool.and_eq_true, ltC] at h
    have ih := risingS_le r x h.2
    refine List.pairwise_cons.mpr ⟨fun z hz => ?_, ih⟩
    rcases List.mem_cons.mp hz with rfl | hz
    · exact h.1
    · exact le_tr _ _ _ h.1 (List.rel_of_pairwise_cons ih hz)
theorem sortK_of {ys ks : List Str} (p : ys.Perm ks) (h : sortedS ys = true) : ys = sortK ks := by
  have h1 : ys.Pairwise fun a b => (!ltS b a) = true := by
    cases ys with
    | nil => exact List.Pairwise.nil
    | cons x r => exact risingS_le r x h
  have h2 : (sortK ks).Pairwise fun a b => (!ltS b a) = true := List.pairwise_mergeSort (le := fun a b : Str => !ltS b a) le_tr le_tot ks
  refine List.Perm.eq_of_pairwise (le := fun a b => (!ltS b a) = true) (fun a b _ _ q1 q2 => ?_) h1 h2 (p.trans (List.mergeSort_perm _ _).symm)
  simp only [Bool.not_eq_true'] at q1 q2
  exact ltS_or q2 q1
theorem sp_sortedD {X : Cx} : CallSpec X.K (fun xs H Q => ∃ (a : Addr) (kvs : List (Key × V)) (ks : List Str), xs = [.ref a] ∧ Rd H a (.dK kvs) ∧ kvs.map (·.1) = ks.map Sum.inr ∧ ks.length < 64 ∧
    ∀ ys p, ys.Perm ks → sortedS ys = true → H p = none → Q (.ref p) (upd H p (.lst (ys.map V.str)))) gSortedD := fun H F xs ds z Q k h hz q => by
  unfold gSortedD at hz
  split at hz
  · split at hz
    · rename_i l ks hk
      split at hz
      · rename_i h64
        cases hz
        obtain ⟨v, rfl, a, kvs, rfl, h1, h2, h3⟩ := h.one
        refine ⟨a, kvs, ks, rfl, h1, h2.trans (keysS_map hk), h64, fun ys p hp hs hn => ?_⟩
        rw [sortK_of hp hs]
        exact q _ _ (out_lst k hn (strs_repL _))
      · cases hz
    · cases hz
  · cases hz
end NT

set_option Elab.async false
set_option linter.all false
set_option maxRecDepth 100000
set_option maxHeartbeats 1000000
/-! raise C(e): an own exception whose __init__ keeps its one field, «name» -/
namespace NT
open PySem PySem.Spec PyProof.Rows L2
section
variable {X : Cx} {e : Expr} {es : List Expr} {ta : TA} {b : Str} {p p1 p2 pos : Pos}
/-- B.__init__(self, ..), B an own class that has ValueError's -/
theorem pe_cinit {pl : Sem Bool} {B : Addr} (hg : Gl X b) (hm : X.mg b = some (.ref B)) (hga : PySem.W.specialIn X.K (.ref B) "__getattribute__" = some (some (.builtin "type.__getattribute__"))) (hr : PySem.W.readsIn X.K B (.type "type") = true)
    (vB : PySem.W.findCls X.K (.ref B) (.type "type") "__init__" = some (.val (.builtin "ValueError.__init__"))) (ha : PA X (e :: es) ta)
    (hc : eval (.Call (.Attribute (.Name b p1) "__init__" p2) (e :: es) [] pos) X.env = (do
      let ov ← eval (.Name b p1) X.env
      standAt p2.atName
      let (f, first) ← holding [ov] (getMethod ov "__init__" pl)
      callWith pos f first (backTo pos (starEach (e :: es) X.env)) (backToKw pos (keywordEach [] X.env))) := by rfl)
    (hdb : (b == ("__debug__" : Str)) = false := by decide)
    (he : starEach (e :: es) X.env = (false, eval e X.env) :: starEach es X.env := by rfl) (hpl : (backTo pos (starEach es X.env)).any (·.1) = false := by rfl) :
    PE X (.Call (.Attribute (.Name b p1) "__init__" p2) (e :: es) [] pos) (tVeI X.K ta) := by
  constructor
  intro pins s σ H Q I h
  refine PySem.W.methodCall_KW (ld_glob I hg hm ?_ hdb) hc
  refine PySem.W.method_cls I.kIn hga (PySem.W.cls_value I.kIn hr vB (by rfl) ?_)
  show wpAny _ _ (callWith pos (Value.builtin "ValueError.__init__") [] (backTo pos (starEach (e :: es) X.env)) []) _ _ _
  refine PyProof.Rows.callWith_method1 (thn (ha.run pos pins _ σ H _ (I.tok _) h) fun us s1 z => ?_) he hpl
  obtain ⟨vs, H1, I1, r1, a, C, ws, rfl, hl, T, ea, q⟩ := z
  match us, r1 with
  | u0 :: ur, .cons r0 rw' =>
    obtain rfl : u0 = Value.ref a := r0
    have hlen : ur.length ≤ sizeLine := by
      have := Paired.length rw'
      rw [sizeLine_eq]; omega
    exact oinit_ok T I1 ea hlen fun s' J => ⟨.non, H1, J, rfl, q⟩
end
/-- what C.__init__ promises: its one field is the argument -/
def spI (C : Addr) : Sp := fun vs H Q _ => ∃ (a : Addr) (v : V), vs = [.ref a, v] ∧ H a = some (exo a C none) ∧ ∀ dx, H dx = none → dx ≠ a → Q .non (upd (upd H dx (exd dx [("name", v)])) a (exo a C (some dx)))
/-- an own exception class with one field -/
structure XCls (P : Program) (w : World) (K : PySem.W.Frag) (mg : Str → Option Value) (base : Heap) (k : Nat) (cls : Str) : Prop where
  ex : ∃ (C fI : Addr) (fd : FuncData), mg cls = some (.ref C) ∧ OexC K C ∧ PySem.W.findIn K (.ref C) "__init__" = some (some (.ref fI)) ∧ PySem.W.typeIn K (.ref fI) = some (.type "function") ∧ Binds K fd ["self", "name"] [] ∧ FnOk P w K mg base (L2.CX P w) k fI fd ["self", "name"] (spI C)
theorem XCls.mono {P : Program} {w : World} {K : PySem.W.Frag} {mg : Str → Option Value} {base : Heap} {j k : Nat} {cls : Str} (x : XCls P w K mg base j cls) (h : j ≤ k) : XCls P w K mg base k cls := by
  obtain ⟨C, fI, fd, a, b, c, d, e, f⟩ := x.ex
  exact ⟨C, fI, fd, a, b, c, d, e, f.mono h⟩
def sRaise (cls : Str) (f : M D) : En → RS := fun r => match f r with
  | .ok d r1 => .ex ⟨cls, some d⟩ r1
  | .ex x r1 => .ex x r1
  | .st => .st
def raiseK (cls : Str) (d : D) (r : En) : RS := .ex ⟨cls, some d⟩ r
@[simp] theorem raiseK_eq (cls : Str) (d : D) (r : En) : raiseK cls d r = .ex ⟨cls, some d⟩ r := rfl
@[simp] theorem sRaise_eq (cls : Str) (f : M D) (r : En) : sRaise cls f r = (f r).s (raiseK cls) := by unfold sRaise; cases f r <;> rfl
theorem ds_raise {X : Cx} {P : List V} {E : XK} {cls : Str} {e : Expr} {f : M D} {k : Nat} {p pos pos2 : Pos} (hc : X.calm = true) (tk : Takes X fun c d _ H => E c d H) (hx : Passes (L2.CX X.prog X.w) X (fun _ _ _ => False)) (xc : XCls X.prog X.w X.K X.mg X.base k cls) (hr : Room (k + 1) X.A) (hg : Gl X cls) (he : DF X P E e f)
    (hdb : (cls == ("__debug__" : Str)) = false := by decide) (hst : starEach [e] X.env = [(false, eval e X.env)] := by rfl) : DS X P E (.Raise (some (.Call (.Name cls p) [e] [] pos2)) none pos) (sRaise cls f) := by
  obtain ⟨C, fI, fd, hm, T, iC, tI, hb, F1⟩ := xc.ex
  have mk := pmk_oex (p := p) (pos := pos2) T iC tI F1 hr hb (dvs := []) .nil hx hg hm (pa_cons he.pe pa_nil hst) hdb hst
  refine ⟨PS.wk (ps_raise hc tk mk) fun Z σ H q => ?_⟩
  obtain ⟨r, F, Af, R, q⟩ := q
  refine ⟨r, F, Af, R, ?_⟩
  unfold sRaise at q
  cases e1 : f r with
  | ex x r1 => rw [e1] at q; exact q
  | st => rw [e1] at q; exact q
  | ok d r1 =>
    rw [e1] at q
    intro v H1 F1 Af1 ex1 R1 rp
    refine ⟨by show (1 : Nat) ≤ 1000; decide, fun a ha => ⟨a, v, rfl, upd_same, fun dx hd hne => ⟨rfl, dx, [("name", v)], upd_same, by rw [upd_ne hne, upd_same], by rw [upd_ne hne] at hd; exact hd, ?_⟩⟩⟩
    have hd1 : H1 dx = none := by rw [upd_ne hne] at hd; exact hd
    have hF1 : F1 dx = none := keep_none R1.keep hd1
    have hh : upd (del (upd (upd (upd H1 a (exo a C none)) dx (exd dx [("name", v)])) a (exo a C (some dx))) a) dx (.xd [("name", v)]) = upd H1 dx (.xd [("name", v)]) := by
      funext b
      by_cases hb : b = dx
      · subst hb; rw [upd_same, upd_same]
      · rw [upd_ne hb, upd_ne hb]
        by_cases ha' : b = a
        · subst ha'; rw [del_same, ha]
        · rw [del_ne ha', upd_ne ha', upd_ne hb, upd_ne ha']
    rw [hh]
    have g : Grow H1 F1 (upd H1 dx (.xd [("name", v)])) (upd F1 dx (.xd [("name", v)])) := ⟨same_new hd1, same_new hF1, fun b u hu => by
      by_cases hb : b = dx
      · subst hb; rw [upd_same] at hu; exact .inl (by rw [upd_same]; exact hu)
      · rw [upd_ne hb] at hu; rw [upd_ne hb]; exact R1.keep b u hu, fun b hb0 => by
      by_cases hb : b = dx
      · subst hb; exact .inr (.inl hd1)
      · rw [upd_ne hb]; exact .inl hb0⟩
    exact q (.ref C) (some dx) σ _ _ Af1 trivial (ex1.trans g.ext) (R1.grow g) ⟨C, hm, rfl, dx, v, rfl, upd_same, rp.mono g.ff⟩
end NT

set_option Elab.async false
set_option linter.all false
set_option maxRecDepth 100000
set_option maxHeartbeats 1000000
/-! an own exception class, from its text: __init__ hands a text to the base and keeps the argument -/
namespace NT
open PySem PySem.Spec PyProof.Rows L2
/-- what the written part says of the class at C, its base at B and its __init__ -/
structure XHead (K : PySem.W.Frag) (C B fI : Addr) : Prop where
  T : OexC K C
  iC : PySem.W.findIn K (.ref C) "__init__" = some (some (.ref fI))
  tI : PySem.W.typeIn K (.ref fI) = some (.type "function")
  nm : PySem.W.findIn K (.ref C) "name" = some none
  ga : PySem.W.specialIn K (.ref B) "__getattribute__" = some (some (.builtin "type.__getattribute__"))
  rd : PySem.W.readsIn K B (.type "type") = true
  vB : PySem.W.findCls K (.ref B) (.type "type") "__init__" = some (.val (.builtin "ValueError.__init__"))
theorem xcls_ok {P : Program} {w : World} {K : PySem.W.Frag} {mg : Str → Option Value} {base : Heap} {k : Nat} {cls bs tx qual : Str} {st : Stmt} {C B fI : Addr} {fd : FuncData} {j : Nat} {p1 p2 p3 p4 p5 p6 p7 p8 p9 p10 : Pos} (h : XHead K C B fI) (hC : mg cls = some (.ref C)) (hB : mg bs = some (.ref B)) (F : Fun K "__init__" qual st fI fd) (bd : Binds K fd ["self", "name"] [])
    (S : FnScope ["self", "name"] ["self", "name"] (defScope st)) (hs : Vis (defScope st) "self") (hn : Vis (defScope st) "name") (hg : (defScope st).names.lookup bs = some .globalImplicit) (hd : (bs == ("__debug__" : Str)) = false)
    (hb : defBody st = [.Expr (.Call (.Attribute (.Name bs p1) "__init__" p2) [.Name "self" p3, .Constant (.str tx) j p4] [] p5) p6, .Assign [.Attribute (.Name "self" p7) "name" p8] (.Name "name" p9) p10])
    (hc : ∀ env : Env, ∃ pl : Sem Bool, eval (.Call (.Attribute (.Name bs p1) "__init__" p2) [.Name "self" p3, .Constant (.str tx) j p4] [] p5) env = (do
      let ov ← eval (.Name bs p1) env
      standAt p2.atName
      let (f, first) ← holding [ov] (getMethod ov "__init__" pl)
      callWith p5 f first (backTo p5 (starEach [.Name "self" p3, .Constant (.str tx) j p4] env)) (backToKw p5 (keywordEach [] env)))) :
    XCls P w K mg base (k + 1) cls := by
  refine ⟨C, fI, fd, hC, h.T, h.iC, h.tI, bd, F.okX S (fun vs H Q E z => by obtain ⟨a, v, rfl, _⟩ := z; rfl) fun cdv A outer s H vs Q E hr z => ?_⟩
  obtain ⟨a, v, rfl, ha, hq⟩ := z
  rw [hb]
  obtain ⟨pl, hc⟩ := hc (cxOf (L2.CX P w) P w K mg base ["self", "name"] qual (defScope st) fI cdv A outer s H E).env
  refine ⟨_, pss_cons (ps_expr (pe_cinit (X := cxOf (L2.CX P w) P w K mg base ["self", "name"] qual (defScope st) fI cdv A outer s H E) hg hB h.ga h.rd h.vB (pa_cons (pe_var (i := 0) rfl hs) (pa_cons pe_str pa_nil)) hc hd)) (pss_one (ps_ost (pe_var (i := 0) rfl hs) (pe_var (i := 1) rfl hn))), ?_⟩
  refine ⟨.ref a, rfl, a, C, [.str tx], rfl, by show (1 : Nat) ≤ 1000; decide, h.T, ha, ?_⟩
  exact ⟨v, rfl, .ref a, rfl, a, C, rfl, h.T, h.nm, .inl ⟨ha, fun dx h1 h2 => hq dx h1 h2⟩⟩
end NT

set_option Elab.async false
set_option linter.all false
set_option maxRecDepth 100000
set_option maxHeartbeats 2000000
/-! a lambda that is handed to a def and asked there: what it raises is told beside the slots of the asker -/
namespace NT
open PySem PySem.Spec PyProof.Rows L2 LamX
section
variable {X : Cx} {pins : List (Addr × Obj)} {σ : L2.St} {H : Hp} {s : Shared}
theorem act_run {CXg : CXT} {Eg : XK} {Ng : List Str} {qg : Str} {sg : Scope} {g f c' : Addr} {cdg pm ctv : Value} {params : Arguments} {body : Expr} {scope : Scope} {k i : Nat} {a : Str} {pn : List (Addr × Obj)} {xe : Value → Shared → Prop} {E : XK} {tb : TE} {p1 p2 : Pos} {Z : Cx}
    (hZ : Z = (cxOf CXg X.prog X.w X.K X.mg X.base Ng qg sg g cdg X.A X.stack s H Eg).tr pn xe) (I : Inv X pins σ H s) (L : LamS X.env.scope scope)
    (hf : s.heap.get? f = some (PySem.W.kla_obj "<lambda>" (X.env.qual ++ "<lambda>") params body scope (cloFrom X.env.cells scope.names []) pm c' ctv)) (hfn : H f = none) (hfr : f ∉ frs X.stack)
    (hbind : bindArgs (PySem.W.kla_fn "<lambda>" (X.env.qual ++ "<lambda>") params body scope (cloFrom X.env.cells scope.names []) pm (.ref c') ctv) ⟨[], []⟩ = pure [])
    (hr : Room (k + 1) (X.A.deeper (envOfC qg sg s.heap.objs.size g cdg)))
    (hbody : ∀ (A : Around) (outer : List Env) (s : Shared) (H : Hp), Room k (A.deeper (lamEnv X scope s.heap.objs.size f c')) → PE (lamCx X A outer s H E scope f c') body tb)
    (hN : Ng[i]? = some a) (hv : Vis sg a) (hd : (a == ("__debug__" : Str)) = false) (hcd : (a == ("__classdict__" : Str)) = false)
    {pinsZ : List (Addr × Obj)} {sZ : Shared} {σZ : L2.St} {HZ : Hp} {Q : VK} (IZ : Inv Z pinsZ σZ HZ sZ) (hx : ∀ s1 e s', Inv Z pinsZ σZ HZ s1 → L2.CX X.prog X.w Z.stack HZ s1 E e s' → Z.xe e s')
    (hs : σZ[i]? = some (some (.ref f))) (hc : HZ c' = some (CodeO c' (X.env.qual ++ "<lambda>"))) (ht : tb σ HZ Q) :
    wpAny (model X.prog X.w) Z.A (eval (.Call (.Name a p1) [] [] p2) Z.env) (EP Z pinsZ σZ Q) Z.xe sZ := by
  subst hZ
  refine wpAny_Call_Name_kw (thn ((pe_var (pos := p1) (i := i) hN hv hd hcd).run pinsZ sZ σZ HZ (fun v H1 => v = .ref f ∧ H1 = HZ) IZ ⟨.ref f, hs, rfl, rfl⟩) ?_)
  rintro u s1 ⟨v, H1, I1, r1, rfl, rfl⟩
  obtain rfl : u = Value.ref f := r1
  have hf1 := I1.base.keep f _ hf hfn hfr fun z => nomatch (show f ∈ ([] : List Addr) from z)
  have un : Un (frs X.stack) [] H H1 s.heap s1.heap := I1.base
  obtain ⟨oc, vs, t, hoc, hdc, hvc⟩ := (I1.hok c' _ hc).1
  have run : codeAny (model X.prog X.w) (X.A.deeper (envOfC qg sg s.heap.objs.size g cdg)) (.call (.ref f) ⟨[], []⟩) (CR (L2.CX X.prog X.w) (envOfC qg sg s.heap.objs.size g cdg :: X.stack) X.prog X.w H1 s1 Q E) s1 := by
    refine PySem.W.kla_callFunE hr.depth hf1 rfl L.co L.gen rfl ⟨c', oc, vs, t, rfl, hoc, hdc, hvc⟩ ?_
    rw [hbind]
    refine wpAny_pure (wpAny_newFunctionEnv (fun y hy => (L.own y hy).2) (fun y hy => absurd hy (by simp)) (fun h₁ hns hsb => ⟨I1.nolimit.fresh _ hsb, ?_⟩) L.kind)
    have kp : ∀ b o, s1.heap.get? b = some o → h₁.get? b = some o := fun b o e => hsb.extBut b o (Nat.ne_of_lt (Heap.lt_size e)) (Heap.get?_push_of_some _ e)
    have J := lam_start2 (E := E) (f := f) (c' := c') (tk := s1.toks + ([] : List (Str × Value)).length) I L I1.env0 hr.hd un hns kp
    refine PySem.W.kla_codeExpr (wpAny_mono ((hbody _ _ s1 H1 (hr.deeper _)).run [] _ _ H1 Q J ht) ?_ fun e s' hq => hq)
    rintro v s' ⟨w', H', J', rv, q⟩
    exact ⟨w', H', J'.os, J'.bare, J'.base, J'.hok, rv, q⟩
  refine PySem.W.callWith_F0 ⟨_, _, _, _, hf1⟩ (wpAny_call (codeAny_mono run fun r s' hq => ?_))
  match r, hq with
  | .error e, hq => exact hx s1 e s' I1 hq
  | .ok (.ret u), hq => exact I1.after hq
theorem pin_lam {f : Addr} {qn : Str} {params : Arguments} {body : Expr} {scope : Scope} {cl : List (Str × Addr)} {pm ctv : Value} {c' : Addr} (I : Inv X pins σ H s) (hf : s.heap.get? f = some (PySem.W.kla_obj "<lambda>" qn params body scope cl pm c' ctv)) (hfn : H f = none) (hfr : f ∉ frs X.stack) :
    Inv X ((f, PySem.W.kla_obj "<lambda>" qn params body scope cl pm c' ctv) :: pins) σ H s := by
  have hl : f ≠ X.env.locals := fun z => by
    obtain ⟨m, ⟨o', es, ep, ho', hd', _⟩, _⟩ := I.loc
    rw [← z, hf] at ho'
    cases ho'
    cases hd'
  have hfs : f ∉ X.fs := fun z => by
    rcases I.ok.stk with e | ⟨e, _⟩
    · rw [e] at hfr; exact hfr z
    · rw [e] at hfr
      refine hfr ?_
      unfold frs
      rw [List.filterMap_cons]
      split
      · exact z
      · exact List.mem_cons_of_mem _ z
  refine { I with pin := fun q hq => ?_ }
  rcases List.mem_append.mp hq with z | z
  · exact I.pin q (List.mem_append_left _ z)
  · rcases List.mem_cons.mp z with rfl | z
    · exact ⟨hf, hfn, hl, hfs, fun v q => by cases q⟩
    · exact I.pin q (List.mem_append_right _ z)
theorem unpin {q : Addr × Obj} (I : Inv X (q :: pins) σ H s) : Inv X pins σ H s ∧ s.heap.get? q.1 = some q.2 :=
  ⟨{ I with pin := fun p hp => I.pin p ((List.mem_append.mp hp).elim (List.mem_append_left _) fun z => List.mem_append_right _ (List.mem_cons_of_mem _ z)) }, (I.pin q (List.mem_append_right _ List.mem_cons_self)).1⟩
/-- g(lambda: body, y): h tells of g's text at the very state -/
theorem lam2_run {T : List (Addr × Str)} {x yn : Str} {g c P : Addr} {k j : Nat} {pg : Arguments} {bg : List Stmt} {sg : Scope} {dV kV doc pm cdv ct oc : Value} {an od : Option Addr} {osl : Array (Option Value)} {Ng ps : List Str}
    {params : Arguments} {body : Expr} {scope : Scope} {p lpos pos yp : Pos} {Q : VK} {vy : V} (hg : Gl X x) (hm : X.mg x = some (.ref g)) (hk : PySem.W.keepIn X.K (.ref g) = true)
    (lk : X.K.lookup g = some ⟨oc, od, .func (PySem.W.fnOf x x pg bg sg dV kV doc pm an cdv ct), osl⟩) (hcg : PySem.W.codeIn X.K cdv x = true) (hb : L2.Binds X.K (PySem.W.fnOf x x pg bg sg dV kV doc pm an cdv ct) ps []) (hps : ps.length = 2) (Sg : FnScope Ng ps sg)
    (TB : TabB X.base X.mg c P) (hcode : X.env.code = .ref c) (hmT : (P, X.env.qual ++ "<lambda>") ∈ T) (hu : ∀ p ∈ T, p.1 = P → p.2 = X.env.qual ++ "<lambda>") (hr : Room (k + 1) X.A) (L : LamS X.env.scope scope) (hdef : defaultsOf params X.env = ([], []))
    (hyN : X.N[j]? = some yn) (hyv : Vis X.env.scope yn) (hyd : (yn == ("__debug__" : Str)) = false) (hyc : (yn == ("__classdict__" : Str)) = false) (hdb : (x == ("__debug__" : Str)) = false)
    (I : Inv X pins σ H s) (hT : Tabs T H) (hy : σ[j]? = some (some vy))
    (h : ∀ (f c' : Addr) (pm ctv : Value) (H1 : Hp) (s1 : Shared), Inv X pins σ H1 s1 → ExtN H H1 → Tabs T H1 → s1.heap.get? f = some (PySem.W.kla_obj "<lambda>" (X.env.qual ++ "<lambda>") params body scope (cloFrom X.env.cells scope.names []) pm c' ctv) → H1 f = none → f ∉ frs X.stack → H1 c' = some (CodeO c' (X.env.qual ++ "<lambda>")) →
      Room k (X.A.deeper (envOfC x sg s1.heap.objs.size g cdv)) →
        ∃ t, PSs (cxOf C8.CX0 X.prog X.w X.K X.mg X.base Ng x sg g cdv X.A X.stack s1 H1 C8.E0) bg t ∧ t { nx := fun _ H' => Q .non H', rt := Q } (L2.start Ng [.ref f, vy]) H1) :
    wpAny (model X.prog X.w) X.A (eval (.Call (.Name x p) [.Lambda params body scope lpos, .Name yn yp] [] pos) X.env) (EP X pins σ Q) X.xe s := by
  refine wpAny_Call_Name_kw (ld_glob I hg hm ?_ hdb)
  refine PySem.W.callWith_K (h₀ := X.base) I.ok.mod.kin hk ?_ (by rfl) (by rfl)
  show wpAny _ _ (spliced [(false, eval (.Lambda params body scope lpos) X.env), (false, eval (.Name yn yp) X.env)]) _ _ s
  refine Calls.spliced_cons (lam_make2 I TB hcode hmT hu hT hdef (L.has I.ok) fun f c' pm' ctv H1 s1 I1 eN T1 hf hfn hfr hco => ?_)
  have I1p := pin_lam I1 hf hfn hfr
  refine Calls.spliced_cons (thn ((pe_var (pos := yp) (i := j) hyN hyv hyd hyc).run _ s1 σ H1 (fun v H' => v = vy ∧ H' = H1) I1p ⟨vy, hy, rfl, rfl⟩) ?_)
  rintro u s2 ⟨v, H2, I2, r2, rfl, rfl⟩
  obtain ⟨I2, hf2⟩ := unpin I2
  refine Calls.spliced_nil ⟨I2.kIn, ?_⟩
  have run : codeAny (model X.prog X.w) X.A (.call (.ref g) ⟨[.ref f, u], []⟩) (CR C8.CX0 X.stack X.prog X.w H2 s2 Q C8.E0) s2 := by
    refine run_ofS (N := Ng) (ps := ps) (us := [.ref f, u]) (vs := [.ref f, v]) lk hcg Sg hr I2.env0 (hb s2 [.ref f, u] I2.kIn hps.symm) (.cons rfl (.cons r2 .nil)) hps.symm fun hr' => h f c' pm' ctv H2 s2 I2 eN T1 hf2 hfn hfr hco hr'
  refine wpAny_call (codeAny_mono run fun r s3 hq => ?_)
  match r, hq with
  | .error e, hq => exact (show False from hq).elim
  | .ok (.ret u), hq => exact I2.after hq
end
end NT

set_option Elab.async false
set_option linter.all false
set_option maxRecDepth 100000
set_option maxHeartbeats 2000000
/-! try: call() / except C as e: good = e.name == name and isinstance(e, ..) and .. -/
namespace NT
open PySem PySem.Spec PyProof.Rows L2 LamX
/-- a test whose answer hangs on what is known of the state -/
def tK (Φ : L2.St → Hp → Prop) (b : Bool) : TE := fun σ H Q => Φ σ H ∧ Q (.bl b) H
theorem pe_andK {X : Cx} {Φ : L2.St → Hp → Prop} {a c : Expr} {rest : List Expr} {b1 b2 : Bool} {pos : Pos} (h1 : PE X a (tK Φ b1)) (h2 : PE X (.BoolOp .And (c :: rest) pos) (tK Φ b2)) : PE X (.BoolOp .And (a :: c :: rest) pos) (tK Φ (b1 && b2)) :=
  PE.wk (pe_and h1 h2) fun σ H Q ⟨h, q⟩ => ⟨h, b1, rfl, by
    cases b1 with
    | true => rw [if_pos rfl]; exact ⟨h, q⟩
    | false => exact q⟩
theorem pe_oneK {X : Cx} {Φ : L2.St → Hp → Prop} {a : Expr} {b : Bool} {pos : Pos} (h : PE X a (tK Φ b)) : PE X (.BoolOp .And [a] pos) (tK Φ b) := pe_one h
theorem pe_notK {X : Cx} {Φ : L2.St → Hp → Prop} {a : Expr} {b : Bool} {pos : Pos} (h : PE X a (tK Φ b)) : PE X (.UnaryOp .Not a pos) (tK Φ (!b)) :=
  PE.wk (pe_not h) fun σ H Q ⟨h, q⟩ => ⟨h, b, rfl, q⟩
/-- what is known in the suite: e at slot ie, of class C, its one field s; the name t at slot iy -/
def Ph (a C : Addr) (cls : Value) (d : Option Addr) (ie iy : Nat) (s t : Str) (σ : L2.St) (H : Hp) : Prop :=
  cls = .ref C ∧ (∃ dd, d = some dd ∧ H dd = some (.xd [("name", .str s)])) ∧ σ[ie]? = some (some (.ref a)) ∧ σ[iy]? = some (some (.str t))
section
variable {X : Cx} {a C : Addr} {oe : Obj} {cls : Value} {d : Option Addr} {pn : List (Addr × Obj)}
def rIsX (K : PySem.W.Frag) (C a : Addr) (cls : Value) (d : Option Addr) : List V → Hp → VK → Prop := fun xs H Q => cls = .ref C ∧ (∃ dd fs, d = some dd ∧ H dd = some (.xd fs)) ∧ ∃ (c : V) (cv : Value) (b : Bool), xs = [.ref a, c] ∧ (∀ u, RelV c u → u = cv) ∧ PySem.W.kitOne K (.ref C) cv = some b ∧ Q (.bl b) H
theorem call_isX (T : ExcC X.K C) (hz : Zc cls d oe) (hf : ∃ vs, oe.data = .fields vs) : CallR (X.suite a ((a, oe) :: pn)) (.builtin "isinstance") (rIsX X.K C a cls d) := by
  rintro pins s σ H xs us Q I r ⟨rfl, ⟨dd, fs, rfl, hdd⟩, c, cv, b, rfl, hcv, e, q⟩
  match us, r with
  | [u0, u1], .cons r0 (.cons r1 .nil) =>
    obtain rfl : u0 = Value.ref a := r0
    obtain rfl := hcv _ r1
    obtain ⟨hget, _⟩ := I.pin (a, oe) (List.mem_append.mpr (.inl List.mem_cons_self))
    obtain ⟨vs, hv⟩ := hf
    obtain ⟨mA, hns, _⟩ := (I.hok dd _ hdd : ObjOk X.prog X.w H s.heap dd (.xd fs))
    obtain ⟨od, _, _, ho, _⟩ := hns
    have J : PySem.W.InstAt s.heap a oe C (some od) := ⟨hget, hz.1, by unfold PySem.W.notCls; rw [hv] <;> rfl, by rw [hz.2]; exact ho⟩
    have hcl : (PySem.W.clsIn X.K C).isSome = true := by
      obtain ⟨cd, hc, _⟩ := PySem.W.any_some T.hd
      rw [hc]; rfl
    exact PySem.W.kia_one (PySem.W.kitx_exc hcl T.hg T.hk T.hs T.ha T.hn T.ht T.hm) I.kIn J e (fun z => nomatch z) fun tk => ⟨.bl b, H, I.kept (t' := tk) fun _ _ z => z, rfl, q⟩
variable {ie iy : Nat} {s t en yn : Str} {p p1 p2 p3 p4 pos : Pos}
/-- isinstance(e, D) -/
theorem pe_isX (T : ExcC X.K C) (hz : Zc cls d oe) (hf : ∃ vs, oe.data = .fields vs) {b : Bool} {c : V} {cv : Value} {ce : Expr} (hcv : ∀ u, RelV c u → u = cv) (hk : PySem.W.kitOne X.K (.ref C) cv = some b) (hce : PE (X.suite a ((a, oe) :: pn)) ce (tC c)) (hN : X.N[ie]? = some en) (hv : Vis X.env.scope en) (hd1 : (en == ("__debug__" : Str)) = false) (hd2 : (en == ("__classdict__" : Str)) = false)
    (hg : Gl X "isinstance") (hm : X.mg "isinstance" = none) (he : starEach [.Name en p2, ce] X.env = [(false, eval (.Name en p2) X.env), (false, eval ce X.env)]) : PE (X.suite a ((a, oe) :: pn)) (.Call (.Name "isinstance" p1) [.Name en p2, ce] [] pos) (tK (Ph a C cls d ie iy s t) b) := by
  have he2 : starEach [ce] X.env = [(false, eval ce X.env)] := by
    have h1 : starEach [.Name en p2, ce] X.env = (false, eval (.Name en p2) X.env) :: starEach [ce] X.env := rfl
    rw [h1] at he
    exact List.tail_eq_of_cons_eq he
  refine PE.wk (pe_callB (X := X.suite a ((a, oe) :: pn)) (call_isX T hz hf) hg hm boot_isinstance (pa_cons (pe_var (i := ie) hN hv hd1 hd2) (pa_cons hce pa_nil he2)) (by decide) (by decide) (by rfl) (by rw [show starEach [ce] (X.suite a ((a, oe) :: pn)).env = [(false, eval ce X.env)] from he2]; rfl)) ?_
  rintro σ H Q ⟨⟨hc, ⟨dd, hd, hx⟩, h3, h1⟩, q⟩
  exact ⟨.ref a, h3, hc, ⟨dd, _, hd, hx⟩, c, cv, b, rfl, hcv, hk, q⟩
/-- e.name == y -/
theorem pe_eqX (Tx : XfC X.K C) (hno : PySem.W.findIn X.K (.ref C) "name" = some none) (hz : Zc cls d oe) (hf : ∃ vs, oe.data = .fields vs) (hu : X.A.units + 64 < cLine) (as : PyData.strOk s = true) (at' : PyData.strOk t = true) (hN : X.N[ie]? = some en) (hv : Vis X.env.scope en) (hd1 : (en == ("__debug__" : Str)) = false) (hd2 : (en == ("__classdict__" : Str)) = false)
    (hN2 : X.N[iy]? = some yn) (hv2 : Vis X.env.scope yn) (hd3 : (yn == ("__debug__" : Str)) = false) (hd4 : (yn == ("__classdict__" : Str)) = false) (hb : attributeBase (.Name en p1) "name" X.env (eval (.Name en p1) X.env) = eval (.Name en p1) X.env) :
    PE (X.suite a ((a, oe) :: pn)) (.Compare (.Attribute (.Name en p1) "name" p2) [.Eq] [.Name yn p3] p4) (tK (Ph a C cls d ie iy s t) (s == t)) := by
  refine PE.wk (pe_cmpR (X := X.suite a ((a, oe) :: pn)) (op_eqD hu) (pe_xf Tx hno hz hf (pe_var (i := ie) hN hv hd1 hd2) hb) (pe_var (i := iy) hN2 hv2 hd3 hd4) (nomark _)) ?_
  rintro σ H Q ⟨⟨hc, ⟨dd, hd, hx⟩, h3, h1⟩, q⟩
  refine ⟨.ref a, h3, rfl, hc, dd, _, .str s, hd, hx, rfl, .str t, h1, ?_⟩
  exact ⟨.str s, .str t, .str _, .str _, by simp [SeqAt.shaped, PyData.canLay0, as, PyData.depth], by simp [SeqAt.shaped, PyData.canLay0, at', PyData.depth], q⟩
end
end NT

set_option Elab.async false
set_option linter.all false
set_option maxRecDepth 100000
set_option maxHeartbeats 2000000
/-! g(lambda: body, y), g: good = False; try: call() except C as e: good = ..; return good -/
namespace NT
open PySem PySem.Spec PyProof.Rows L2 LamX
/-- what the asker is told of: body raises C with the text s, y is the text t -/
def tNo (T : List (Addr × Str)) (C : Addr) (bf : Str → Str → Bool) (j : Nat) (tb : XK → TE) : TE := fun σ H Q => Tabs T H ∧ ∃ s t : Str, PyData.strOk s = true ∧ PyData.strOk t = true ∧ σ[j]? = some (some (.str t)) ∧
  ∀ H1, ExtN H H1 → Tabs T H1 → ∀ Q0 : VK, tb (fun cls d H' => cls = .ref C ∧ (∃ dd, d = some dd ∧ H' dd = some (.xd [("name", .str s)])) ∧ Q (.bl (bf s t)) H') σ H1 Q0
def Ng : List Str := ["call", "name", "good", "e"]
section
variable {X : Cx}
theorem pe_no {T : List (Addr × Str)} {x yn xn : Str} {g c P C : Addr} {k j jf : Nat} {pg : Arguments} {bg : List Stmt} {sg : Scope} {dV kV doc pm cdv ct oc : Value} {an od : Option Addr} {osl : Array (Option Value)}
    {params : Arguments} {body ge : Expr} {scope : Scope} {p lpos pos yp q1 q2 q3 q4 q5 q6 q7 q8 q9 q10 q11 q12 q13 : Pos} {tb : XK → TE} {bf : Str → Str → Bool} (hg : Gl X x) (hm : X.mg x = some (.ref g)) (hk : PySem.W.keepIn X.K (.ref g) = true)
    (lk : X.K.lookup g = some ⟨oc, od, .func (PySem.W.fnOf x x pg bg sg dV kV doc pm an cdv ct), osl⟩) (hcg : PySem.W.codeIn X.K cdv x = true) (hb : L2.Binds X.K (PySem.W.fnOf x x pg bg sg dV kV doc pm an cdv ct) ["call", "name"] []) (Sg : FnScope Ng ["call", "name"] sg)
    (TB : TabB X.base X.mg c P) (hcode : X.env.code = .ref c) (hmT : (P, X.env.qual ++ "<lambda>") ∈ T) (hu : ∀ p ∈ T, p.1 = P → p.2 = X.env.qual ++ "<lambda>") (hr : Room (k + 2) X.A) (L : LamS X.env.scope scope) (hdef : defaultsOf params X.env = ([], []))
    (hbind : ∀ (q : Str) (cl : List (Str × Addr)) (pm cv ctv : Value), bindArgs (PySem.W.kla_fn "<lambda>" q params body scope cl pm cv ctv) ⟨[], []⟩ = pure [])
    (hbody : ∀ (A : Around) (outer : List Env) (s : Shared) (H : Hp) (E : XK) (f c' : Addr), Room k (A.deeper (lamEnv X scope s.heap.objs.size f c')) → PE (lamCx X A outer s H E scope f c') body (tb E))
    (hyN : X.N[j]? = some yn) (hyv : Vis X.env.scope yn) (hyd : (yn == ("__debug__" : Str)) = false) (hyc : (yn == ("__classdict__" : Str)) = false) (hdb : (x == ("__debug__" : Str)) = false)
    (l0 : sg.names.lookup ("call" : Str) = some .local) (l1 : sg.names.lookup ("name" : Str) = some .local) (l2 : sg.names.lookup ("good" : Str) = some .local) (l3 : sg.names.lookup ("e" : Str) = some .local) (hxn : sg.names.lookup xn = some .globalImplicit) (hxd : (xn == ("__debug__" : Str)) = false) (hmC : X.mg xn = some (.ref C))
    (hex : PySem.W.exmOne X.K (.ref C) (.ref C) = some true)
    (hbg : bg = [.Assign [.Name "good" q1] (.Constant (.bool false) jf q2) q3, .Try [.Expr (.Call (.Name "call" q4) [] [] q5) q6] [.ExceptHandler (some (.Name xn q7)) (some "e") [.Assign [.Name "good" q8] ge q9] q10] [] [] q11, .Return (some (.Name "good" q12)) q13])
    (hsw : ∀ env : Env, swapsWith ge (some (.Name "good" q8)) q9.line env = pure false)
    (hge : ∀ (s t : Str) (s1 : Shared) (H1 : Hp) (a : Addr) (oe : Obj) (cls : Value) (d : Option Addr) (pn : List (Addr × Obj)), PyData.strOk s = true → PyData.strOk t = true → Room k (X.A.deeper (envOfC x sg s1.heap.objs.size g cdv)) → Zc cls d oe → (∃ vs, oe.data = .fields vs) →
      PE ((cxOf C8.CX0 X.prog X.w X.K X.mg X.base Ng x sg g cdv X.A X.stack s1 H1 C8.E0).suite a ((a, oe) :: pn)) ge (tK (Ph a C cls d 3 1 s t) (bf s t))) :
    PE X (.Call (.Name x p) [.Lambda params body scope lpos, .Name yn yp] [] pos) (tNo T C bf j tb) := by
  constructor
  rintro pins s0 σ H Q I ⟨hT, s, t, as, at', hy, h⟩
  refine lam2_run (Ng := Ng) (ps := ["call", "name"]) (j := j) (k := k + 1) hg hm hk lk hcg hb rfl Sg TB hcode hmT hu hr L hdef hyN hyv hyd hyc hdb I hT hy fun f c' pm' ctv H1 s1 I1 eN T1 hf hfn hfr hco hr1 => ?_
  subst hbg
  have tb1 := h H1 eN T1
  -- the text of g
  refine ⟨_, pss_cons (ps_set (X := cxOf C8.CX0 X.prog X.w X.K X.mg X.base Ng x sg g cdv X.A X.stack s1 H1 C8.E0) (i := 2) Sg.nd rfl (.inl l2) pe_bl (by rfl) (.inr l2))
    (pss_cons (ps_try_as (X := cxOf C8.CX0 X.prog X.w X.K X.mg X.base Ng x sg g cdv X.A X.stack s1 H1 C8.E0) (c := .ref C) (i := 3)
        (tb := fun W D σZ HZ => ∃ E : XK, (∀ cls d H', E cls d H' → W cls d σZ H') ∧ σZ[0]? = some (some (.ref f)) ∧ HZ c' = some (CodeO c' (X.env.qual ++ "<lambda>")) ∧ tb E σ HZ fun _ H' => D.nx σZ H')
        (ts := fun a cls d D σZ HZ => Ph a C cls d 3 1 s t σZ HZ ∧ D.nx (σZ.set 2 (some (.bl (bf s t)))) HZ)
        rfl rfl Sg.nd rfl l3 ⟨hxn, hxd, .inl hmC⟩ L2.takes0 (fun W pn xe tk _ => ?_) (fun a oe cls d pn hz hd => ?_))
      (pss_one (ps_ret (pe_var (i := 2) rfl (.inl l2))))), ?_⟩
  · -- the body of the try
    have pe0 : PE ((cxOf C8.CX0 X.prog X.w X.K X.mg X.base Ng x sg g cdv X.A X.stack s1 H1 C8.E0).tr pn xe) (.Call (.Name "call" q4) [] [] q5) (fun σZ HZ Q => ∃ E : XK, (∀ cls d H', E cls d H' → W cls d σZ H') ∧ σZ[0]? = some (some (.ref f)) ∧ HZ c' = some (CodeO c' (X.env.qual ++ "<lambda>")) ∧ tb E σ HZ Q) := by
      constructor
      rintro pinsZ sZ σZ HZ QZ IZ ⟨E, hW, h0, hc, ht⟩
      exact act_run (k := k) (i := 0) rfl I1 L hf hfn hfr (hbind _ _ _ _ _) hr1 (fun A outer s H hr2 => hbody A outer s H E f c' hr2) rfl (.inl l0) (by decide) (by decide) IZ (fun s1 e s' J c => tk e s' (XE.of_call J (fun cls d H' z => hW cls d H' z) c)) h0 hc ht
    exact pss_one (PS.wk (ps_expr pe0) fun D σZ HZ z => z)
  · -- the suite
    exact pss_one (PS.wk (ps_set (i := 2) Sg.nd rfl (.inl l2) (hge s t s1 H1 a oe cls d pn as at' (hr1.mono (Nat.le_succ k)) hz hd) (hsw _) (.inr l2)) fun D σZ HZ ⟨z1, z2⟩ => ⟨z1, z2⟩)
  · -- what it comes to
    refine ⟨fun cls d H' => cls = .ref C ∧ (∃ dd, d = some dd ∧ H' dd = some (.xd [("name", .str s)])) ∧ Q (.bl (bf s t)) H', ?_, rfl, hco, ?_⟩
    · rintro cls d H' ⟨rfl, hd, q⟩
      refine ⟨true, hex, fun _ a _ => ⟨⟨rfl, hd, rfl, rfl⟩, ?_⟩, fun z => by cases z⟩
      exact ⟨.bl (bf s t), rfl, q⟩
    · exact tb1 _
end
end NT

set_option Elab.async false
set_option linter.all false
set_option maxRecDepth 100000
set_option maxHeartbeats 2000000
/-! the law's own body: beside the row the tables of code objects -/
namespace NT
open PySem PySem.Spec PyProof.Rows L2 LamX
section
variable {K : PySem.W.Frag} {P : List V} {r : En} {σ : L2.St} {H F H' F' : Hp} {Af Af' : Nat → Fp} {A' : Fp} {T : List (Addr × Str)}
theorem own_kind (R : Rel K P r σ H F Af) {a : Addr} (h : U Af a) : (∀ ps, H a ≠ some (.tbl ps)) ∧ ∀ f, H a ≠ some (.ext f) := by
  obtain ⟨i, h⟩ := h
  cases e : r[i]? with
  | none => exact (R.out i e a h).elim
  | some s =>
    have q := R.slot i s e
    cases s with
    | un => exact (q a h).elim
    | fz d => exact (q.2 a h).elim
    | own o =>
      obtain ⟨v, _, q⟩ := q
      cases o with
      | lst l => obtain ⟨b, xs, _, hT, h1, _⟩ := q; rw [hT] at h; obtain rfl : a = b := h; rw [h1]; exact ⟨fun ps z => (by cases z), fun f z => (by cases z)⟩
      | dK l => obtain ⟨b, xs, _, hT, h1, _⟩ := q; rw [hT] at h; obtain rfl : a = b := h; rw [h1]; exact ⟨fun ps z => (by cases z), fun f z => (by cases z)⟩
      | dT l => obtain ⟨b, xs, _, hT, h1, _⟩ := q; rw [hT] at h; obtain rfl : a = b := h; rw [h1]; exact ⟨fun ps z => (by cases z), fun f z => (by cases z)⟩
theorem tabs_ext (R : Rel K P r σ H F Af) (e : Ext H F (U Af) H' F' A') (t : Tabs T H) : Tabs T H' := fun p hp => by
  obtain ⟨ps, h1, h2, h3⟩ := t p hp
  refine ⟨ps, e.fr _ _ h1 fun z => (own_kind R z).1 ps h1, h2, fun pos cv hc => ?_⟩
  obtain ⟨c, e1, e2⟩ := h3 pos cv hc
  exact ⟨c, e1, e.fr _ _ e2 fun z => (own_kind R z).2 _ e2⟩
/-- the state at the row r -/
def LG (T : List (Addr × Str)) (K : PySem.W.Frag) (P : List V) (r : En) (σ : L2.St) (H : Hp) : Prop := Tabs T H ∧ ∃ F Af, Rel K P r σ H F Af
def PostW (T : List (Addr × Str)) (K : PySem.W.Frag) (P : List V) (x : RS) (Z : Ends) : Prop := match x with
  | .nx r' => ∀ σ' H', LG T K P r' σ' H' → Z.nx σ' H'
  | .bk r' => ∀ σ' H', LG T K P r' σ' H' → Z.bk σ' H'
  | .ct r' => ∀ σ' H', LG T K P r' σ' H' → Z.ct σ' H'
  | .rt (.v d) _ => ∀ v H' F', Rep K F' v d → Z.rt v H'
  | _ => False
def tW (T : List (Addr × Str)) (K : PySem.W.Frag) (P : List V) (f : En → RS) : TS := fun Z σ H => ∃ r, LG T K P r σ H ∧ PostW T K P (f r) Z
end
structure WS (T : List (Addr × Str)) (X : Cx) (P : List V) (s : Stmt) (f : En → RS) : Prop where
  ps : PS X s (tW T X.K P f)
structure WB (T : List (Addr × Str)) (X : Cx) (P : List V) (s : List Stmt) (f : En → RS) : Prop where
  pss : PSs X s (tW T X.K P f)
section
variable {T : List (Addr × Str)} {X : Cx} {P : List V} {E : XK} {s : Stmt} {ss : List Stmt} {f g h b : En → RS} {c : M Bool} {e tg : Expr} {pos p : Pos}
theorem ws_of (h : DS X P E s f) : WS T X P s f := ⟨PS.wk h.ps fun Z σ H ⟨r, ⟨t, F, Af, R⟩, q⟩ => ⟨r, F, Af, R, by
  cases e : f r with
  | nx r' => rw [e] at q; exact fun σ' H' F' Af' ex R' => q σ' H' ⟨tabs_ext R ex t, F', Af', R'⟩
  | bk r' => rw [e] at q; exact fun σ' H' F' Af' ex R' => q σ' H' ⟨tabs_ext R ex t, F', Af', R'⟩
  | ct r' => rw [e] at q; exact fun σ' H' F' Af' ex R' => q σ' H' ⟨tabs_ext R ex t, F', Af', R'⟩
  | rt p r' =>
    rw [e] at q
    cases p with
    | v d => exact fun v σ' H' F' Af' T' ex R' rp => q v H' F' rp.1
    | s i => exact q.elim
    | n o => exact q.elim
  | ex x r' => rw [e] at q; exact q.elim
  | st => rw [e] at q; exact q.elim⟩⟩
theorem wb_of (h : DB X P E ss f) : WB T X P ss f := ⟨PSs.wk h.pss fun Z σ H ⟨r, ⟨t, F, Af, R⟩, q⟩ => ⟨r, F, Af, R, by
  cases e : f r with
  | nx r' => rw [e] at q; exact fun σ' H' F' Af' ex R' => q σ' H' ⟨tabs_ext R ex t, F', Af', R'⟩
  | bk r' => rw [e] at q; exact fun σ' H' F' Af' ex R' => q σ' H' ⟨tabs_ext R ex t, F', Af', R'⟩
  | ct r' => rw [e] at q; exact fun σ' H' F' Af' ex R' => q σ' H' ⟨tabs_ext R ex t, F', Af', R'⟩
  | rt p r' =>
    rw [e] at q
    cases p with
    | v d => exact fun v σ' H' F' Af' T' ex R' rp => q v H' F' rp.1
    | s i => exact q.elim
    | n o => exact q.elim
  | ex x r' => rw [e] at q; exact q.elim
  | st => rw [e] at q; exact q.elim⟩⟩
theorem wb_one (h : WS T X P s f) : WB T X P [s] f := ⟨pss_one h.ps⟩
theorem wb_cons (h1 : WS T X P s g) (h2 : WB T X P ss h) : WB T X P (s :: ss) (sSeq g h) := ⟨PSs.wk (pss_cons h1.ps h2.pss) fun Z σ H ⟨r, l, q⟩ => ⟨r, l, by
  unfold sSeq at q
  cases e : g r with
  | nx r1 => rw [e] at q; exact fun σ' H' l' => ⟨r1, l', q⟩
  | rt p r1 => rw [e] at q; cases p <;> exact q
  | bk r1 => rw [e] at q; exact q
  | ct r1 => rw [e] at q; exact q
  | ex x r1 => rw [e] at q; exact q
  | st => rw [e] at q; exact q⟩⟩
/-- for i in range(n) -/
theorem ws_forR {pos2 : Pos} {sl : List Nat} {a : Expr} {fs : M (List Pl)} {it : D → M Unit} {body : List Stmt} (hp : PassesOwn (model X.prog X.w) X.A X.env X.xe) (hcm : X.calm = true) (hg : Gl X "range") (hm : X.mg "range" = none) (ha : DA X P E [a] fs) (htg : DG X P E sl tg it) (hb : WB T X P body b)
    (hs : starEach [a] X.env = [(false, eval a X.env)] := by rfl) (hf : ∀ x, foldedSetIterable (.Call (.Name "range" p) [a] [] pos) X.env x = pure x := by intro _; rfl) :
    WS T X P (.For tg (.Call (.Name "range" p) [a] [] pos) body [] pos2) (sFor (mRange1 fs) it b) := ⟨PS.wk (ps_for hp hcm (pi_range1 hg hm ha.pa hs) htg.pg hb.pss hf) fun Z σ H ⟨r, ⟨t, F, Af, R⟩, q⟩ => by
    unfold sFor mRange1 at q
    refine ⟨r, F, Af, R, ?_⟩
    cases e1 : fs r with
    | ex x r' => rw [e1] at q; exact q.elim
    | st => rw [e1] at q; exact q.elim
    | ok ps r1 =>
      rw [e1] at q
      simp only at q
      intro vs H1 F1 Af1 ex1 R1 rp1
      have t1 := tabs_ext R ex1 t
      cases e2 : derefL r1 ps with
      | none => rw [e2] at q; exact q.elim
      | some ds =>
        rw [e2] at q
        have rd := PlL.rd R1 rp1 e2
        match ds, rd, q with
        | [], _, q => exact q.elim
        | d :: _ :: _, _, q => cases d <;> exact q.elim
        | [.non], _, q => exact q.elim
        | [.bl _], _, q => exact q.elim
        | [.str _], _, q => exact q.elim
        | [.tup _], _, q => exact q.elim
        | [.lst _], _, q => exact q.elim
        | [.dK _], _, q => exact q.elim
        | [.dT _], _, q => exact q.elim
        | [.scr _], _, q => exact q.elim
        | [.int j], rd, q =>
          simp only at q
          by_cases hj : -(2 ^ 62) ≤ j ∧ j < 2 ^ 62
          · rw [if_pos hj] at q
            simp only at q
            refine ⟨j, rd.int1, hj.1, hj.2, ?_⟩
            generalize hds : ((List.range j.toNat).map fun i => D.int (0 + (i : Nat))) = ds at q
            have hl : ds.length = j.toNat := by rw [← hds, List.length_map, List.length_range]
            refine ⟨fun i m σ H => m + i = ds.length ∧ ∃ r, LG T X.K P r σ H ∧ PostW T X.K P (forL it b (ds.drop i) r) Z, ⟨ds.length, by omega, r1, ⟨t1, F1, Af1, R1⟩, q⟩, ?_⟩
            rintro i m σ H ⟨em, r, ⟨t, F, Af, R⟩, q⟩
            by_cases hi : i < ds.length
            · rw [List.drop_eq_getElem_cons hi] at q
              have hd : ds[i] = .int (0 + (i : Nat)) := by subst hds; simp
              refine .inr ⟨by show i < j.toNat; omega, fun σ' H' => ∃ r', LG T X.K P r' σ' H' ∧ PostW T X.K P (forL it b (ds.drop (i + 1)) r') Z, fun σ' H' w => ⟨m - 1, by omega, by omega, w⟩, ?_⟩
              rintro x H' ⟨rfl, rfl⟩
              refine ⟨ds[i], r, F, Af, R, by rw [hd]; exact .int _, ?_⟩
              unfold forL at q
              cases e1 : it ds[i] r with
              | ex x r2 => rw [e1] at q; exact q.elim
              | st => rw [e1] at q; exact q.elim
              | ok u r2 =>
                rw [e1] at q
                simp only at q
                intro σ2 H2 F2 Af2 _ _ ex2 R2
                refine ⟨r2, ⟨tabs_ext R ex2 t, F2, Af2, R2⟩, ?_⟩
                cases e2 : b r2 with
                | nx r3 => rw [e2] at q; exact fun σ' H' l' => ⟨r3, l', q⟩
                | ct r3 => rw [e2] at q; exact fun σ' H' l' => ⟨r3, l', q⟩
                | bk r3 => rw [e2] at q; exact q
                | rt p r3 => rw [e2] at q; cases p <;> exact q
                | ex x r3 => rw [e2] at q; exact q.elim
                | st => rw [e2] at q; exact q.elim
            · rw [List.drop_of_length_le (by omega)] at q
              exact .inl ⟨by show j.toNat ≤ i; omega, q σ H ⟨t, F, Af, R⟩⟩
          · rw [if_neg hj] at q; exact q.elim⟩
end
end NT

set_option Elab.async false
set_option linter.all false
set_option maxRecDepth 100000
set_option maxHeartbeats 2000000
/-! if not g(lambda: body, y): .. in the law's own body -/
namespace NT
open PySem PySem.Spec PyProof.Rows L2 LamX
def dropS : Sl → Sl
  | .own _ => .un
  | s => s
/-- the slots' own objects are forgotten -/
def dropO (r : En) : En := r.map dropS
@[simp] theorem dropS_fz (d : D) : dropS (.fz d) = .fz d := rfl
@[simp] theorem dropS_un : dropS .un = .un := rfl
@[simp] theorem dropS_own (o : O) : dropS (.own o) = .un := rfl
@[simp] theorem dropO_nil : dropO [] = [] := rfl
@[simp] theorem dropO_fz (d : D) (r : En) : dropO (.fz d :: r) = .fz d :: dropO r := rfl
@[simp] theorem dropO_un (r : En) : dropO (.un :: r) = .un :: dropO r := rfl
@[simp] theorem dropO_own (o : O) (r : En) : dropO (.own o :: r) = .un :: dropO r := rfl
@[simp] theorem dropO_cons (s : Sl) (r : En) : dropO (s :: r) = dropS s :: dropO r := rfl
def noTbl (F : Hp) : Hp := fun a => match F a with
  | some (.tbl _) => none
  | x => x
theorem noTbl_of {F : Hp} {a : Addr} {u : HO} (h : F a = some u) (n : ∀ ps, u ≠ .tbl ps) : noTbl F a = some u := by
  unfold noTbl
  rw [h]
  cases u <;> first | rfl | exact (n _ rfl).elim
theorem of_noTbl {F : Hp} {a : Addr} {u : HO} (h : noTbl F a = some u) : F a = some u ∧ ∀ ps, u ≠ .tbl ps := by
  unfold noTbl at h
  split at h
  · cases h
  · rename_i hx
    exact ⟨h, fun ps z => hx ps (by rw [h, z])⟩
section
variable {K : PySem.W.Frag} {P : List V} {r : En} {σ : L2.St} {H F H1 F1 : Hp} {Af : Nat → Fp} {T : List (Addr × Str)}
mutual
theorem Rep.noT : ∀ {v : V} {d : D}, Rep K F v d → Rep K (noTbl F) v d
  | _, _, .non => .non
  | _, _, .bl b => .bl b
  | _, _, .int i => .int i
  | _, _, .str x => .str x
  | _, _, .tup h t => .tup (noTbl_of h fun _ z => nomatch z) (RepL.noT t)
  | _, _, .lst h t => .lst (noTbl_of h fun _ z => nomatch z) (RepL.noT t)
  | _, _, .scr h => .scr (by
    rcases h with (h | ⟨o, h⟩) | h
    · exact .inl (.inl (noTbl_of h fun _ z => nomatch z))
    · exact .inl (.inr ⟨o, noTbl_of h fun _ z => nomatch z⟩)
    · exact .inr h)
  | _, _, .dK h k t => .dK (noTbl_of h fun _ z => nomatch z) k (RepL.noT t)
  | _, _, .dT h k t => .dT (noTbl_of h fun _ z => nomatch z) k (RepL.noT t)
theorem RepL.noT : ∀ {vs : List V} {ds : List D}, RepL K F vs ds → RepL K (noTbl F) vs ds
  | _, _, .nil => .nil
  | _, _, .cons h t => .cons (Rep.noT h) (RepL.noT t)
end
def Af0 : Nat → Fp := fun _ _ => False
theorem Rel.forget (R : Rel K P r σ H F Af) : Rel K P (dropO r) σ H (noTbl F) Af0 := by
  refine ⟨by unfold dropO; rw [List.length_map]; exact R.len, fun a u h => R.keep a u (of_noTbl h).1, R.par, fun i s e => ?_, fun _ _ _ z => z, fun _ _ _ z => z.elim⟩
  unfold dropO at e
  rw [List.getElem?_map] at e
  cases e2 : r[i]? with
  | none => rw [e2] at e; cases e
  | some s0 =>
    rw [e2] at e
    have q := R.slot i s0 e2
    cases s0 with
    | un => cases e; exact fun _ z => z
    | fz d =>
      cases e
      obtain ⟨⟨v, h1, h2⟩, _⟩ := q
      exact ⟨⟨v, h1, h2.noT⟩, fun _ z => z⟩
    | own o => cases e; exact fun _ z => z
/-- nothing owned: what the row says holds wherever F's objects stand -/
theorem Rel.over0 (R : Rel K P r σ H F Af0) (n : ∀ (i : Nat) (o : O), r[i]? ≠ some (Sl.own o)) (k : Keep F1 H1) (s : Same F F1) : Rel K P r σ H1 F1 Af0 := by
  refine ⟨R.len, k, R.par, fun i s0 e => ?_, R.out, R.dis⟩
  have q := R.slot i s0 e
  cases s0 with
  | un => exact q
  | fz d => obtain ⟨⟨v, h1, h2⟩, z⟩ := q; exact ⟨⟨v, h1, h2.mono s⟩, z⟩
  | own o => exact (n i o e).elim
theorem dropO_no (r : En) (i : Nat) (o : O) : (dropO r)[i]? ≠ some (Sl.own o) := by
  unfold dropO
  rw [List.getElem?_map]
  cases r[i]? with
  | none => simp
  | some s => cases s <;> simp [dropS]
end
def sIfNo (cls : Str) (bf : Str → Str → Bool) (j : Nat) (fb : M Pl) (g h : En → RS) : En → RS := fun r => match r[j]? with
  | some (.fz (.str t)) => match fb (dropO r) with
    | .ex x _ => match x.arg with
      | some (.str s) => if x.cls = cls ∧ PyData.strOk s = true ∧ PyData.strOk t = true then (if bf s t = true then h (dropO r) else g (dropO r)) else .st
      | _ => .st
    | _ => .st
  | _ => .st
theorem sIfNo_eq {cls : Str} {bf : Str → Str → Bool} {j : Nat} {fb : M Pl} {g h : En → RS} {r r' : En} {s t : Str} (h1 : r[j]? = some (.fz (.str t))) (h2 : fb (dropO r) = .ex ⟨cls, some (.str s)⟩ r') (hs : PyData.strOk s = true) (ht : PyData.strOk t = true) : sIfNo cls bf j fb g h r = if bf s t = true then h (dropO r) else g (dropO r) := by
  unfold sIfNo
  rw [h1]
  simp only
  rw [h2]
  simp only
  rw [if_pos ⟨trivial, hs, ht⟩]
section
variable {T : List (Addr × Str)} {X : Cx} {P : List V} {g h : En → RS} {pos p np yp lpos cpos : Pos}
theorem ws_ifNo {C : Addr} {cls x yn : Str} {bf : Str → Str → Bool} {j : Nat} {fb : M Pl} {params : Arguments} {body : Expr} {scope : Scope} {a c : List Stmt} (hm : X.mg cls = some (.ref C))
    (hc : PE X (.Call (.Name x p) [.Lambda params body scope lpos, .Name yn yp] [] cpos) (tNo T C bf j fun E => tE X.K X.mg P E fb)) (ha : WB T X P a g) (hb : WB T X P c h) :
    WS T X P (.If (.UnaryOp .Not (.Call (.Name x p) [.Lambda params body scope lpos, .Name yn yp] [] cpos) np) a c pos) (sIfNo cls bf j fb g h) := ⟨PS.wk (ps_if (pt_not (pt_val hc)) ha.pss hb.pss) fun Z σ H ⟨r, ⟨hT, F, Af, R⟩, q⟩ => by
    unfold sIfNo at q
    cases e1 : r[j]? with
    | none => rw [e1] at q; exact q.elim
    | some sl =>
      rw [e1] at q
      cases sl with
      | un => exact q.elim
      | own o => exact q.elim
      | fz d =>
        cases d with
        | str t =>
          simp only at q
          cases e2 : fb (dropO r) with
          | ok p r' => rw [e2] at q; exact q.elim
          | st => rw [e2] at q; exact q.elim
          | ex x r' =>
            rw [e2] at q
            obtain ⟨xc, xa⟩ := x
            simp only at q
            cases xa with
            | none => exact q.elim
            | some d =>
              cases d with
              | str s =>
                simp only at q
                by_cases hx : xc = cls ∧ PyData.strOk s = true ∧ PyData.strOk t = true
                · rw [if_pos hx] at q
                  obtain ⟨rfl, hs, ht⟩ := hx
                  obtain ⟨⟨v, hv, rv⟩, _⟩ := R.slot j _ e1
                  cases rv
                  refine ⟨hT, s, t, hs, ht, hv, fun H1 eN T1 Q0 => ?_⟩
                  have R0 := R.forget
                  have R1 : Rel X.K P (dropO r) σ H1 (noTbl F) Af0 := R0.over0 (dropO_no r) (fun a u hu => by
                    obtain ⟨_, nt⟩ := of_noTbl hu
                    rcases R0.keep a u hu with z | ⟨l, o, z⟩
                    · exact .inl (eN a u z nt)
                    · exact .inr ⟨l, o, eN a _ z fun ps y => nomatch y⟩) (Same.refl _)
                  refine ⟨dropO r, noTbl F, Af0, R1, ?_⟩
                  rw [e2]
                  rintro C' od σ' H' F' Af' - ex R' ⟨ca, hca, rfl, a, v, rfl, hF', rv'⟩
                  rw [hm] at hca
                  cases hca
                  cases rv'
                  have sm : ∀ b o, H1 b = some o → H' b = some o := fun b o z => ex.fr b o z fun ⟨_, y⟩ => y
                  refine ⟨rfl, ⟨a, rfl, ?_⟩, bf s t, rfl, ?_⟩
                  · rcases R'.keep a _ hF' with z | ⟨l, _⟩
                    · exact z
                    · exact l.elim
                  · have lg : LG T X.K P (dropO r) σ H' := ⟨T1.ext sm, F', Af0, R1.over0 (dropO_no r) R'.keep ex.ff⟩
                    cases hb' : bf s t with
                    | true => rw [hb', if_pos rfl] at q; exact ⟨dropO r, lg, q⟩
                    | false => rw [hb', if_neg (by simp)] at q; exact ⟨dropO r, lg, q⟩
                · rw [if_neg hx] at q; exact q.elim
              | _ => exact q.elim
        | _ => exact q.elim⟩
end
end NT

set_option Elab.async false
set_option linter.all false
set_option maxRecDepth 100000
set_option maxHeartbeats 2000000
/-! what a law with lambdas asks of its text, in one place -/
namespace NT
open PySem PySem.Spec PyProof.Rows L2 LamX
/-- an own exception class, ready for a raise at level k -/
def XC (P : Program) (w : World) (K : PySem.W.Frag) (mg : Str → Option Value) (base : Heap) (k : Nat) (cls : Str) : Prop := ∃ j, j + 1 ≤ k ∧ XCls P w K mg base j cls
theorem XC.mono {P : Program} {w : World} {K : PySem.W.Frag} {mg : Str → Option Value} {base : Heap} {j k : Nat} {cls : Str} (x : XC P w K mg base j cls) (h : j ≤ k) : XC P w K mg base k cls := by
  obtain ⟨i, hi, x⟩ := x
  exact ⟨i, by omega, x⟩
theorem ds_raiseX {X : Cx} {P : List V} {E : XK} {cls : Str} {e : Expr} {f : M D} {k : Nat} {p pos pos2 : Pos} (hc : X.calm = true) (tk : Takes X fun c d _ H => E c d H) (hx : Passes (L2.CX X.prog X.w) X (fun _ _ _ => False)) (xc : XC X.prog X.w X.K X.mg X.base k cls) (hr : Room k X.A) (hg : Gl X cls) (he : DF X P E e f)
    (hdb : (cls == ("__debug__" : Str)) = false := by decide) (hst : starEach [e] X.env = [(false, eval e X.env)] := by rfl) : DS X P E (.Raise (some (.Call (.Name cls p) [e] [] pos2)) none pos) (sRaise cls f) := by
  obtain ⟨j, hj, xc⟩ := xc
  exact ds_raise hc tk hx xc (hr.mono hj) hg he hdb hst
section
variable {P : Program} {w : World} {K : PySem.W.Frag} {mg : Str → Option Value} {base : Heap}
theorem takesD {N : List Str} {qual : Str} {scope : Scope} {f : Addr} {cd : Value} {A : Around} {outer : List Env} {s : Shared} {H : Hp} {E : XK} : Takes (cxOf (L2.CX P w) P w K mg base N qual scope f cd A outer s H E) fun c d _ H => E c d H := takes_of rfl rfl rfl rfl
theorem passN {N : List Str} {qual : Str} {scope : Scope} {f : Addr} {cd : Value} {A : Around} {outer : List Env} {s : Shared} {H : Hp} {E : XK} : Passes (L2.CX P w) (cxOf (L2.CX P w) P w K mg base N qual scope f cd A outer s H E) (fun _ _ _ => False) := passes_call takesD fun _ _ _ _ z => z.elim
end
theorem passM {X : Cx} {A : Around} {outer : List Env} {s : Shared} {H : Hp} {E : XK} {scope : Scope} {f c : Addr} : Passes (L2.CX X.prog X.w) (lamCx X A outer s H E scope f c) E := passes_call (takes_of rfl rfl rfl rfl) fun _ _ _ _ h => h
/-- what the head tells of the class cls, raised by the program and asked for by the law -/
structure XF (K : PySem.W.Frag) (mg : Str → Option Value) (cls bs : Str) (st : Stmt) (C : Addr) : Prop where
  c : mg cls = some (.ref C)
  ini : ∃ (B fI : Addr) (fd : FuncData), mg bs = some (.ref B) ∧ XHead K C B fI ∧ Fun K "__init__" (cls ++ ".__init__") st fI fd ∧ Binds K fd ["self", "name"] []
  ei : ExcC K C
  xf : XfC K C
  nm : PySem.W.findIn K (.ref C) "name" = some none
  em : PySem.W.exmOne K (.ref C) (.ref C) = some true
/-- the def that asks the lambda -/
theorem pe_noD {X : Cx} {T : List (Addr × Str)} {x yn xn : Str} {stG : Stmt} {c P C : Addr} {k j jf : Nat} {params : Arguments} {body ge : Expr} {scope : Scope} {p lpos pos yp q1 q2 q3 q4 q5 q6 q7 q8 q9 q10 q11 q12 q13 : Pos} {tb : XK → TE} {bf : Str → Str → Bool} (d : Def X.K X.mg x stG ["call", "name"]) (Sg : FnScope Ng ["call", "name"] (defScope stG)) (hg : Gl X x)
    (TB : TabB X.base X.mg c P) (hcode : X.env.code = .ref c) {qn : Str} (hq : X.env.qual = qn) (hT : T = [(P, qn ++ "<lambda>")]) (hr : Room (k + 2) X.A) (L : LamS X.env.scope scope) (hdef : defaultsOf params X.env = ([], []))
    (hbind : ∀ (q : Str) (cl : List (Str × Addr)) (pm cv ctv : Value), bindArgs (PySem.W.kla_fn "<lambda>" q params body scope cl pm cv ctv) ⟨[], []⟩ = pure [])
    (hbody : ∀ (A : Around) (outer : List Env) (s : Shared) (H : Hp) (E : XK) (f c' : Addr), Room k (A.deeper (lamEnv X scope s.heap.objs.size f c')) → PE (lamCx X A outer s H E scope f c') body (tb E))
    (hyN : X.N[j]? = some yn) (hyv : Vis X.env.scope yn) (hyd : (yn == ("__debug__" : Str)) = false) (hyc : (yn == ("__classdict__" : Str)) = false) (hdb : (x == ("__debug__" : Str)) = false)
    (l0 : (defScope stG).names.lookup ("call" : Str) = some .local) (l1 : (defScope stG).names.lookup ("name" : Str) = some .local) (l2 : (defScope stG).names.lookup ("good" : Str) = some .local) (l3 : (defScope stG).names.lookup ("e" : Str) = some .local) (hxn : (defScope stG).names.lookup xn = some .globalImplicit) (hxd : (xn == ("__debug__" : Str)) = false) (hmC : X.mg xn = some (.ref C))
    (hex : PySem.W.exmOne X.K (.ref C) (.ref C) = some true)
    (hbg : defBody stG = [.Assign [.Name "good" q1] (.Constant (.bool false) jf q2) q3, .Try [.Expr (.Call (.Name "call" q4) [] [] q5) q6] [.ExceptHandler (some (.Name xn q7)) (some "e") [.Assign [.Name "good" q8] ge q9] q10] [] [] q11, .Return (some (.Name "good" q12)) q13])
    (hsw : ∀ env : Env, swapsWith ge (some (.Name "good" q8)) q9.line env = pure false)
    (hge : ∀ (s t : Str) (Y : Cx) (a : Addr) (oe : Obj) (cls : Value) (d : Option Addr) (pn : List (Addr × Obj)), Y.K = X.K → Y.mg = X.mg → Y.N = Ng → Y.env.scope = defScope stG → Y.A.units + 64 < cLine → PyData.strOk s = true → PyData.strOk t = true → Zc cls d oe → (∃ vs, oe.data = .fields vs) →
      PE (Y.suite a ((a, oe) :: pn)) ge (tK (Ph a C cls d 3 1 s t) (bf s t))) :
    PE X (.Call (.Name x p) [.Lambda params body scope lpos, .Name yn yp] [] pos) (tNo T C bf j tb) := by
  subst hq
  obtain ⟨g, fd, hm, F, bd⟩ := d.ex
  obtain ⟨oc, od, kV, doc, pm, an, cdv, ct, osl, rfl, lk, hcd⟩ := F.ex
  refine pe_no (bg := defBody stG) (sg := defScope stG) hg hm F.kp lk hcd bd Sg TB hcode (by rw [hT]; exact List.mem_cons_self) (fun q hq _ => by rw [hT] at hq; rw [List.mem_singleton.mp hq]) hr L hdef hbind hbody hyN hyv hyd hyc hdb l0 l1 l2 l3 hxn hxd hmC hex hbg hsw fun s t s1 H1 a oe cls d pn as at' hr1 hz hf => ?_
  exact hge s t _ a oe cls d pn rfl rfl rfl rfl (units64 hr1) as at' hz hf
/-- the law's promise: the script told, its code's table empty -/
def spLawT (K : PySem.W.Frag) (Pt : Addr) : Sp := fun vs H Q _ => ∃ (a : Addr) (ns : List Int), vs = [.ref a] ∧ SqL K H a (ns.map V.int) ∧ ns.length ≤ 63 ∧ H Pt = some (.tbl #[]) ∧ ∀ H', Q (.bl true) H'
theorem law_fn {P : Program} {w : World} {K : PySem.W.Frag} {mg : Str → Option Value} {base : Heap} {k : Nat} {N : List Str} {st : Stmt} {c Pt f : Addr} {b : En → RS} {oc kV doc pm ct : Value} {od an : Option Addr} {osl : Array (Option Value)} {n : Nat}
    (lf : K.lookup f = some ⟨oc, od, .func (PySem.W.fnOf "law" "law" (defArgs st) (defBody st) (defScope st) .none kV doc pm an (.ref c) ct), osl⟩) (hcd : PySem.W.codeIn K (.ref c) "law" = true) (S : FnScope N ["script"] (defScope st))
    (hw : ∀ (A : Around) (outer : List Env) (s : Shared) (H : Hp) (E : XK), Room k (A.deeper (envOfC "law" (defScope st) s.heap.objs.size f (.ref c))) → WB [(Pt, ("law" : Str) ++ ".<locals>." ++ "<lambda>")] (cxOf (L2.CX P w) P w K mg base N "law" (defScope st) f (.ref c) A outer s H E) [] (defBody st) b)
    (hn : N.length = n + 1) (plain : ∀ ns : List Int, ns.length ≤ 63 → ∃ r', b (.fz (.scr ns) :: List.replicate n .un) = .rt (.v (.bl true)) r') :
    FnOk P w K mg base (L2.CX P w) (k + 1) f (PySem.W.fnOf "law" "law" (defArgs st) (defBody st) (defScope st) .none kV doc pm an (.ref c) ct) ["script"] (spLawT K Pt) := by
  refine fn_of lf hcd S (fun vs H Q E z => by obtain ⟨a, ns, rfl, _⟩ := z; rfl) fun A outer s H vs Q E hr z => ?_
  obtain ⟨a, ns, rfl, hS, hl, hT, hq⟩ := z
  obtain ⟨r', e⟩ := plain ns hl
  obtain ⟨τ, e1, e2⟩ := start_eq N [.ref a] 1 rfl
  refine ⟨_, (hw A outer s H E hr).pss, .fz (.scr ns) :: List.replicate n .un, ⟨fun p hp => by rw [List.mem_singleton.mp hp]; exact TabS.nil hT, H, Af0, ⟨?_, fun a u z => .inl z, fun j v z => by simp at z, fun i sl z => ?_, fun _ _ _ z => z, fun _ _ _ z => z.elim⟩⟩, ?_⟩
  · rw [e1]; simp [e2, hn]
  · match i, z with
    | 0, z =>
      cases z
      exact ⟨⟨.ref a, by rw [e1]; rfl, .scr hS⟩, fun _ z => z⟩
    | i + 1, z =>
      rw [List.getElem?_cons_succ, List.getElem?_replicate] at z
      split at z
      · cases z; exact fun _ z => z
      · cases z
  · rw [e]
    rintro v H' F' rv
    cases rv
    exact hq H'
end NT

set_option Elab.async false
set_option linter.all false
set_option maxRecDepth 100000
set_option maxHeartbeats 4000000
namespace NT
open PySem PySem.Spec PyProof.Rows L2
def topS (i : Nat) : Stmt := PySem.Challenge.pw_needtrace_k02_what_leads_where.main.body.getD i (.Pass ⟨0, 0, 0, 0⟩)
abbrev s_is_name : Stmt := topS 7
abbrev N_is_name : List Str := ["thing", "sign"]
theorem sc_is_name : FnScope N_is_name ["thing"] (defScope s_is_name) := ⟨rfl, rfl, rfl, by decide +kernel, rfl, by decide +kernel, by decide +kernel⟩
abbrev s_sorts_of : Stmt := topS 8
abbrev N_sorts_of : List Str := ["web", "item"]
theorem sc_sorts_of : FnScope N_sorts_of ["web"] (defScope s_sorts_of) := ⟨rfl, rfl, rfl, by decide +kernel, rfl, by decide +kernel, by decide +kernel⟩
abbrev s_others_of : Stmt := topS 9
abbrev N_others_of : List Str := ["web", "item"]
theorem sc_others_of : FnScope N_others_of ["web"] (defScope s_others_of) := ⟨rfl, rfl, rfl, by decide +kernel, rfl, by decide +kernel, by decide +kernel⟩
abbrev s_all_under : Stmt := topS 10
abbrev N_all_under : List Str := ["others", "name", "found", "left", "one"]
theorem sc_all_under : FnScope N_all_under ["others", "name"] (defScope s_all_under) := ⟨rfl, rfl, rfl, by decide +kernel, rfl, by decide +kernel, by decide +kernel⟩
abbrev s_need_item : Stmt := topS 11
abbrev N_need_item : List Str := ["web", "name"]
theorem sc_need_item : FnScope N_need_item ["web", "name"] (defScope s_need_item) := ⟨rfl, rfl, rfl, by decide +kernel, rfl, by decide +kernel, by decide +kernel⟩
abbrev s_leads_to : Stmt := topS 12
abbrev N_leads_to : List Str := ["web", "item"]
theorem sc_leads_to : FnScope N_leads_to ["web", "item"] (defScope s_leads_to) := ⟨rfl, rfl, rfl, by decide +kernel, rfl, by decide +kernel, by decide +kernel⟩
abbrev s_needs_of : Stmt := topS 13
abbrev N_needs_of : List Str := ["web", "item", "others", "one"]
theorem sc_needs_of : FnScope N_needs_of ["web", "item"] (defScope s_needs_of) := ⟨rfl, rfl, rfl, by decide +kernel, rfl, by decide +kernel, by decide +kernel⟩
abbrev s_holds : Stmt := topS 14
abbrev N_holds : List Str := ["web", "item", "variant", "one", "sign"]
theorem sc_holds : FnScope N_holds ["web", "item", "variant"] (defScope s_holds) := ⟨rfl, rfl, rfl, by decide +kernel, rfl, by decide +kernel, by decide +kernel⟩
abbrev s__law_bag : Stmt := topS 16
abbrev N__law_bag : List Str := ["script", "k", "cell"]
theorem sc__law_bag : FnScope N__law_bag ["script", "k"] (defScope s__law_bag) := ⟨rfl, rfl, rfl, by decide +kernel, rfl, by decide +kernel, by decide +kernel⟩
abbrev s__law_take : Stmt := topS 17
abbrev N__law_take : List Str := ["bag", "many", "found"]
theorem sc__law_take : FnScope N__law_take ["bag", "many"] (defScope s__law_take) := ⟨rfl, rfl, rfl, by decide +kernel, rfl, by decide +kernel, by decide +kernel⟩
abbrev s__law_of : Stmt := topS 18
abbrev N__law_of : List Str := ["bag", "some"]
theorem sc__law_of : FnScope N__law_of ["bag", "some"] (defScope s__law_of) := ⟨rfl, rfl, rfl, by decide +kernel, rfl, by decide +kernel, by decide +kernel⟩
abbrev s__law_some : Stmt := topS 19
abbrev N__law_some : List Str := ["bag", "names", "least", "most", "left", "found", "many", "turn"]
theorem sc__law_some : FnScope N__law_some ["bag", "names", "least", "most"] (defScope s__law_some) := ⟨rfl, rfl, rfl, by decide +kernel, rfl, by decide +kernel, by decide +kernel⟩
abbrev s__law_web : Stmt := topS 20
abbrev N__law_web : List Str := ["bag", "needs_so", "found", "parts", "at", "name", "signs", "trials", "under", "others"]
theorem sc__law_web : FnScope N__law_web ["bag", "needs_so"] (defScope s__law_web) := ⟨rfl, rfl, rfl, by decide +kernel, rfl, by decide +kernel, by decide +kernel⟩
abbrev s__law_others : Stmt := topS 21
abbrev N__law_others : List Str := ["web", "name", "item"]
theorem sc__law_others : FnScope N__law_others ["web", "name"] (defScope s__law_others) := ⟨rfl, rfl, rfl, by decide +kernel, rfl, by decide +kernel, by decide +kernel⟩
abbrev s__law_needs : Stmt := topS 22
abbrev N__law_needs : List Str := ["web", "item"]
theorem sc__law_needs : FnScope N__law_needs ["web"] (defScope s__law_needs) := ⟨rfl, rfl, rfl, by decide +kernel, rfl, by decide +kernel, by decide +kernel⟩
abbrev s__law_under : Stmt := topS 23
abbrev N__law_under : List Str := ["web", "name", "found", "left", "one"]
theorem sc__law_under : FnScope N__law_under ["web", "name"] (defScope s__law_under) := ⟨rfl, rfl, rfl, by decide +kernel, rfl, by decide +kernel, by decide +kernel⟩
abbrev s__law_variant : Stmt := topS 24
abbrev N__law_variant : List Str := ["bag"]
theorem sc__law_variant : FnScope N__law_variant ["bag"] (defScope s__law_variant) := ⟨rfl, rfl, rfl, by decide +kernel, rfl, by decide +kernel, by decide +kernel⟩
abbrev s__law_no_item : Stmt := topS 25
abbrev N__law_no_item : List Str := ["call", "name", "good", "e"]
theorem sc__law_no_item : FnScope N__law_no_item ["call", "name"] (defScope s__law_no_item) := ⟨rfl, rfl, rfl, by decide +kernel, rfl, by decide +kernel, by decide +kernel⟩
abbrev s_law : Stmt := topS 26
abbrev N_law : List Str := ["script", "k", "bag", "web", "variant", "name", "sort", "others", "signs", "due", "found", "lacking", "text", "need", "sign"]
theorem sc_law : FnScope N_law ["script"] (defScope s_law) := ⟨rfl, rfl, rfl, by decide +kernel, rfl, by decide +kernel, by decide +kernel⟩
/-- what the head tells -/
structure Txt (K : PySem.W.Frag) (mg : Str → Option Value) : Prop where
  d_is_name : Def K mg "is_name" s_is_name ["thing"]
  d_sorts_of : Def K mg "sorts_of" s_sorts_of ["web"]
  d_others_of : Def K mg "others_of" s_others_of ["web"]
  d_all_under : Def K mg "all_under" s_all_under ["others", "name"]
  d_need_item : Def K mg "need_item" s_need_item ["web", "name"]
  d_leads_to : Def K mg "leads_to" s_leads_to ["web", "item"]
  d_needs_of : Def K mg "needs_of" s_needs_of ["web", "item"]
  d_holds : Def K mg "holds" s_holds ["web", "item", "variant"]
  d__law_bag : Def K mg "_law_bag" s__law_bag ["script", "k"]
  d__law_take : Def K mg "_law_take" s__law_take ["bag", "many"]
  d__law_of : Def K mg "_law_of" s__law_of ["bag", "some"]
  d__law_some : Def K mg "_law_some" s__law_some ["bag", "names", "least", "most"]
  d__law_web : Def K mg "_law_web" s__law_web ["bag", "needs_so"]
  d__law_others : Def K mg "_law_others" s__law_others ["web", "name"]
  d__law_needs : Def K mg "_law_needs" s__law_needs ["web"]
  d__law_under : Def K mg "_law_under" s__law_under ["web", "name"]
  d__law_variant : Def K mg "_law_variant" s__law_variant ["bag"]
  d__law_no_item : Def K mg "_law_no_item" s__law_no_item ["call", "name"]
  d_law : Def K mg "law" s_law ["script"]
  g_LETTERS : ∃ t, mg "LETTERS" = some (.str "abcdefghijklmnopqrstuvwxyz" t)
  g_NEEDS : ∃ a, mg "NEEDS" = some (.ref a) ∧ SqT K (fun _ => none) a ((["all", "any"] : List Str).map V.str)
  z_abs : mg "abs" = none
  z_all : mg "all" = none
  z_bool : mg "bool" = none
  z_enumerate : mg "enumerate" = none
  z_isinstance : mg "isinstance" = none
  z_len : mg "len" = none
  z_list : mg "list" = none
  z_min : mg "min" = none
  z_range : mg "range" = none
  z_sorted : mg "sorted" = none
  z_str : mg "str" = none
  z_tuple : mg "tuple" = none
section
variable {P : Program} {w : World} {K : PySem.W.Frag} {mg : Str → Option Value} {base : Heap}
def b_is_name : En → RS :=
  (sRet (eAnd (mIsi "str" (eV 0)) (eAnd (eChain gLe gLe (eC (.int 1)) (mCall gLen (aCons (eV 0) aNil)) (eC (.int 8))) (mCall gAll (aCons (mComp [1] (mIter (frz (eV 0))) (gN 1) (M.pure true) (frz (mBin (bo gIn) (eV 1) (eC (.str "abcdefghijklmnopqrstuvwxyz"))))) aNil)))))
theorem d_is_name (T : Txt K mg) {k : Nat} : Cal P w K mg base (k + 1) "is_name" ["thing"] 0 (fnOf 1 0 (b_is_name)) := by
  have nd := sc_is_name.nd
  exact cal_ok T.d_is_name sc_is_name (by decide) fun f cdv A outer s H P' E hr hP => (db_one (ds_ret (de_and (de_isi (by rfl) T.z_isinstance (by rfl) T.z_str boot_str (by decide) (de_v 0 rfl (.inl rfl))) (de_and (de_chain op_le sp_le op_le sp_le de_int (de_callB call_len sp_len (by rfl) T.z_len boot_len (da_cons (de_v 0 rfl (.inl rfl)) da_nil)) de_int) (de_one (de_callB (cr_all rfl) sp_all (by rfl) T.z_all boot_all (da_cons (de_comp (own := [("sign", 1)]) rfl nd (ownP hP (by decide)) (di_seq (DE.frz (de_v 0 rfl (.inl rfl)))) (blkOk_by (own := [("sign", 1)]) (N := N_is_name) (sc := defScope s_is_name) (by decide +kernel)) (fun _ _ _ _ _ => (dg_name nd rfl (.inl rfl) (hP 1 (by decide)) (by decide))) (fun _ _ _ _ _ => dp_nil) (fun _ _ _ _ _ => (DE.frz (de_cmp (op_inA (units66 hr)) sp_in (de_v 1 rfl (.inl rfl)) (de_glob (v := .str "abcdefghijklmnopqrstuvwxyz") (by rfl) T.g_LETTERS.choose_spec ⟨_, rfl⟩ fun _ _ => .str _) rfl)))) da_nil)))))))
def b_sorts_of : En → RS :=
  (sRet (mDComp [1] (mIter (frz (eV 0))) (gN 1) (M.pure true) (frz (mBin gIx (eV 1) (eC (.int 0)))) (frz (mBin gIx (eV 1) (eC (.int 1))))))
theorem d_sorts_of (T : Txt K mg) {k : Nat} : Cal P w K mg base (k + 1) "sorts_of" ["web"] 0 (fnOf 1 0 (b_sorts_of)) := by
  have nd := sc_sorts_of.nd
  exact cal_ok T.d_sorts_of sc_sorts_of (by decide) fun f cdv A outer s H P' E hr hP => (db_one (ds_ret (de_dcomp (own := [("item", 1)]) rfl nd (ownP hP (by decide)) (di_seq (DE.frz (de_v 0 rfl (.inl rfl)))) (blkOk_by (own := [("item", 1)]) (N := N_sorts_of) (sc := defScope s_sorts_of) (by decide +kernel)) (fun _ _ _ _ _ => (dg_name nd rfl (.inl rfl) (hP 1 (by decide)) (by decide))) (fun _ _ _ _ _ => dp_nil) (fun _ _ _ _ _ => (DE.frz (de_ix (ix_all (hu_of hr)) sp_ix (de_v 1 rfl (.inl rfl)) de_int (fun _ _ => rfl)))) (fun _ _ _ _ _ => (DE.frz (de_ix (ix_all (hu_of hr)) sp_ix (de_v 1 rfl (.inl rfl)) de_int (fun _ _ => rfl)))))))
def b_others_of : En → RS :=
  (sRet (mDComp [1] (mIter (frz (eV 0))) (gN 1) (M.pure true) (frz (mBin gIx (eV 1) (eC (.int 0)))) (frz (mBin gIx (eV 1) (eC (.int 2))))))
theorem d_others_of (T : Txt K mg) {k : Nat} : Cal P w K mg base (k + 1) "others_of" ["web"] 0 (fnOf 1 0 (b_others_of)) := by
  have nd := sc_others_of.nd
  exact cal_ok T.d_others_of sc_others_of (by decide) fun f cdv A outer s H P' E hr hP => (db_one (ds_ret (de_dcomp (own := [("item", 1)]) rfl nd (ownP hP (by decide)) (di_seq (DE.frz (de_v 0 rfl (.inl rfl)))) (blkOk_by (own := [("item", 1)]) (N := N_others_of) (sc := defScope s_others_of) (by decide +kernel)) (fun _ _ _ _ _ => (dg_name nd rfl (.inl rfl) (hP 1 (by decide)) (by decide))) (fun _ _ _ _ _ => dp_nil) (fun _ _ _ _ _ => (DE.frz (de_ix (ix_all (hu_of hr)) sp_ix (de_v 1 rfl (.inl rfl)) de_int (fun _ _ => rfl)))) (fun _ _ _ _ _ => (DE.frz (de_ix (ix_all (hu_of hr)) sp_ix (de_v 1 rfl (.inl rfl)) de_int (fun _ _ => rfl)))))))
def b_all_under : En → RS :=
  (sSeq (sSet 2 eDK)
    (sSeq (sSet 3 (mCall gList (aCons (mBin gIx (eV 0) (eV 1)) aNil)))
    (sSeq (whileN (tst (mBin (bo gNe) (eV 3) (eLst lNil))) (sSeq (sSet 4 (eMeth 3 gPop lNil))
    (sIf (tst (mBin (bo gNotIn) (eV 4) (eV 2))) (sSeq (sDPutM 2 (frz (eV 4)) (frz (eC (.bl true))))
    (sSet 3 (mBin gAdd (eV 3) (mCall gList (aCons (mBin gIx (eV 0) (eV 4)) aNil))))) sNil)) 4096)
    (sRet (eV 2)))))
theorem d_all_under (T : Txt K mg) {k : Nat} : Cal P w K mg base (k + 1) "all_under" ["others", "name"] 0 (fnOf 3 0 (b_all_under)) := by
  have nd := sc_all_under.nd
  exact cal_ok T.d_all_under sc_all_under (by decide) fun f cdv A outer s H P' E hr hP => (db_cons (ds_set nd rfl (.inl rfl) (hP 2 (by decide)) de_dK)
    (db_cons (ds_set nd rfl (.inl rfl) (hP 3 (by decide)) (de_callTy call_list_of sp_list (by rfl) T.z_list boot_list (da_cons (de_ix (ix_all (hu_of hr)) sp_ix (de_v 0 rfl (.inl rfl)) (de_v 1 rfl (.inl rfl)) (fun _ _ => rfl)) da_nil)))
    (db_cons (ds_while 4096 ownD (dt_cmp (op_neD (units64 hr)) sp_ne (de_v 3 rfl (.inl rfl)) (de_lst dl_nil) (nomark _)) (db_cons (ds_set nd rfl (.inl rfl) (hP 4 (by decide)) (de_meth0 PySem.F.slot_list_pop PySem.F.type_list_pop mt_pop ms_pop rfl (.inl rfl)))
    (db_one (ds_if (dt_cmp (op_notInA (units66 hr)) sp_notIn (de_v 4 rfl (.inl rfl)) (de_v 2 rfl (.inl rfl)) rfl) (db_cons (ds_dput (hu_of hr) rfl (.inl rfl) (DE.frz (de_v 4 rfl (.inl rfl))) (DE.frz de_bl))
    (db_one (ds_set nd rfl (.inl rfl) (hP 3 (by decide)) (de_op op_addA sp_add (de_v 3 rfl (.inl rfl)) (de_callTy call_list_of sp_list (by rfl) T.z_list boot_list (da_cons (de_ix (ix_all (hu_of hr)) sp_ix (de_v 0 rfl (.inl rfl)) (de_v 4 rfl (.inl rfl)) (fun _ _ => rfl)) da_nil)))))) db_nil))))
    (db_one (ds_ret (de_v 2 rfl (.inl rfl)))))))
def b_need_item (mis_name msorts_of : Fn) : En → RS :=
  (sIf (mOr (mNot (tst (mApp [] mis_name (lCons (frz (eV 1)) lNil)))) (tst (mBin (bo gNotIn) (eV 1) (mApp [] msorts_of (lCons (frz (eV 0)) lNil))))) (sRaise "NoItem" (frz (eV 1))) sNil)
theorem d_need_item (T : Txt K mg) {k : Nat} {mis_name msorts_of : Fn} (cis_name : Cal P w K mg base k "is_name" ["thing"] 0 mis_name) (csorts_of : Cal P w K mg base k "sorts_of" ["web"] 0 msorts_of) (xNoItem : XC P w K mg base k "NoItem") : Cal P w K mg base (k + 1) "need_item" ["web", "name"] 0 (fnOf 0 0 (b_need_item mis_name msorts_of)) := by
  have nd := sc_need_item.nd
  exact cal_ok T.d_need_item sc_need_item (by decide) fun f cdv A outer s H P' E hr hP => (db_one (ds_if (DW.dt (dw_or (dt_not (dt_val (de_callC cis_name rfl hr (by rfl) passD (by decide) (dc_nil (dl_cons (DE.frz (de_v 1 rfl (.inl rfl))) dl_nil))))) (dw_or1 (dt_cmp (op_notInA (units66 hr)) sp_notIn (de_v 1 rfl (.inl rfl)) (de_callC csorts_of rfl hr (by rfl) passD (by decide) (dc_nil (dl_cons (DE.frz (de_v 0 rfl (.inl rfl))) dl_nil))) rfl)))) (db_one (ds_raiseX rfl takesD passN xNoItem hr (by rfl) (DE.frz (de_v 1 rfl (.inl rfl))))) db_nil))
def b_leads_to (mneed_item mall_under mothers_of : Fn) : En → RS :=
  (sSeq (sExpr (mApp [] mneed_item (lCons (frz (eV 0)) (lCons (frz (eV 1)) lNil))))
    (sRet (mCall gSortedD (aCons (mApp [] mall_under (lCons (frz (mApp [] mothers_of (lCons (frz (eV 0)) lNil))) (lCons (frz (eV 1)) lNil))) aNil))))
theorem d_leads_to (T : Txt K mg) {k : Nat} {mneed_item mall_under mothers_of : Fn} (cneed_item : Cal P w K mg base k "need_item" ["web", "name"] 0 mneed_item) (call_under : Cal P w K mg base k "all_under" ["others", "name"] 0 mall_under) (cothers_of : Cal P w K mg base k "others_of" ["web"] 0 mothers_of) : Cal P w K mg base (k + 1) "leads_to" ["web", "item"] 0 (fnOf 0 0 (b_leads_to mneed_item mall_under mothers_of)) := by
  have nd := sc_leads_to.nd
  exact cal_ok T.d_leads_to sc_leads_to (by decide) fun f cdv A outer s H P' E hr hP => (db_cons (ds_expr (de_callC cneed_item rfl hr (by rfl) passD (by decide) (dc_nil (dl_cons (DE.frz (de_v 0 rfl (.inl rfl))) (dl_cons (DE.frz (de_v 1 rfl (.inl rfl))) dl_nil)))))
    (db_one (ds_ret (de_callB (call_sortedD rfl) sp_sortedD (by rfl) T.z_sorted boot_sorted (da_cons (de_callC call_under rfl hr (by rfl) passD (by decide) (dc_nil (dl_cons (DE.frz (de_callC cothers_of rfl hr (by rfl) passD (by decide) (dc_nil (dl_cons (DE.frz (de_v 0 rfl (.inl rfl))) dl_nil)))) (dl_cons (DE.frz (de_v 1 rfl (.inl rfl))) dl_nil)))) da_nil)))))
def b_needs_of (mneed_item mothers_of mall_under : Fn) : En → RS :=
  (sSeq (sExpr (mApp [] mneed_item (lCons (frz (eV 0)) (lCons (frz (eV 1)) lNil))))
    (sSeq (sSet 2 (mApp [] mothers_of (lCons (frz (eV 0)) lNil)))
    (sRet (mComp [3] (mIter (frz (eV 0))) (gN 3) (mAnd (tst (mUn (gInK false ["all", "any"]) (mBin gIx (eV 3) (eC (.int 1))))) (tst (mBin (bo gIn) (eV 1) (mApp [] mall_under (lCons (frz (eV 2)) (lCons (frz (mBin gIx (eV 3) (eC (.int 0)))) lNil)))))) (frz (mBin gIx (eV 3) (eC (.int 0))))))))
theorem d_needs_of (T : Txt K mg) {k : Nat} {mneed_item mothers_of mall_under : Fn} (cneed_item : Cal P w K mg base k "need_item" ["web", "name"] 0 mneed_item) (cothers_of : Cal P w K mg base k "others_of" ["web"] 0 mothers_of) (call_under : Cal P w K mg base k "all_under" ["others", "name"] 0 mall_under) : Cal P w K mg base (k + 1) "needs_of" ["web", "item"] 0 (fnOf 2 0 (b_needs_of mneed_item mothers_of mall_under)) := by
  have nd := sc_needs_of.nd
  exact cal_ok T.d_needs_of sc_needs_of (by decide) fun f cdv A outer s H P' E hr hP => (db_cons (ds_expr (de_callC cneed_item rfl hr (by rfl) passD (by decide) (dc_nil (dl_cons (DE.frz (de_v 0 rfl (.inl rfl))) (dl_cons (DE.frz (de_v 1 rfl (.inr (.inl rfl)))) dl_nil)))))
    (db_cons (ds_set nd rfl (.inr rfl) (hP 2 (by decide)) (de_callC cothers_of rfl hr (by rfl) passD (by decide) (dc_nil (dl_cons (DE.frz (de_v 0 rfl (.inl rfl))) dl_nil))))
    (db_one (ds_ret (de_comp (own := [("one", 3)]) rfl nd (ownP hP (by decide)) (di_seq (DE.frz (de_v 0 rfl (.inl rfl)))) (blkOk_by (own := [("one", 3)]) (N := N_needs_of) (sc := defScope s_needs_of) (by decide +kernel)) (fun _ _ _ _ _ => (dg_name nd rfl (.inl rfl) (hP 3 (by decide)) (by decide))) (fun _ _ _ _ _ => (dp_one (DW.dt (dw_and (dt_inK (neg := false) op_in_seq (by rfl) T.g_NEEDS.choose_spec.1 T.g_NEEDS.choose_spec.2 (de_ix (ix_all (hu_of hr)) sp_ix (de_v 3 rfl (.inl rfl)) de_int (fun _ _ => rfl))) (dw_and1 (dt_cmp (op_inA (units66 hr)) sp_in (de_v 1 rfl (by first | exact .inl rfl | exact .inr (.inl rfl) | exact .inr (.inr rfl))) (de_callC call_under rfl hr (by rfl) passL (by decide) (dc_nil (dl_cons (DE.frz (de_v 2 rfl (by first | exact .inl rfl | exact .inr (.inl rfl) | exact .inr (.inr rfl)))) (dl_cons (DE.frz (de_ix (ix_all (hu_of hr)) sp_ix (de_v 3 rfl (.inl rfl)) de_int (fun _ _ => rfl))) dl_nil)))) rfl)))))) (fun _ _ _ _ _ => (DE.frz (de_ix (ix_all (hu_of hr)) sp_ix (de_v 3 rfl (.inl rfl)) de_int (fun _ _ => rfl)))))))))
def b_holds (mneed_item : Fn) : En → RS :=
  (sSeq (sExpr (mApp [] mneed_item (lCons (frz (eV 0)) (lCons (frz (eV 1)) lNil))))
    (sRet (mCall gAll (aCons (mComp2 [3, 4] [4] (mIter (frz (eV 0))) (gN 3) (tst (mBin (bo gEq) (mBin gIx (eV 3) (eC (.int 0))) (eV 1))) (mIter (frz (mBin gIx (eV 3) (eC (.int 3))))) (gN 4) (M.pure true) (frz (mBin (bo gIn) (eV 4) (eV 2)))) aNil))))
theorem d_holds (T : Txt K mg) {k : Nat} {mneed_item : Fn} (cneed_item : Cal P w K mg base k "need_item" ["web", "name"] 0 mneed_item) : Cal P w K mg base (k + 1) "holds" ["web", "item", "variant"] 0 (fnOf 2 0 (b_holds mneed_item)) := by
  have nd := sc_holds.nd
  exact cal_ok T.d_holds sc_holds (by decide) fun f cdv A outer s H P' E hr hP => (db_cons (ds_expr (de_callC cneed_item rfl hr (by rfl) passD (by decide) (dc_nil (dl_cons (DE.frz (de_v 0 rfl (.inl rfl))) (dl_cons (DE.frz (de_v 1 rfl (.inr (.inl rfl)))) dl_nil)))))
    (db_one (ds_ret (de_callB (cr_all rfl) sp_all (by rfl) T.z_all boot_all (da_cons (de_comp2 (own := [("one", 3), ("sign", 4)]) (vs1 := [4]) rfl nd (ownP hP (by decide)) (by decide) (di_seq (DE.frz (de_v 0 rfl (.inl rfl)))) (blkOk_by (own := [("one", 3), ("sign", 4)]) (N := N_holds) (sc := defScope s_holds) (by decide +kernel)) (fun _ _ _ _ _ => (dg_name nd rfl (.inl rfl) (hP 3 (by decide)) (by decide))) (fun _ _ _ _ _ => (dp_one (dt_cmp (op_eqD (units64 hr)) sp_eq (de_ix (ix_all (hu_of hr)) sp_ix (de_v 3 rfl (.inl rfl)) de_int (fun _ _ => rfl)) (de_v 1 rfl (by first | exact .inl rfl | exact .inr (.inl rfl) | exact .inr (.inr rfl))) (nomark _)))) (fun _ _ _ _ _ => (DE.frz (de_ix (ix_all (hu_of hr)) sp_ix (de_v 3 rfl (.inl rfl)) de_int (fun _ _ => rfl)))) (fun _ _ _ _ _ => (dg_name nd rfl (.inl rfl) (hP 4 (by decide)) (by decide))) (fun _ _ _ _ _ => dp_nil) (fun _ _ _ _ _ => (DE.frz (de_cmp (op_inA (units66 hr)) sp_in (de_v 4 rfl (.inl rfl)) (de_v 2 rfl (by first | exact .inl rfl | exact .inr (.inl rfl) | exact .inr (.inr rfl))) rfl)))) da_nil)))))
def b__law_bag : En → RS :=
  (sSeq (sSet 2 (eC (.int 0)))
    (sSeq (sIf (tst (mBin (bo gLt) (eV 1) (mCall gLen (aCons (eV 0) aNil)))) (sSet 2 (mCall gAbs (aCons (mBin gIx (eV 0) (eV 1)) aNil))) sNil)
    (sSeq (sIf (tst (mBin (bo gLt) (eV 2) (mBin gPow (eC (.int 10)) (eC (.int 18))))) (sRet (eLst (lCons (frz (eC (.int 0))) (lCons (frz (mBin gAdd (eC (.int 1)) (mBin gMod (mBin gAdd (mBin gMul (eV 2) (eC (.int 7919))) (mBin gMul (eC (.int 104729)) (eV 1))) (eC (.int 2147483646))))) lNil)))) sNil)
    (sRet (eLst (lCons (frz (eV 2)) (lCons (frz (mBin gAdd (eC (.int 1)) (mBin gMod (mBin gAdd (eV 2) (eV 1)) (eC (.int 2147483646))))) lNil)))))))
theorem d__law_bag (T : Txt K mg) {k : Nat} : Cal P w K mg base (k + 1) "_law_bag" ["script", "k"] 0 (fnOf 1 0 (b__law_bag)) := by
  have nd := sc__law_bag.nd
  exact cal_ok T.d__law_bag sc__law_bag (by decide) fun f cdv A outer s H P' E hr hP => (db_cons (ds_set nd rfl (.inl rfl) (hP 2 (by decide)) de_int)
    (db_cons (ds_if (dt_cmp (op_ltA (units64 hr)) sp_lt (de_v 1 rfl (.inl rfl)) (de_callB call_len sp_len (by rfl) T.z_len boot_len (da_cons (de_v 0 rfl (.inl rfl)) da_nil)) (nomark _)) (db_one (ds_set nd rfl (.inl rfl) (hP 2 (by decide)) (de_callB call_abs sp_abs (by rfl) T.z_abs boot_abs (da_cons (de_ix (ix_all (hu_of hr)) sp_ix (de_v 0 rfl (.inl rfl)) (de_v 1 rfl (.inl rfl)) (fun _ _ => rfl)) da_nil)))) db_nil)
    (db_cons (ds_if (dt_cmp (op_ltA (units64 hr)) sp_lt (de_v 2 rfl (.inl rfl)) (de_op op_pow sp_pow de_int de_int) (nomark _)) (db_one (ds_ret (de_lst (dl_cons (DE.frz de_int) (dl_cons (DE.frz (de_op op_addA sp_add de_int (de_op op_mod sp_mod (de_op op_addA sp_add (de_op op_mulA sp_mul (de_v 2 rfl (.inl rfl)) de_int) (de_op op_mulA sp_mul de_int (de_v 1 rfl (.inl rfl)))) de_int))) dl_nil))))) db_nil)
    (db_one (ds_ret (de_lst (dl_cons (DE.frz (de_v 2 rfl (.inl rfl))) (dl_cons (DE.frz (de_op op_addA sp_add de_int (de_op op_mod sp_mod (de_op op_addA sp_add (de_v 2 rfl (.inl rfl)) (de_v 1 rfl (.inl rfl))) de_int))) dl_nil))))))))
def b__law_take : En → RS :=
  (sSeq (sIf (tst (mBin (bo gGt) (mBin gIx (eV 0) (eC (.int 0))) (eC (.int 0)))) (sSeq (sSet 2 (mBin gMod (mBin gIx (eV 0) (eC (.int 0))) (eV 1)))
    (sSeq (sAsg (frz (mBin gFdiv (mBin gIx (eV 0) (eC (.int 0))) (eV 1))) (gSubL 0 (eC (.int 0))))
    (sRet (eV 2)))) sNil)
    (sSeq (sAsg (frz (mBin gMod (mBin gMul (mBin gIx (eV 0) (eC (.int 1))) (eC (.int 48271))) (eC (.int 2147483647)))) (gSubL 0 (eC (.int 1))))
    (sRet (mBin gMod (mBin gFdiv (mBin gMod (mBin gMul (mBin gIx (eV 0) (eC (.int 1))) (mBin gIx (eV 0) (eC (.int 1)))) (eC (.int 2147483629))) (eC (.int 64))) (eV 1)))))
theorem d__law_take (T : Txt K mg) {k : Nat} : Cal P w K mg base (k + 1) "_law_take" ["bag", "many"] 1 (fnOf 1 1 (b__law_take)) := by
  have nd := sc__law_take.nd
  exact cal_ok T.d__law_take sc__law_take (by decide) fun f cdv A outer s H P' E hr hP => (db_cons (ds_if (dt_cmp op_gt sp_gt (de_ix (ix_all (hu_of hr)) sp_ix (de_v 0 rfl (.inl rfl)) de_int (fun _ _ => rfl)) de_int (nomark _)) (db_cons (ds_set nd rfl (.inl rfl) (hP 2 (by decide)) (de_op op_mod sp_mod (de_ix (ix_all (hu_of hr)) sp_ix (de_v 0 rfl (.inl rfl)) de_int (fun _ _ => rfl)) (de_v 1 rfl (.inl rfl))))
    (db_cons (ds_asg (sl := []) (DE.frz (de_op op_fdiv sp_fdiv (de_ix (ix_all (hu_of hr)) sp_ix (de_v 0 rfl (.inl rfl)) de_int (fun _ _ => rfl)) (de_v 1 rfl (.inl rfl)))) (dg_sub rfl (.inl rfl) de_int))
    (db_one (ds_ret (de_v 2 rfl (.inl rfl)))))) db_nil)
    (db_cons (ds_asg (sl := []) (DE.frz (de_op op_mod sp_mod (de_op op_mulA sp_mul (de_ix (ix_all (hu_of hr)) sp_ix (de_v 0 rfl (.inl rfl)) de_int (fun _ _ => rfl)) de_int) de_int)) (dg_sub rfl (.inl rfl) de_int))
    (db_one (ds_ret (de_op op_mod sp_mod (de_op op_fdiv sp_fdiv (de_op op_mod sp_mod (de_op op_mulA sp_mul (de_ix (ix_all (hu_of hr)) sp_ix (de_v 0 rfl (.inl rfl)) de_int (fun _ _ => rfl)) (de_ix (ix_all (hu_of hr)) sp_ix (de_v 0 rfl (.inl rfl)) de_int (fun _ _ => rfl))) de_int) de_int) (de_v 1 rfl (.inl rfl)))))))
def b__law_of (m_law_take : Fn) : En → RS :=
  (sRet (mBin gIx (eV 1) (mApp [0] m_law_take (lCons (frz (mCall gLen (aCons (eV 1) aNil))) lNil))))
theorem d__law_of (T : Txt K mg) {k : Nat} {m_law_take : Fn} (c_law_take : Cal P w K mg base k "_law_take" ["bag", "many"] 1 m_law_take) : Cal P w K mg base (k + 1) "_law_of" ["bag", "some"] 1 (fnOf 0 1 (b__law_of m_law_take)) := by
  have nd := sc__law_of.nd
  exact cal_ok T.d__law_of sc__law_of (by decide) fun f cdv A outer s H P' E hr hP => (db_one (ds_ret (de_ix (ix_all (hu_of hr)) sp_ix (de_v 1 rfl (.inl rfl)) (de_callC c_law_take rfl hr (by rfl) passD (by decide) (dc_cons 0 rfl (.inl rfl) (dc_nil (dl_cons (DE.frz (de_callB call_len sp_len (by rfl) T.z_len boot_len (da_cons (de_v 1 rfl (.inl rfl)) da_nil))) dl_nil)))) (fun _ _ => rfl))))
def b__law_some (m_law_take : Fn) : En → RS :=
  (sSeq (sSet 4 (mCall gList (aCons (eV 1) aNil)))
    (sSeq (sSet 5 (eLst lNil))
    (sSeq (sSet 6 (mCall gMin2 (aCons (mCall gLen (aCons (eV 4) aNil)) (aCons (mBin gAdd (eV 2) (mApp [0] m_law_take (lCons (frz (mBin gAdd (mBin gSub (eV 3) (eV 2)) (eC (.int 1)))) lNil))) aNil))))
    (sSeq (sFor (mRange1 (aCons (eV 6) aNil)) (gN 7) (sExpr (eMeth 5 gAppend (lCons (frz (eMeth 4 gPopAt (lCons (frz (mApp [0] m_law_take (lCons (frz (mCall gLen (aCons (eV 4) aNil))) lNil))) lNil))) lNil))))
    (sRet (mCall gTuple (aCons (mCall gSorted (aCons (eV 5) aNil)) aNil)))))))
theorem d__law_some (T : Txt K mg) {k : Nat} {m_law_take : Fn} (c_law_take : Cal P w K mg base k "_law_take" ["bag", "many"] 1 m_law_take) : Cal P w K mg base (k + 1) "_law_some" ["bag", "names", "least", "most"] 1 (fnOf 4 1 (b__law_some m_law_take)) := by
  have nd := sc__law_some.nd
  exact cal_ok T.d__law_some sc__law_some (by decide) fun f cdv A outer s H P' E hr hP => (db_cons (ds_set nd rfl (.inl rfl) (hP 4 (by decide)) (de_callTy call_list_of sp_list (by rfl) T.z_list boot_list (da_cons (de_v 1 rfl (.inl rfl)) da_nil)))
    (db_cons (ds_set nd rfl (.inl rfl) (hP 5 (by decide)) (de_lst dl_nil))
    (db_cons (ds_set nd rfl (.inl rfl) (hP 6 (by decide)) (de_callB (call_min2 rfl) sp_min2 (by rfl) T.z_min boot_min (da_cons (de_callB call_len sp_len (by rfl) T.z_len boot_len (da_cons (de_v 4 rfl (.inl rfl)) da_nil)) (da_cons (de_op op_addA sp_add (de_v 2 rfl (.inl rfl)) (de_callC c_law_take rfl hr (by rfl) passD (by decide) (dc_cons 0 rfl (.inl rfl) (dc_nil (dl_cons (DE.frz (de_op op_addA sp_add (de_op op_sub sp_sub (de_v 3 rfl (.inl rfl)) (de_v 2 rfl (.inl rfl))) de_int)) dl_nil))))) da_nil))))
    (db_cons (ds_for (sl := [7]) ownD rfl (di_range1 (by rfl) T.z_range (da_cons (de_v 6 rfl (.inl rfl)) da_nil)) (dg_name nd rfl (.inl rfl) (hP 7 (by decide)) (by decide)) (db_one (ds_expr (de_meth PySem.F.slot_list_append PySem.F.type_list_append mt_append ms_append rfl (.inl rfl) (dl_cons (DE.frz (de_meth PySem.F.slot_list_pop PySem.F.type_list_pop mt_popAt ms_popAt rfl (.inl rfl) (dl_cons (DE.frz (de_callC c_law_take rfl hr (by rfl) passD (by decide) (dc_cons 0 rfl (.inl rfl) (dc_nil (dl_cons (DE.frz (de_callB call_len sp_len (by rfl) T.z_len boot_len (da_cons (de_v 4 rfl (.inl rfl)) da_nil))) dl_nil))))) dl_nil))) dl_nil)))))
    (db_one (ds_ret (de_callTy call_tuple_of sp_tuple (by rfl) T.z_tuple boot_tuple (da_cons (de_callB (cr_sortV (units_of hr)) sp_sorted (by rfl) T.z_sorted boot_sorted (da_cons (de_v 5 rfl (.inl rfl)) da_nil)) da_nil))))))))
theorem d__law_some_2 (T : Txt K mg) {k : Nat} {m_law_take : Fn} (c_law_take : Cal P w K mg base k "_law_take" ["bag", "many"] 1 m_law_take) : Cal P w K mg base (k + 1) "_law_some" ["bag", "names", "least", "most"] 2 (fnOf 4 2 (b__law_some m_law_take)) := by
  have nd := sc__law_some.nd
  exact cal_ok T.d__law_some sc__law_some (by decide) fun f cdv A outer s H P' E hr hP => (db_cons (ds_set nd rfl (.inl rfl) (hP 4 (by decide)) (de_callTy call_list_of sp_list (by rfl) T.z_list boot_list (da_cons (de_v 1 rfl (.inl rfl)) da_nil)))
    (db_cons (ds_set nd rfl (.inl rfl) (hP 5 (by decide)) (de_lst dl_nil))
    (db_cons (ds_set nd rfl (.inl rfl) (hP 6 (by decide)) (de_callB (call_min2 rfl) sp_min2 (by rfl) T.z_min boot_min (da_cons (de_callB call_len sp_len (by rfl) T.z_len boot_len (da_cons (de_v 4 rfl (.inl rfl)) da_nil)) (da_cons (de_op op_addA sp_add (de_v 2 rfl (.inl rfl)) (de_callC c_law_take rfl hr (by rfl) passD (by decide) (dc_cons 0 rfl (.inl rfl) (dc_nil (dl_cons (DE.frz (de_op op_addA sp_add (de_op op_sub sp_sub (de_v 3 rfl (.inl rfl)) (de_v 2 rfl (.inl rfl))) de_int)) dl_nil))))) da_nil))))
    (db_cons (ds_for (sl := [7]) ownD rfl (di_range1 (by rfl) T.z_range (da_cons (de_v 6 rfl (.inl rfl)) da_nil)) (dg_name nd rfl (.inl rfl) (hP 7 (by decide)) (by decide)) (db_one (ds_expr (de_meth PySem.F.slot_list_append PySem.F.type_list_append mt_append ms_append rfl (.inl rfl) (dl_cons (DE.frz (de_meth PySem.F.slot_list_pop PySem.F.type_list_pop mt_popAt ms_popAt rfl (.inl rfl) (dl_cons (DE.frz (de_callC c_law_take rfl hr (by rfl) passD (by decide) (dc_cons 0 rfl (.inl rfl) (dc_nil (dl_cons (DE.frz (de_callB call_len sp_len (by rfl) T.z_len boot_len (da_cons (de_v 4 rfl (.inl rfl)) da_nil))) dl_nil))))) dl_nil))) dl_nil)))))
    (db_one (ds_ret (de_callTy call_tuple_of sp_tuple (by rfl) T.z_tuple boot_tuple (da_cons (de_callB (cr_sortV (units_of hr)) sp_sorted (by rfl) T.z_sorted boot_sorted (da_cons (de_v 5 rfl (.inl rfl)) da_nil)) da_nil))))))))
def b__law_web (m_law_take m_law_some m_law_some_2 m_law_of : Fn) : En → RS :=
  (sSeq (sSet 2 (eLst lNil))
    (sSeq (sSet 3 (mSl (eLst (lCons (frz (eC (.str "pa"))) (lCons (frz (eC (.str "pb"))) (lCons (frz (eC (.str "pc"))) lNil)))) oNone (oSome (mApp [0] m_law_take (lCons (frz (eC (.int 4))) lNil)))))
    (sSeq (sFor (mEnum (lCons (frz (eV 3)) lNil)) (gT 2 (gsCons (gN 4) (gsCons (gN 5) gsNil))) (sSeq (sSet 6 (mApp [0] m_law_some (lCons (frz (eLst (lCons (frz (eC (.str "eu"))) (lCons (frz (eC (.str "pro"))) lNil)))) (lCons (frz (eC (.int 0))) (lCons (frz (mApp [0] m_law_take (lCons (frz (eC (.int 2))) lNil))) lNil)))))
    (sExpr (eMeth 2 gAppend (lCons (frz (eTup (lCons (frz (eV 5)) (lCons (frz (eC (.str "part"))) (lCons (frz (mApp [0] m_law_some (lCons (frz (mSl (eV 3) oNone (oSome (eV 4)))) (lCons (frz (eC (.int 0))) (lCons (frz (eC (.int 1))) lNil))))) (lCons (frz (eV 6)) lNil)))))) lNil)))))
    (sSeq (sSet 7 (mSl (eLst (lCons (frz (eC (.str "ta"))) (lCons (frz (eC (.str "tb"))) (lCons (frz (eC (.str "tc"))) (lCons (frz (eC (.str "td"))) lNil))))) oNone (oSome (mBin gAdd (eC (.int 1)) (mApp [0] m_law_take (lCons (frz (eC (.int 4))) lNil))))))
    (sSeq (sFor (mIter (frz (eV 7))) (gN 5) (sExpr (eMeth 2 gAppend (lCons (frz (eTup (lCons (frz (eV 5)) (lCons (frz (eC (.str "trial"))) (lCons (frz (mApp [0] m_law_some (lCons (frz (eV 3)) (lCons (frz (eC (.int 0))) (lCons (frz (eC (.int 2))) lNil))))) (lCons (frz (mApp [0] m_law_some (lCons (frz (eLst (lCons (frz (eC (.str "eu"))) (lCons (frz (eC (.str "pro"))) lNil)))) (lCons (frz (eC (.int 0))) (lCons (frz (mApp [0] m_law_take (lCons (frz (eC (.int 2))) lNil))) lNil))))) lNil)))))) lNil))))
    (sSeq (sSet 8 (mCall gList (aCons (eV 7) aNil)))
    (sSeq (sFor (mIter (frz (mSl (eLst (lCons (frz (eC (.str "na"))) (lCons (frz (eC (.str "nb"))) (lCons (frz (eC (.str "nc"))) (lCons (frz (eC (.str "nd"))) (lCons (frz (eC (.str "ne"))) lNil)))))) oNone (oSome (mBin gAdd (eC (.int 1)) (mApp [0] m_law_take (lCons (frz (eV 1)) lNil))))))) (gN 5) (sSeq (sSet 9 (mApp [0, 8] m_law_some_2 (lCons (frz (eC (.int 1))) (lCons (frz (eC (.int 3))) lNil))))
    (sSeq (sExpr (eMeth 2 gAppend (lCons (frz (eTup (lCons (frz (eV 5)) (lCons (frz (mApp [0] m_law_of (lCons (frz (eLst (lCons (frz (eC (.str "all"))) (lCons (frz (eC (.str "any"))) lNil)))) lNil))) (lCons (frz (eV 9)) (lCons (frz (mApp [0] m_law_some (lCons (frz (eLst (lCons (frz (eC (.str "eu"))) (lCons (frz (eC (.str "pro"))) lNil)))) (lCons (frz (eC (.int 0))) (lCons (frz (mApp [0] m_law_take (lCons (frz (eC (.int 2))) lNil))) lNil))))) lNil)))))) lNil)))
    (sExpr (eMeth 8 gAppend (lCons (frz (eV 5)) lNil))))))
    (sRet (mCall gTuple (aCons (mCall gSorted (aCons (eV 2) aNil)) aNil))))))))))
theorem d__law_web (T : Txt K mg) {k : Nat} {m_law_take m_law_some m_law_some_2 m_law_of : Fn} (c_law_take : Cal P w K mg base k "_law_take" ["bag", "many"] 1 m_law_take) (c_law_some : Cal P w K mg base k "_law_some" ["bag", "names", "least", "most"] 1 m_law_some) (c_law_some_2 : Cal P w K mg base k "_law_some" ["bag", "names", "least", "most"] 2 m_law_some_2) (c_law_of : Cal P w K mg base k "_law_of" ["bag", "some"] 1 m_law_of) : Cal P w K mg base (k + 1) "_law_web" ["bag", "needs_so"] 1 (fnOf 8 1 (b__law_web m_law_take m_law_some m_law_some_2 m_law_of)) := by
  have nd := sc__law_web.nd
  exact cal_ok T.d__law_web sc__law_web (by decide) fun f cdv A outer s H P' E hr hP => (db_cons (ds_set nd rfl (.inl rfl) (hP 2 (by decide)) (de_lst dl_nil))
    (db_cons (ds_set nd rfl (.inl rfl) (hP 3 (by decide)) (de_sl (de_lst (dl_cons (DE.frz de_str) (dl_cons (DE.frz de_str) (dl_cons (DE.frz de_str) dl_nil)))) do_none (do_some (de_callC c_law_take rfl hr (by rfl) passD (by decide) (dc_cons 0 rfl (.inl rfl) (dc_nil (dl_cons (DE.frz de_int) dl_nil)))))))
    (db_cons (ds_for (sl := [4, 5]) ownD rfl (di_enum (by rfl) T.z_enumerate (dl_cons (DE.frz (de_v 3 rfl (.inl rfl))) dl_nil)) (dg_tup rfl (dgs_cons (dg_name nd rfl (.inl rfl) (hP 4 (by decide)) (by decide)) (dgs_cons (dg_name nd rfl (.inl rfl) (hP 5 (by decide)) (by decide)) dgs_nil))) (db_cons (ds_set nd rfl (.inl rfl) (hP 6 (by decide)) (de_callC c_law_some rfl hr (by rfl) passD (by decide) (dc_cons 0 rfl (.inl rfl) (dc_nil (dl_cons (DE.frz (de_lst (dl_cons (DE.frz de_str) (dl_cons (DE.frz de_str) dl_nil)))) (dl_cons (DE.frz de_int) (dl_cons (DE.frz (de_callC c_law_take rfl hr (by rfl) passD (by decide) (dc_cons 0 rfl (.inl rfl) (dc_nil (dl_cons (DE.frz de_int) dl_nil))))) dl_nil)))))))
    (db_one (ds_expr (de_meth PySem.F.slot_list_append PySem.F.type_list_append mt_append ms_append rfl (.inl rfl) (dl_cons (DE.frz (de_tup (dl_cons (DE.frz (de_v 5 rfl (.inl rfl))) (dl_cons (DE.frz de_str) (dl_cons (DE.frz (de_callC c_law_some rfl hr (by rfl) passD (by decide) (dc_cons 0 rfl (.inl rfl) (dc_nil (dl_cons (DE.frz (de_sl (de_v 3 rfl (.inl rfl)) do_none (do_some (de_v 4 rfl (.inl rfl))))) (dl_cons (DE.frz de_int) (dl_cons (DE.frz de_int) dl_nil))))))) (dl_cons (DE.frz (de_v 6 rfl (.inl rfl))) dl_nil)))))) dl_nil))))))
    (db_cons (ds_set nd rfl (.inl rfl) (hP 7 (by decide)) (de_sl (de_lst (dl_cons (DE.frz de_str) (dl_cons (DE.frz de_str) (dl_cons (DE.frz de_str) (dl_cons (DE.frz de_str) dl_nil))))) do_none (do_some (de_op op_addA sp_add de_int (de_callC c_law_take rfl hr (by rfl) passD (by decide) (dc_cons 0 rfl (.inl rfl) (dc_nil (dl_cons (DE.frz de_int) dl_nil))))))))
    (db_cons (ds_for (sl := [5]) ownD rfl (di_seq (DE.frz (de_v 7 rfl (.inl rfl)))) (dg_name nd rfl (.inl rfl) (hP 5 (by decide)) (by decide)) (db_one (ds_expr (de_meth PySem.F.slot_list_append PySem.F.type_list_append mt_append ms_append rfl (.inl rfl) (dl_cons (DE.frz (de_tup (dl_cons (DE.frz (de_v 5 rfl (.inl rfl))) (dl_cons (DE.frz de_str) (dl_cons (DE.frz (de_callC c_law_some rfl hr (by rfl) passD (by decide) (dc_cons 0 rfl (.inl rfl) (dc_nil (dl_cons (DE.frz (de_v 3 rfl (.inl rfl))) (dl_cons (DE.frz de_int) (dl_cons (DE.frz de_int) dl_nil))))))) (dl_cons (DE.frz (de_callC c_law_some rfl hr (by rfl) passD (by decide) (dc_cons 0 rfl (.inl rfl) (dc_nil (dl_cons (DE.frz (de_lst (dl_cons (DE.frz de_str) (dl_cons (DE.frz de_str) dl_nil)))) (dl_cons (DE.frz de_int) (dl_cons (DE.frz (de_callC c_law_take rfl hr (by rfl) passD (by decide) (dc_cons 0 rfl (.inl rfl) (dc_nil (dl_cons (DE.frz de_int) dl_nil))))) dl_nil))))))) dl_nil)))))) dl_nil)))))
    (db_cons (ds_set nd rfl (.inl rfl) (hP 8 (by decide)) (de_callTy call_list_of sp_list (by rfl) T.z_list boot_list (da_cons (de_v 7 rfl (.inl rfl)) da_nil)))
    (db_cons (ds_for (sl := [5]) ownD rfl (di_seq (DE.frz (de_sl (de_lst (dl_cons (DE.frz de_str) (dl_cons (DE.frz de_str) (dl_cons (DE.frz de_str) (dl_cons (DE.frz de_str) (dl_cons (DE.frz de_str) dl_nil)))))) do_none (do_some (de_op op_addA sp_add de_int (de_callC c_law_take rfl hr (by rfl) passD (by decide) (dc_cons 0 rfl (.inl rfl) (dc_nil (dl_cons (DE.frz (de_v 1 rfl (.inl rfl))) dl_nil))))))))) (dg_name nd rfl (.inl rfl) (hP 5 (by decide)) (by decide)) (db_cons (ds_set nd rfl (.inl rfl) (hP 9 (by decide)) (de_callC c_law_some_2 rfl hr (by rfl) passD (by decide) (dc_cons 0 rfl (.inl rfl) (dc_cons 8 rfl (.inl rfl) (dc_nil (dl_cons (DE.frz de_int) (dl_cons (DE.frz de_int) dl_nil)))))))
    (db_cons (ds_expr (de_meth PySem.F.slot_list_append PySem.F.type_list_append mt_append ms_append rfl (.inl rfl) (dl_cons (DE.frz (de_tup (dl_cons (DE.frz (de_v 5 rfl (.inl rfl))) (dl_cons (DE.frz (de_callC c_law_of rfl hr (by rfl) passD (by decide) (dc_cons 0 rfl (.inl rfl) (dc_nil (dl_cons (DE.frz (de_lst (dl_cons (DE.frz de_str) (dl_cons (DE.frz de_str) dl_nil)))) dl_nil))))) (dl_cons (DE.frz (de_v 9 rfl (.inl rfl))) (dl_cons (DE.frz (de_callC c_law_some rfl hr (by rfl) passD (by decide) (dc_cons 0 rfl (.inl rfl) (dc_nil (dl_cons (DE.frz (de_lst (dl_cons (DE.frz de_str) (dl_cons (DE.frz de_str) dl_nil)))) (dl_cons (DE.frz de_int) (dl_cons (DE.frz (de_callC c_law_take rfl hr (by rfl) passD (by decide) (dc_cons 0 rfl (.inl rfl) (dc_nil (dl_cons (DE.frz de_int) dl_nil))))) dl_nil))))))) dl_nil)))))) dl_nil)))
    (db_one (ds_expr (de_meth PySem.F.slot_list_append PySem.F.type_list_append mt_append ms_append rfl (.inl rfl) (dl_cons (DE.frz (de_v 5 rfl (.inl rfl))) dl_nil)))))))
    (db_one (ds_ret (de_callTy call_tuple_of sp_tuple (by rfl) T.z_tuple boot_tuple (da_cons (de_callB (cr_sortV (units_of hr)) sp_sorted (by rfl) T.z_sorted boot_sorted (da_cons (de_v 2 rfl (.inl rfl)) da_nil)) da_nil)))))))))))
def b__law_others : En → RS :=
  (sRet (mBin gIx (mComp [2] (mIter (frz (eV 0))) (gN 2) (tst (mBin (bo gEq) (mBin gIx (eV 2) (eC (.int 0))) (eV 1))) (frz (mBin gIx (eV 2) (eC (.int 2))))) (eC (.int 0))))
theorem d__law_others (T : Txt K mg) {k : Nat} : Cal P w K mg base (k + 1) "_law_others" ["web", "name"] 0 (fnOf 1 0 (b__law_others)) := by
  have nd := sc__law_others.nd
  exact cal_ok T.d__law_others sc__law_others (by decide) fun f cdv A outer s H P' E hr hP => (db_one (ds_ret (de_ix (ix_all (hu_of hr)) sp_ix (de_comp (own := [("item", 2)]) rfl nd (ownP hP (by decide)) (di_seq (DE.frz (de_v 0 rfl (.inl rfl)))) (blkOk_by (own := [("item", 2)]) (N := N__law_others) (sc := defScope s__law_others) (by decide +kernel)) (fun _ _ _ _ _ => (dg_name nd rfl (.inl rfl) (hP 2 (by decide)) (by decide))) (fun _ _ _ _ _ => (dp_one (dt_cmp (op_eqD (units64 hr)) sp_eq (de_ix (ix_all (hu_of hr)) sp_ix (de_v 2 rfl (.inl rfl)) de_int (fun _ _ => rfl)) (de_v 1 rfl (by first | exact .inl rfl | exact .inr (.inl rfl) | exact .inr (.inr rfl))) (nomark _)))) (fun _ _ _ _ _ => (DE.frz (de_ix (ix_all (hu_of hr)) sp_ix (de_v 2 rfl (.inl rfl)) de_int (fun _ _ => rfl))))) de_int (fun _ _ => rfl))))
def b__law_needs : En → RS :=
  (sRet (mComp [1] (mIter (frz (eV 0))) (gN 1) (tst (mBin (bo gIn) (mBin gIx (eV 1) (eC (.int 1))) (eLst (lCons (frz (eC (.str "all"))) (lCons (frz (eC (.str "any"))) lNil))))) (frz (mBin gIx (eV 1) (eC (.int 0))))))
theorem d__law_needs (T : Txt K mg) {k : Nat} : Cal P w K mg base (k + 1) "_law_needs" ["web"] 0 (fnOf 1 0 (b__law_needs)) := by
  have nd := sc__law_needs.nd
  exact cal_ok T.d__law_needs sc__law_needs (by decide) fun f cdv A outer s H P' E hr hP => (db_one (ds_ret (de_comp (own := [("item", 1)]) rfl nd (ownP hP (by decide)) (di_seq (DE.frz (de_v 0 rfl (.inl rfl)))) (blkOk_by (own := [("item", 1)]) (N := N__law_needs) (sc := defScope s__law_needs) (by decide +kernel)) (fun _ _ _ _ _ => (dg_name nd rfl (.inl rfl) (hP 1 (by decide)) (by decide))) (fun _ _ _ _ _ => (dp_one (dt_cmp (op_inA (units66 hr)) sp_in (de_ix (ix_all (hu_of hr)) sp_ix (de_v 1 rfl (.inl rfl)) de_int (fun _ _ => rfl)) (de_lst (dl_cons (DE.frz de_str) (dl_cons (DE.frz de_str) dl_nil))) rfl))) (fun _ _ _ _ _ => (DE.frz (de_ix (ix_all (hu_of hr)) sp_ix (de_v 1 rfl (.inl rfl)) de_int (fun _ _ => rfl)))))))
def b__law_under (m_law_others : Fn) : En → RS :=
  (sSeq (sSet 2 (eLst lNil))
    (sSeq (sSet 3 (mCall gList (aCons (mApp [] m_law_others (lCons (frz (eV 0)) (lCons (frz (eV 1)) lNil))) aNil)))
    (sSeq (whileN (tst (mBin (bo gNe) (eV 3) (eLst lNil))) (sSeq (sSet 4 (eMeth 3 gPop lNil))
    (sIf (tst (mBin (bo gNotIn) (eV 4) (eV 2))) (sSeq (sExpr (eMeth 2 gAppend (lCons (frz (eV 4)) lNil)))
    (sSet 3 (mBin gAdd (eV 3) (mCall gList (aCons (mApp [] m_law_others (lCons (frz (eV 0)) (lCons (frz (eV 4)) lNil))) aNil))))) sNil)) 4096)
    (sRet (mCall gSorted (aCons (eV 2) aNil))))))
theorem d__law_under (T : Txt K mg) {k : Nat} {m_law_others : Fn} (c_law_others : Cal P w K mg base k "_law_others" ["web", "name"] 0 m_law_others) : Cal P w K mg base (k + 1) "_law_under" ["web", "name"] 0 (fnOf 3 0 (b__law_under m_law_others)) := by
  have nd := sc__law_under.nd
  exact cal_ok T.d__law_under sc__law_under (by decide) fun f cdv A outer s H P' E hr hP => (db_cons (ds_set nd rfl (.inl rfl) (hP 2 (by decide)) (de_lst dl_nil))
    (db_cons (ds_set nd rfl (.inl rfl) (hP 3 (by decide)) (de_callTy call_list_of sp_list (by rfl) T.z_list boot_list (da_cons (de_callC c_law_others rfl hr (by rfl) passD (by decide) (dc_nil (dl_cons (DE.frz (de_v 0 rfl (.inl rfl))) (dl_cons (DE.frz (de_v 1 rfl (.inl rfl))) dl_nil)))) da_nil)))
    (db_cons (ds_while 4096 ownD (dt_cmp (op_neD (units64 hr)) sp_ne (de_v 3 rfl (.inl rfl)) (de_lst dl_nil) (nomark _)) (db_cons (ds_set nd rfl (.inl rfl) (hP 4 (by decide)) (de_meth0 PySem.F.slot_list_pop PySem.F.type_list_pop mt_pop ms_pop rfl (.inl rfl)))
    (db_one (ds_if (dt_cmp (op_notInA (units66 hr)) sp_notIn (de_v 4 rfl (.inl rfl)) (de_v 2 rfl (.inl rfl)) rfl) (db_cons (ds_expr (de_meth PySem.F.slot_list_append PySem.F.type_list_append mt_append ms_append rfl (.inl rfl) (dl_cons (DE.frz (de_v 4 rfl (.inl rfl))) dl_nil)))
    (db_one (ds_set nd rfl (.inl rfl) (hP 3 (by decide)) (de_op op_addA sp_add (de_v 3 rfl (.inl rfl)) (de_callTy call_list_of sp_list (by rfl) T.z_list boot_list (da_cons (de_callC c_law_others rfl hr (by rfl) passD (by decide) (dc_nil (dl_cons (DE.frz (de_v 0 rfl (.inl rfl))) (dl_cons (DE.frz (de_v 4 rfl (.inl rfl))) dl_nil)))) da_nil)))))) db_nil))))
    (db_one (ds_ret (de_callB (cr_sortV (units_of hr)) sp_sorted (by rfl) T.z_sorted boot_sorted (da_cons (de_v 2 rfl (.inl rfl)) da_nil)))))))
def b__law_variant (m_law_some : Fn) : En → RS :=
  (sRet (mApp [0] m_law_some (lCons (frz (eLst (lCons (frz (eC (.str "eu"))) (lCons (frz (eC (.str "pro"))) (lCons (frz (eC (.str "zoo"))) lNil))))) (lCons (frz (eC (.int 0))) (lCons (frz (eC (.int 2))) lNil)))))
theorem d__law_variant (T : Txt K mg) {k : Nat} {m_law_some : Fn} (c_law_some : Cal P w K mg base k "_law_some" ["bag", "names", "least", "most"] 1 m_law_some) : Cal P w K mg base (k + 1) "_law_variant" ["bag"] 1 (fnOf 0 1 (b__law_variant m_law_some)) := by
  have nd := sc__law_variant.nd
  exact cal_ok T.d__law_variant sc__law_variant (by decide) fun f cdv A outer s H P' E hr hP => (db_one (ds_ret (de_callC c_law_some rfl hr (by rfl) passD (by decide) (dc_cons 0 rfl (.inl rfl) (dc_nil (dl_cons (DE.frz (de_lst (dl_cons (DE.frz de_str) (dl_cons (DE.frz de_str) (dl_cons (DE.frz de_str) dl_nil))))) (dl_cons (DE.frz de_int) (dl_cons (DE.frz de_int) dl_nil))))))))
def bf_law_no_item (s t : Str) : Bool := ((s == t) && (true && (true && true)))
abbrev s_NoItem_init : Stmt := match topS 3 with
  | .ClassDef _ _ _ body _ _ _ _ _ _ _ => body.getD 0 (.Pass ⟨0, 0, 0, 0⟩)
  | _ => .Pass ⟨0, 0, 0, 0⟩
/-- what the head tells of the class, and of those that the law asks for -/
structure TxtX (K : PySem.W.Frag) (mg : Str → Option Value) (C : Addr) : Prop where
  x : XF K mg "NoItem" "AskedError" s_NoItem_init C
  i_AskedError : ∃ B : Addr, mg "AskedError" = some (.ref B) ∧ PySem.W.kitOne K (.ref C) (.ref B) = some true
  i_TraceError : ∃ B : Addr, mg "TraceError" = some (.ref B) ∧ PySem.W.kitOne K (.ref C) (.ref B) = some true
  i_ValueError : PySem.W.kitOne K (.ref C) (.type "ValueError") = some true
  z_ValueError : mg "ValueError" = none
theorem xc_NoItem {C : Addr} (h : TxtX K mg C) : XC P w K mg base 2 "NoItem" := by
  obtain ⟨B, fI, fd, hB, hh, F, bd⟩ := h.x.ini
  exact ⟨1, Nat.le_refl _, xcls_ok (k := 0) (st := s_NoItem_init) hh h.x.c hB F bd ⟨rfl, rfl, rfl, by decide +kernel, rfl, by decide +kernel, by decide +kernel⟩ (.inl rfl) (.inl rfl) rfl (by decide) rfl fun _ => ⟨_, rfl⟩⟩
theorem no_law_no_item (T : Txt K mg) {C : Addr} (h : TxtX K mg C) {c Pt : Addr} (TB : LamX.TabB base mg c Pt) {k j : Nat} {f : Addr} {A : Around} {outer : List Env} {s : Shared} {H : Hp} {E : XK} (hr : Room (k + 2) (A.deeper (envOfC "law" (defScope s_law) s.heap.objs.size f (.ref c))))
    {params : Arguments} {body : Expr} {scope : Scope} {p lpos pos yp : Pos} {yn : Str} {tb : XK → TE} (L : LamX.LamS (defScope s_law) scope) (hdef : defaultsOf params (cxOf (L2.CX P w) P w K mg base N_law "law" (defScope s_law) f (.ref c) A outer s H E).env = ([], []))
    (hbind : ∀ (q : Str) (cl : List (Str × Addr)) (pm cv ctv : Value), bindArgs (PySem.W.kla_fn "<lambda>" q params body scope cl pm cv ctv) ⟨[], []⟩ = pure [])
    (hbody : ∀ (A' : Around) (outer' : List Env) (s' : Shared) (H' : Hp) (E' : XK) (f' c' : Addr), Room k (A'.deeper (LamX.lamEnv (cxOf (L2.CX P w) P w K mg base N_law "law" (defScope s_law) f (.ref c) A outer s H E) scope s'.heap.objs.size f' c')) → PE (LamX.lamCx (cxOf (L2.CX P w) P w K mg base N_law "law" (defScope s_law) f (.ref c) A outer s H E) A' outer' s' H' E' scope f' c') body (tb E'))
    (hyN : N_law[j]? = some yn) (hyv : Vis (defScope s_law) yn) (hyd : (yn == ("__debug__" : Str)) = false) (hyc : (yn == ("__classdict__" : Str)) = false) :
    PE (cxOf (L2.CX P w) P w K mg base N_law "law" (defScope s_law) f (.ref c) A outer s H E) (.Call (.Name "_law_no_item" p) [.Lambda params body scope lpos, .Name yn yp] [] pos) (tNo [(Pt, ("law" : Str) ++ ".<locals>." ++ "<lambda>")] C bf_law_no_item j tb) := by
  have i_AskedError := h.i_AskedError
  have i_TraceError := h.i_TraceError
  have hgl : Gl (cxOf (L2.CX P w) P w K mg base N_law "law" (defScope s_law) f (.ref c) A outer s H E) "_law_no_item" := by show (defScope s_law).names.lookup _ = _; decide +kernel
  have hqn : (cxOf (L2.CX P w) P w K mg base N_law "law" (defScope s_law) f (.ref c) A outer s H E).env.qual = ("law" : Str) ++ ".<locals>." := rfl
  have hcd : (cxOf (L2.CX P w) P w K mg base N_law "law" (defScope s_law) f (.ref c) A outer s H E).env.code = .ref c := rfl
  exact pe_noD (X := cxOf (L2.CX P w) P w K mg base N_law "law" (defScope s_law) f (.ref c) A outer s H E) T.d__law_no_item sc__law_no_item hgl TB hcd hqn rfl hr L hdef hbind hbody hyN hyv hyd hyc (by decide) rfl rfl rfl rfl rfl (by decide) h.x.c h.x.em rfl (fun _ => rfl) fun s t Y a oe cls d pn hK hm hN hS hu as at' hz hf =>
    pe_andK (pe_eqX (hK ▸ h.x.xf) (by rw [hK]; exact h.x.nm) hz hf hu as at' (by rw [hN]; rfl) (by rw [hS]; exact .inl rfl) (by decide) (by decide) (by rw [hN]; rfl) (by rw [hS]; exact .inl rfl) (by decide) (by decide) (by rfl)) (pe_andK (pe_isX (c := .ref i_AskedError.choose) (cv := .ref i_AskedError.choose) (hK ▸ h.x.ei) hz hf (fun u r => r) (by rw [hK]; exact i_AskedError.choose_spec.2) (pe_glob (X := Y.suite a ((a, oe) :: pn)) (v := .ref i_AskedError.choose) (by show Y.env.scope.names.lookup _ = _; rw [hS]; rfl) (by show Y.mg _ = _; rw [hm]; exact i_AskedError.choose_spec.1) rfl) (by rw [hN]; rfl) (by rw [hS]; exact .inl rfl) (by decide) (by decide) (by show Y.env.scope.names.lookup _ = _; rw [hS]; rfl) (by rw [hm]; exact T.z_isinstance) (by rfl)) (pe_andK (pe_isX (c := .ref i_TraceError.choose) (cv := .ref i_TraceError.choose) (hK ▸ h.x.ei) hz hf (fun u r => r) (by rw [hK]; exact i_TraceError.choose_spec.2) (pe_glob (X := Y.suite a ((a, oe) :: pn)) (v := .ref i_TraceError.choose) (by show Y.env.scope.names.lookup _ = _; rw [hS]; rfl) (by show Y.mg _ = _; rw [hm]; exact i_TraceError.choose_spec.1) rfl) (by rw [hN]; rfl) (by rw [hS]; exact .inl rfl) (by decide) (by decide) (by show Y.env.scope.names.lookup _ = _; rw [hS]; rfl) (by rw [hm]; exact T.z_isinstance) (by rfl)) (pe_oneK (pe_isX (c := .ty "ValueError") (cv := .type "ValueError") (hK ▸ h.x.ei) hz hf (fun u r => r) (by rw [hK]; exact h.i_ValueError) (pe_bltn (X := Y.suite a ((a, oe) :: pn)) (v := .ty "ValueError") (by show Y.env.scope.names.lookup _ = _; rw [hS]; rfl) (by show Y.mg _ = _; rw [hm]; exact h.z_ValueError) PyProof.Rows.Boot.«ValueError» rfl) (by rw [hN]; rfl) (by rw [hS]; exact .inl rfl) (by decide) (by decide) (by show Y.env.scope.names.lookup _ = _; rw [hS]; rfl) (by rw [hm]; exact T.z_isinstance) (by rfl)))))
def b_law (m_law_bag m_law_variant m_law_web mleads_to m_law_under m_law_needs mneeds_of mholds m_law_of : Fn) : En → RS :=
  (sSeq (sFor (mRange1 (aCons (mBin gAdd (eC (.int 1)) (mCall gMin2 (aCons (mCall gLen (aCons (eV 0) aNil)) (aCons (eC (.int 15)) aNil)))) aNil)) (gN 1) (sSeq (sSet 2 (mApp [] m_law_bag (lCons (frz (eV 0)) (lCons (frz (eV 1)) lNil))))
    (sSeq (sAsg (frz (eTup (lCons (frz (mApp [2] m_law_web (lCons (frz (eC (.int 5))) lNil))) (lCons (frz (mApp [2] m_law_variant lNil)) lNil)))) (gT 2 (gsCons (gN 3) (gsCons (gN 4) gsNil))))
    (sSeq (sFor (mIter (frz (eV 3))) (gT 4 (gsCons (gN 5) (gsCons (gN 6) (gsCons (gN 7) (gsCons (gN 8) gsNil))))) (sSeq (sIf (tst (mBin (bo gNe) (mApp [] mleads_to (lCons (frz (eV 3)) (lCons (frz (eV 5)) lNil))) (mApp [] m_law_under (lCons (frz (eV 3)) (lCons (frz (eV 5)) lNil))))) (sRet (eC (.bl false))) sNil)
    (sSeq (sSet 9 (mComp [13] (mIter (frz (mApp [] m_law_needs (lCons (frz (eV 3)) lNil)))) (gN 13) (tst (mBin (bo gIn) (eV 5) (mApp [] m_law_under (lCons (frz (eV 3)) (lCons (frz (eV 13)) lNil))))) (frz (eV 13))))
    (sSeq (sIf (tst (mBin (bo gNe) (mApp [] mneeds_of (lCons (frz (eV 3)) (lCons (frz (eV 5)) lNil))) (eV 9))) (sRet (eC (.bl false))) sNil)
    (sSeq (sSet 10 (mApp [] mholds (lCons (frz (eV 3)) (lCons (frz (eV 5)) (lCons (frz (eV 4)) lNil)))))
    (sSeq (sSet 11 (mComp [14] (mIter (frz (eV 8))) (gN 14) (tst (mBin (bo gNotIn) (eV 14) (eV 4))) (frz (eV 14))))
    (sIf (mOr (mNot (tst (mIsi "bool" (eV 10)))) (tst (mBin (bo gNe) (eV 10) (mBin (bo gEq) (eV 11) (eLst lNil))))) (sRet (eC (.bl false))) sNil)))))))
    (sSeq (sSet 12 (mApp [2] m_law_of (lCons (frz (eLst (lCons (frz (eC (.str ""))) (lCons (frz (eC (.str "zed"))) (lCons (frz (eC (.str "Na"))) (lCons (frz (eC (.str "na "))) lNil)))))) lNil)))
    (sSeq (sIfNo "NoItem" bf_law_no_item 12 (mApp [] mleads_to (lCons (frz (eV 3)) (lCons (frz (eV 12)) lNil))) (sRet (eC (.bl false))) sNil)
    (sSeq (sIfNo "NoItem" bf_law_no_item 12 (mApp [] mneeds_of (lCons (frz (eV 3)) (lCons (frz (eV 12)) lNil))) (sRet (eC (.bl false))) sNil)
    (sIfNo "NoItem" bf_law_no_item 12 (mApp [] mholds (lCons (frz (eV 3)) (lCons (frz (eV 12)) (lCons (frz (eTup lNil)) lNil)))) (sRet (eC (.bl false))) sNil))))))))
    (sRet (eC (.bl true))))
theorem w_law (T : Txt K mg) {C : Addr} (h_law_no_item : TxtX K mg C) {c Pt : Addr} (TB : LamX.TabB base mg c Pt) {k : Nat} {m_law_bag m_law_variant m_law_web mleads_to m_law_under m_law_needs mneeds_of mholds m_law_of : Fn} (c0_law_bag : Cal P w K mg base k "_law_bag" ["script", "k"] 0 m_law_bag) (c0_law_variant : Cal P w K mg base k "_law_variant" ["bag"] 1 m_law_variant) (c0_law_web : Cal P w K mg base k "_law_web" ["bag", "needs_so"] 1 m_law_web) (c0leads_to : Cal P w K mg base k "leads_to" ["web", "item"] 0 mleads_to) (c0_law_under : Cal P w K mg base k "_law_under" ["web", "name"] 0 m_law_under) (c0_law_needs : Cal P w K mg base k "_law_needs" ["web"] 0 m_law_needs) (c0needs_of : Cal P w K mg base k "needs_of" ["web", "item"] 0 mneeds_of) (c0holds : Cal P w K mg base k "holds" ["web", "item", "variant"] 0 mholds) (c0_law_of : Cal P w K mg base k "_law_of" ["bag", "some"] 1 m_law_of) {f : Addr} {A : Around} {outer : List Env} {s : Shared} {H : Hp} {E : XK} (hr : Room (k + 2) (A.deeper (envOfC "law" (defScope s_law) s.heap.objs.size f (.ref c)))) :
    WB [(Pt, ("law" : Str) ++ ".<locals>." ++ "<lambda>")] (cxOf (L2.CX P w) P w K mg base N_law "law" (defScope s_law) f (.ref c) A outer s H E) [] (defBody s_law) (b_law m_law_bag m_law_variant m_law_web mleads_to m_law_under m_law_needs mneeds_of mholds m_law_of) := by
  have nd := sc_law.nd
  have hP : ∀ i : Nat, 0 ≤ i → ([] : List V).length ≤ i := fun i _ => Nat.zero_le i
  have hr0 := hr
  have c_law_bag := c0_law_bag.mono (Nat.le_add_right k 2)
  have c_law_variant := c0_law_variant.mono (Nat.le_add_right k 2)
  have c_law_web := c0_law_web.mono (Nat.le_add_right k 2)
  have cleads_to := c0leads_to.mono (Nat.le_add_right k 2)
  have c_law_under := c0_law_under.mono (Nat.le_add_right k 2)
  have c_law_needs := c0_law_needs.mono (Nat.le_add_right k 2)
  have cneeds_of := c0needs_of.mono (Nat.le_add_right k 2)
  have cholds := c0holds.mono (Nat.le_add_right k 2)
  have c_law_of := c0_law_of.mono (Nat.le_add_right k 2)
  exact (wb_cons (ws_forR (X := (cxOf (L2.CX P w) P w K mg base N_law "law" (defScope s_law) f (.ref c) A outer s H E)) (E := E) (sl := [1]) ownD rfl (by rfl) T.z_range (da_cons (de_op op_addA sp_add de_int (de_callB (call_min2 rfl) sp_min2 (by rfl) T.z_min boot_min (da_cons (de_callB call_len sp_len (by rfl) T.z_len boot_len (da_cons (de_v 0 rfl (.inl rfl)) da_nil)) (da_cons de_int da_nil)))) da_nil) (dg_name nd rfl (.inl rfl) (hP 1 (by decide)) (by decide)) (wb_cons (ws_of (X := (cxOf (L2.CX P w) P w K mg base N_law "law" (defScope s_law) f (.ref c) A outer s H E)) (E := E) (ds_set nd rfl (.inl rfl) (hP 2 (by decide)) (de_callC c_law_bag rfl hr (by rfl) passD (by decide) (dc_nil (dl_cons (DE.frz (de_v 0 rfl (.inl rfl))) (dl_cons (DE.frz (de_v 1 rfl (.inl rfl))) dl_nil))))))
    (wb_cons (ws_of (X := (cxOf (L2.CX P w) P w K mg base N_law "law" (defScope s_law) f (.ref c) A outer s H E)) (E := E) (ds_asg (sl := [3, 4]) (DE.frz (de_tup (dl_cons (DE.frz (de_callC c_law_web rfl hr (by rfl) passD (by decide) (dc_cons 2 rfl (.inl rfl) (dc_nil (dl_cons (DE.frz de_int) dl_nil))))) (dl_cons (DE.frz (de_callC c_law_variant rfl hr (by rfl) passD (by decide) (dc_cons 2 rfl (.inl rfl) (dc_nil dl_nil)))) dl_nil)))) (dg_tup rfl (dgs_cons (dg_name nd rfl (.inr rfl) (hP 3 (by decide)) (by decide)) (dgs_cons (dg_name nd rfl (.inr rfl) (hP 4 (by decide)) (by decide)) dgs_nil)))))
    (wb_cons (ws_of (X := (cxOf (L2.CX P w) P w K mg base N_law "law" (defScope s_law) f (.ref c) A outer s H E)) (E := E) (ds_for (sl := [5, 6, 7, 8]) ownD rfl (di_seq (DE.frz (de_v 3 rfl (.inr (.inl rfl))))) (dg_tup rfl (dgs_cons (dg_name nd rfl (.inr rfl) (hP 5 (by decide)) (by decide)) (dgs_cons (dg_name nd rfl (.inl rfl) (hP 6 (by decide)) (by decide)) (dgs_cons (dg_name nd rfl (.inl rfl) (hP 7 (by decide)) (by decide)) (dgs_cons (dg_name nd rfl (.inl rfl) (hP 8 (by decide)) (by decide)) dgs_nil))))) (db_cons (ds_if (dt_cmp (op_neD (units64 hr)) sp_ne (de_callC cleads_to rfl hr (by rfl) passD (by decide) (dc_nil (dl_cons (DE.frz (de_v 3 rfl (.inr (.inl rfl)))) (dl_cons (DE.frz (de_v 5 rfl (.inr (.inl rfl)))) dl_nil)))) (de_callC c_law_under rfl hr (by rfl) passD (by decide) (dc_nil (dl_cons (DE.frz (de_v 3 rfl (.inr (.inl rfl)))) (dl_cons (DE.frz (de_v 5 rfl (.inr (.inl rfl)))) dl_nil)))) (nomark _)) (db_one (ds_ret de_bl)) db_nil)
    (db_cons (ds_setComp (own := [("need", 13)]) rfl nd rfl rfl (hP 9 (by decide)) (sw_true rfl rfl rfl (by decide +kernel)) (ownP hP (by decide)) (di_seq (DE.frz (de_callC c_law_needs rfl hr (by rfl) passD (by decide) (dc_nil (dl_cons (DE.frz (de_v 3 rfl (.inr (.inl rfl)))) dl_nil))))) (blkOk_by (own := [("need", 13)]) (N := N_law) (sc := defScope s_law) (by decide +kernel)) (fun _ _ _ _ _ => (dg_name nd rfl (.inl rfl) (hP 13 (by decide)) (by decide))) (fun _ _ _ _ _ => (dp_one (dt_cmp (op_inA (units66 hr)) sp_in (de_v 5 rfl (by first | exact .inl rfl | exact .inr (.inl rfl) | exact .inr (.inr rfl))) (de_callC c_law_under rfl hr (by rfl) passL (by decide) (dc_nil (dl_cons (DE.frz (de_v 3 rfl (by first | exact .inl rfl | exact .inr (.inl rfl) | exact .inr (.inr rfl)))) (dl_cons (DE.frz (de_v 13 rfl (.inl rfl))) dl_nil)))) rfl))) (fun _ _ _ _ _ => (DE.frz (de_v 13 rfl (.inl rfl)))))
    (db_cons (ds_if (dt_cmp (op_neD (units64 hr)) sp_ne (de_callC cneeds_of rfl hr (by rfl) passD (by decide) (dc_nil (dl_cons (DE.frz (de_v 3 rfl (.inr (.inl rfl)))) (dl_cons (DE.frz (de_v 5 rfl (.inr (.inl rfl)))) dl_nil)))) (de_v 9 rfl (.inl rfl)) (nomark _)) (db_one (ds_ret de_bl)) db_nil)
    (db_cons (ds_set nd rfl (.inl rfl) (hP 10 (by decide)) (de_callC cholds rfl hr (by rfl) passD (by decide) (dc_nil (dl_cons (DE.frz (de_v 3 rfl (.inr (.inl rfl)))) (dl_cons (DE.frz (de_v 5 rfl (.inr (.inl rfl)))) (dl_cons (DE.frz (de_v 4 rfl (.inr (.inl rfl)))) dl_nil))))))
    (db_cons (ds_setComp (own := [("sign", 14)]) rfl nd rfl rfl (hP 11 (by decide)) (sw_true rfl rfl rfl (by decide +kernel)) (ownP hP (by decide)) (di_seq (DE.frz (de_v 8 rfl (.inl rfl)))) (blkOk_by (own := [("sign", 14)]) (N := N_law) (sc := defScope s_law) (by decide +kernel)) (fun _ _ _ _ _ => (dg_name nd rfl (.inl rfl) (hP 14 (by decide)) (by decide))) (fun _ _ _ _ _ => (dp_one (dt_cmp (op_notInA (units66 hr)) sp_notIn (de_v 14 rfl (.inl rfl)) (de_v 4 rfl (by first | exact .inl rfl | exact .inr (.inl rfl) | exact .inr (.inr rfl))) rfl))) (fun _ _ _ _ _ => (DE.frz (de_v 14 rfl (.inl rfl)))))
    (db_one (ds_if (DW.dt (dw_or (dt_not (dt_val (de_isi (by rfl) T.z_isinstance (by rfl) T.z_bool boot_bool (by decide) (de_v 10 rfl (.inl rfl))))) (dw_or1 (dt_cmp (op_neD (units64 hr)) sp_ne (de_v 10 rfl (.inl rfl)) (de_cmp (op_eqD (units64 hr)) sp_eq (de_v 11 rfl (.inl rfl)) (de_lst dl_nil) (nomark _)) (nomark _))))) (db_one (ds_ret de_bl)) db_nil)))))))))
    (wb_cons (ws_of (X := (cxOf (L2.CX P w) P w K mg base N_law "law" (defScope s_law) f (.ref c) A outer s H E)) (E := E) (ds_set nd rfl (.inr rfl) (hP 12 (by decide)) (de_callC c_law_of rfl hr (by rfl) passD (by decide) (dc_cons 2 rfl (.inl rfl) (dc_nil (dl_cons (DE.frz (de_lst (dl_cons (DE.frz de_str) (dl_cons (DE.frz de_str) (dl_cons (DE.frz de_str) (dl_cons (DE.frz de_str) dl_nil)))))) dl_nil))))))
    (wb_cons (ws_ifNo (X := (cxOf (L2.CX P w) P w K mg base N_law "law" (defScope s_law) f (.ref c) A outer s H E)) (P := []) h_law_no_item.x.c (no_law_no_item T h_law_no_item TB hr0 (j := 12) (LamX.lamS_by (by decide +kernel)) rfl (fun _ _ _ _ _ => rfl) (fun A1 outer1 s1 H1 E1 f1 c1 hr => DE.pe (P := []) (de_callC c0leads_to rfl hr (by rfl) (passM (X := (cxOf (L2.CX P w) P w K mg base N_law "law" (defScope s_law) f (.ref c) A outer s H E))) (by decide) (dc_nil (dl_cons (DE.frz (de_v 3 rfl (by first | exact .inl rfl | exact .inr (.inl rfl) | exact .inr (.inr rfl)))) (dl_cons (DE.frz (de_v 12 rfl (by first | exact .inl rfl | exact .inr (.inl rfl) | exact .inr (.inr rfl)))) dl_nil))))) rfl (.inr (.inl rfl)) (by decide) (by decide)) (wb_of (X := (cxOf (L2.CX P w) P w K mg base N_law "law" (defScope s_law) f (.ref c) A outer s H E)) (E := E) (db_one (ds_ret de_bl))) (wb_of (X := (cxOf (L2.CX P w) P w K mg base N_law "law" (defScope s_law) f (.ref c) A outer s H E)) (E := E) db_nil))
    (wb_cons (ws_ifNo (X := (cxOf (L2.CX P w) P w K mg base N_law "law" (defScope s_law) f (.ref c) A outer s H E)) (P := []) h_law_no_item.x.c (no_law_no_item T h_law_no_item TB hr0 (j := 12) (LamX.lamS_by (by decide +kernel)) rfl (fun _ _ _ _ _ => rfl) (fun A1 outer1 s1 H1 E1 f1 c1 hr => DE.pe (P := []) (de_callC c0needs_of rfl hr (by rfl) (passM (X := (cxOf (L2.CX P w) P w K mg base N_law "law" (defScope s_law) f (.ref c) A outer s H E))) (by decide) (dc_nil (dl_cons (DE.frz (de_v 3 rfl (by first | exact .inl rfl | exact .inr (.inl rfl) | exact .inr (.inr rfl)))) (dl_cons (DE.frz (de_v 12 rfl (by first | exact .inl rfl | exact .inr (.inl rfl) | exact .inr (.inr rfl)))) dl_nil))))) rfl (.inr (.inl rfl)) (by decide) (by decide)) (wb_of (X := (cxOf (L2.CX P w) P w K mg base N_law "law" (defScope s_law) f (.ref c) A outer s H E)) (E := E) (db_one (ds_ret de_bl))) (wb_of (X := (cxOf (L2.CX P w) P w K mg base N_law "law" (defScope s_law) f (.ref c) A outer s H E)) (E := E) db_nil))
    (wb_one (ws_ifNo (X := (cxOf (L2.CX P w) P w K mg base N_law "law" (defScope s_law) f (.ref c) A outer s H E)) (P := []) h_law_no_item.x.c (no_law_no_item T h_law_no_item TB hr0 (j := 12) (LamX.lamS_by (by decide +kernel)) rfl (fun _ _ _ _ _ => rfl) (fun A1 outer1 s1 H1 E1 f1 c1 hr => DE.pe (P := []) (de_callC c0holds rfl hr (by rfl) (passM (X := (cxOf (L2.CX P w) P w K mg base N_law "law" (defScope s_law) f (.ref c) A outer s H E))) (by decide) (dc_nil (dl_cons (DE.frz (de_v 3 rfl (by first | exact .inl rfl | exact .inr (.inl rfl) | exact .inr (.inr rfl)))) (dl_cons (DE.frz (de_v 12 rfl (by first | exact .inl rfl | exact .inr (.inl rfl) | exact .inr (.inr rfl)))) (dl_cons (DE.frz (de_tup dl_nil)) dl_nil)))))) rfl (.inr (.inl rfl)) (by decide) (by decide)) (wb_of (X := (cxOf (L2.CX P w) P w K mg base N_law "law" (defScope s_law) f (.ref c) A outer s H E)) (E := E) (db_one (ds_ret de_bl))) (wb_of (X := (cxOf (L2.CX P w) P w K mg base N_law "law" (defScope s_law) f (.ref c) A outer s H E)) (E := E) db_nil))))))))))
    (wb_of (X := (cxOf (L2.CX P w) P w K mg base N_law "law" (defScope s_law) f (.ref c) A outer s H E)) (E := E) (db_one (ds_ret de_bl))))
theorem f_law (T : Txt K mg) {C : Addr} (h_law_no_item : TxtX K mg C) {c Pt : Addr} (TB : LamX.TabB base mg c Pt) {k : Nat} {m_law_bag m_law_variant m_law_web mleads_to m_law_under m_law_needs mneeds_of mholds m_law_of : Fn} (c0_law_bag : Cal P w K mg base k "_law_bag" ["script", "k"] 0 m_law_bag) (c0_law_variant : Cal P w K mg base k "_law_variant" ["bag"] 1 m_law_variant) (c0_law_web : Cal P w K mg base k "_law_web" ["bag", "needs_so"] 1 m_law_web) (c0leads_to : Cal P w K mg base k "leads_to" ["web", "item"] 0 mleads_to) (c0_law_under : Cal P w K mg base k "_law_under" ["web", "name"] 0 m_law_under) (c0_law_needs : Cal P w K mg base k "_law_needs" ["web"] 0 m_law_needs) (c0needs_of : Cal P w K mg base k "needs_of" ["web", "item"] 0 mneeds_of) (c0holds : Cal P w K mg base k "holds" ["web", "item", "variant"] 0 mholds) (c0_law_of : Cal P w K mg base k "_law_of" ["bag", "some"] 1 m_law_of) {f : Addr} {oc kV doc pm ct : Value} {od an : Option Addr} {osl : Array (Option Value)}
    (lf : K.lookup f = some ⟨oc, od, .func (PySem.W.fnOf "law" "law" (defArgs s_law) (defBody s_law) (defScope s_law) .none kV doc pm an (.ref c) ct), osl⟩) (hcd : PySem.W.codeIn K (.ref c) "law" = true)
    (plain : ∀ ns : List Int, ns.length ≤ 63 → ∃ r', b_law m_law_bag m_law_variant m_law_web mleads_to m_law_under m_law_needs mneeds_of mholds m_law_of (.fz (.scr ns) :: List.replicate 14 .un) = .rt (.v (.bl true)) r') :
    FnOk P w K mg base (L2.CX P w) (k + 3) f (PySem.W.fnOf "law" "law" (defArgs s_law) (defBody s_law) (defScope s_law) .none kV doc pm an (.ref c) ct) ["script"] (spLawT K Pt) :=
  law_fn lf hcd sc_law (fun A outer s H E hr => w_law T h_law_no_item TB c0_law_bag c0_law_variant c0_law_web c0leads_to c0_law_under c0_law_needs c0needs_of c0holds c0_law_of hr) rfl plain
end
end NT

set_option Elab.async false
set_option linter.all false
set_option maxRecDepth 100000
set_option maxHeartbeats 1000000
namespace NT
open PySem PySem.Spec PyProof.Rows L2
theorem atI_0 {α : Type} (a : α) (l : List α) : L2.atI (a :: l) 0 = some a := by
  unfold L2.atI L2.ixN; simp
theorem atI_1 {α : Type} (a b : α) (l : List α) : L2.atI (a :: b :: l) 1 = some b := by
  unfold L2.atI L2.ixN
  have h : (1 : Int) < (l.length : Int) + 1 + 1 := by omega
  simp [h]
theorem atI_in {α : Type} {l : List α} {i : Int} (h0 : 0 ≤ i) (h1 : i < l.length) : ∃ x, L2.atI l i = some x ∧ x ∈ l := by
  have h2 : i.toNat < l.length := by omega
  exact ⟨l[i.toNat], by unfold L2.atI L2.ixN; simp [h0, h1, h2], List.getElem_mem h2⟩
/-- what a bag holds -/
def BagOk (l : List D) : Prop := ∃ a b : Int, l = [.int a, .int b] ∧ 0 ≤ a ∧ 0 ≤ b ∧ b < 2147483648
def m__law_take : Fn := fnOf 1 1 b__law_take
theorem take_ok {l : List D} (h : BagOk l) {n : Int} (h1 : 0 < n) (h2 : n < 1073741824) : ∃ x l', m__law_take [.own (.lst l), .fz (.int n)] = .ok (.v (.int x)) [.own (.lst l')] ∧ BagOk l' ∧ 0 ≤ x ∧ x < n := by
  obtain ⟨a, b, rfl, ha, hb, hb2⟩ := h
  have i0 : L2.ixN 2 0 = some 0 := rfl
  have i1 : L2.ixN 2 1 = some 1 := rfl
  by_cases c : 0 < a
  · refine ⟨a % n, [.int (a / n), .int b], ?_, ⟨_, _, rfl, Int.ediv_nonneg ha (by omega), hb, hb2⟩, Int.emod_nonneg _ (by omega), Int.emod_lt_of_pos _ h1⟩
    simp [m__law_take, b__law_take, gGt, gCmpI, gIx, atI_0, atI_1, c, gMod, gFdiv, gInt, h1, h2, i0]
  · have q1 : 0 ≤ b * 48271 % 2147483647 := Int.emod_nonneg _ (by decide)
    have q2 : b * 48271 % 2147483647 < 2147483647 := Int.emod_lt_of_pos _ (by decide)
    refine ⟨b * 48271 % 2147483647 * (b * 48271 % 2147483647) % 2147483629 / 64 % n, [.int a, .int (b * 48271 % 2147483647)], ?_, ⟨_, _, rfl, ha, q1, by omega⟩, Int.emod_nonneg _ (by omega), Int.emod_lt_of_pos _ h1⟩
    have q3 : -18446744073709551616 < b * 48271 % 2147483647 := by omega
    have q4 : b * 48271 % 2147483647 < 18446744073709551616 := by omega
    simp [m__law_take, b__law_take, gGt, gCmpI, gIx, atI_0, atI_1, c, gMod, gFdiv, gMul, gInt, h1, h2, i1, q3, q4]
def m__law_of : Fn := fnOf 0 1 (b__law_of m__law_take)
theorem of_ok {l ds : List D} (h : BagOk l) (h1 : ds ≠ []) (h2 : ds.length < 1073741824) : ∃ d l', m__law_of [.own (.lst l), .fz (.lst ds)] = .ok (.v d) [.own (.lst l')] ∧ BagOk l' ∧ d ∈ ds := by
  have p : 0 < ds.length := List.length_pos_iff.mpr h1
  obtain ⟨x, l', e, hb, x0, x1⟩ := take_ok h (n := ds.length) (by omega) (by omega)
  obtain ⟨d, e2, hd⟩ := atI_in x0 x1
  exact ⟨d, l', by simp [m__law_of, b__law_of, gLen, e, gIx, e2], hb, hd⟩
def m__law_bag : Fn := fnOf 1 0 b__law_bag
theorem gLt_int (i j : Int) : gLt (.int i) (.int j) = some (decide (i < j)) := by simp [gLt, toP, PySem.W.alike, notNone, SeqAt.shaped, PyData.canLay0, PyData.depth, PySem.W.dataLt_int]
theorem sz2 : (2 : Nat) ≤ sizeLine := by rw [sizeLine_eq]; decide
theorem bag_ok (ns : List Int) (k : Nat) : ∃ l, m__law_bag [.fz (.scr ns), .fz (.int k)] = .ok (.n (.lst l)) [] ∧ BagOk l := by
  have z := sz2
  by_cases hk : (k : Int) < ns.length
  · obtain ⟨x, e, hx⟩ := atI_in (l := ns) (i := k) (by omega) hk
    obtain ⟨c, hc, ha⟩ : ∃ c : Int, 0 ≤ c ∧ gAbs [.int x] = some (.v (.int c)) := ⟨_, by split <;> omega, rfl⟩
    by_cases hlt : c < 1000000000000000000
    · refine ⟨[.int 0, .int (1 + (c * 7919 + 104729 * k) % 2147483646)], ?_, _, _, rfl, by decide, by omega, by omega⟩
      simp [m__law_bag, b__law_bag, gLt_int, gLen, hk, gIx, e, ha, gPow, gInt, hlt, gAdd, gMod, gMul, z]
    · refine ⟨[.int c, .int (1 + (c + k) % 2147483646)], ?_, _, _, rfl, hc, by omega, by omega⟩
      simp [m__law_bag, b__law_bag, gLt_int, gLen, hk, gIx, e, ha, gPow, gInt, hlt, gAdd, gMod, gMul, z]
  · refine ⟨[.int 0, .int (1 + (0 * 7919 + 104729 * k) % 2147483646)], ?_, _, _, rfl, by decide, by omega, by omega⟩
    simp [m__law_bag, b__law_bag, gLt_int, gLen, hk, gIx, gPow, gInt, gAdd, gMod, gMul, z]
end NT

set_option Elab.async false
set_option linter.all false
set_option maxRecDepth 100000
set_option maxHeartbeats 1000000
namespace NT
open PySem PySem.Spec PyProof.Rows L2 PySem.W
/-- plain data: t: how often it was spoilt; n: how deep -/
inductive Pd (t : Nat) : Nat → D → Prop
  | non {n : Nat} : Pd t n .non
  | bl {n : Nat} (b : Bool) : Pd t n (.bl b)
  | int {n : Nat} (i : Int) (h : i.natAbs ≤ 10 ^ 30 + 1000 * t) : Pd t n (.int i)
  | str {n : Nat} (x : Str) (h : x.length ≤ 40 * 2 ^ t) (a : KSb.Asc x) : Pd t n (.str x)
  | tup {n : Nat} (l : List D) (h : l.length ≤ 30 + t) (a : ∀ d ∈ l, Pd t n d) : Pd t (n + 1) (.tup l)
  | lst {n : Nat} (l : List D) (h : l.length ≤ 30 + t) (a : ∀ d ∈ l, Pd t n d) : Pd t (n + 1) (.lst l)
theorem pw_up {t u : Nat} (h : t ≤ u) : 40 * 2 ^ t ≤ 40 * 2 ^ u := Nat.mul_le_mul_left _ (Nat.pow_le_pow_right (by decide) h)
theorem Pd.up {t u n m : Nat} {d : D} (h : Pd t n d) (ht : t ≤ u) (hn : n ≤ m) : Pd u m d := by
  induction h generalizing m with
  | non => exact .non
  | bl b => exact .bl b
  | int i h => exact .int i (by omega)
  | str x h a => exact .str x (Nat.le_trans h (pw_up ht)) a
  | tup l h a ih =>
    obtain ⟨m, rfl⟩ : ∃ k, m = k + 1 := ⟨m - 1, by omega⟩
    exact .tup l (by omega) fun d hd => ih d hd (by omega)
  | lst l h a ih =>
    obtain ⟨m, rfl⟩ : ∃ k, m = k + 1 := ⟨m - 1, by omega⟩
    exact .lst l (by omega) fun d hd => ih d hd (by omega)
theorem len_sz {n : Nat} (h : n ≤ 16777216) : n ≤ sizeLine := by rw [sizeLine_eq]; exact h
theorem pw_6 {t : Nat} (ht : t ≤ 6) : 40 * 2 ^ t ≤ 2560 := Nat.le_trans (pw_up ht) (by decide)
theorem pw_s (t : Nat) : 40 * 2 ^ (t + 1) = 2 * (40 * 2 ^ t) := by rw [Nat.pow_succ]; omega
theorem pw_1 (t : Nat) : 40 ≤ 40 * 2 ^ t := by have := Nat.one_le_two_pow (n := t); omega
/-- the datum of what is given -/
def plD : Pl → Option D
  | .v d => some d
  | .n o => some o.d
  | .s _ => none
def oddL : List D := [.non, .bl true, .bl false, .int 0, .int 1, .int (-1), .int 5, .int 1000000000000000000000000000000, .str "", .str "a", .str "link", .str "met", .str "open", .tup [], .lst [], .tup [.int 1, .int 2], .tup [.non], .tup [.str "a", .tup []], .tup [.str "met", .tup [.str "a", .tup []]], .tup [.str "link", .str "a"], .tup [.str "deeds", .tup []], .tup [.tup [.str "a", .str "trial", .tup [], .tup []]]]
/-- a quick look: small plain data -/
def pdQ : Nat → D → Bool
  | _, .non => true
  | _, .bl _ => true
  | _, .int i => decide (i.natAbs ≤ 10 ^ 30)
  | _, .str x => decide (x.length ≤ 40) && x.cps.toList.all fun c => decide (c < 128)
  | n + 1, .tup l => decide (l.length ≤ 30) && l.all (pdQ n)
  | n + 1, .lst l => decide (l.length ≤ 30) && l.all (pdQ n)
  | _, _ => false
theorem pdQ_ok {t : Nat} : ∀ {n : Nat} {d : D}, pdQ n d = true → Pd t n d
  | _, .non, _ => .non
  | _, .bl b, _ => .bl b
  | _, .int i, h => .int i (by have := of_decide_eq_true (by simpa [pdQ] using h : decide (i.natAbs ≤ 10 ^ 30) = true); omega)
  | _, .str x, h => by
    have h : (decide (x.length ≤ 40) && x.cps.toList.all fun c => decide (c < 128)) = true := by cases ‹Nat› <;> exact h
    rw [Bool.and_eq_true] at h
    exact .str x (Nat.le_trans (of_decide_eq_true h.1) (pw_1 t)) (KSb.asc_of h.2)
  | n + 1, .tup l, h => by
    have h : (decide (l.length ≤ 30) && l.all (pdQ n)) = true := h
    rw [Bool.and_eq_true, List.all_eq_true] at h
    exact .tup l (Nat.le_trans (of_decide_eq_true h.1) (by omega)) fun d hd => pdQ_ok (h.2 d hd)
  | n + 1, .lst l, h => by
    have h : (decide (l.length ≤ 30) && l.all (pdQ n)) = true := h
    rw [Bool.and_eq_true, List.all_eq_true] at h
    exact .lst l (Nat.le_trans (of_decide_eq_true h.1) (by omega)) fun d hd => pdQ_ok (h.2 d hd)
  | 0, .tup l, h => by cases h
  | 0, .lst l, h => by cases h
  | n, .dK l, h => by cases n <;> cases h
  | n, .dT l, h => by cases n <;> cases h
  | n, .scr l, h => by cases n <;> cases h
end NT

set_option Elab.async false
set_option linter.all false
set_option maxRecDepth 100000
set_option maxHeartbeats 4000000
namespace NT
open PySem PySem.Spec PyProof.Rows L2 PySem.W
theorem cutD_to (l : List D) (k : Nat) : cutD l none (some (k : Int)) = l.take k := by
  unfold cutD
  rw [HT.sIx_nat, HT.sIx_none, Nat.sub_zero, List.drop_zero]
  by_cases h : k ≤ l.length
  · rw [Nat.min_eq_left h]
  · rw [Nat.min_eq_right (by omega), List.take_of_length_le (Nat.le_refl _), List.take_of_length_le (by omega)]
theorem cutD_from (l : List D) (k : Nat) : cutD l (some (k : Int)) none = l.drop k := by
  unfold cutD
  rw [HT.sIx_nat, HT.sIx_none]
  by_cases h : k ≤ l.length
  · rw [Nat.min_eq_left h, List.take_of_length_le (by rw [List.length_drop]; exact Nat.le_refl _)]
  · rw [Nat.min_eq_right (by omega), Nat.sub_self, List.take_zero, List.drop_eq_nil_of_le (by omega)]
theorem cutD_to1 (l : List D) (k : Nat) : cutD l none (some ((k : Int) + 1)) = l.take (k + 1) := cutD_to l (k + 1)
theorem cutD_from1 (l : List D) (k : Nat) : cutD l (some ((k : Int) + 1)) none = l.drop (k + 1) := cutD_from l (k + 1)
theorem ixN_nat {n k : Nat} (h : k < n) : L2.ixN n (k : Int) = some k := by
  unfold L2.ixN
  have h2 : (k : Int) < n := by omega
  simp [h2]
theorem atI_nat {α : Type} {l : List α} {k : Nat} (h : k < l.length) : L2.atI l (k : Int) = some l[k] := by
  unfold L2.atI
  rw [ixN_nat h]
  simp [h]
theorem gEq_int (i j : Int) : gEq (.int i) (.int j) = some (i == j) := by simp [gEq, toP, SeqAt.shaped, PyData.canLay0, PyData.depth, PyData.eqv]
/-- what spoiling gives -/
def Sp (m : Fn) (t n : Nat) (d : D) : Prop := ∀ l, BagOk l → ∃ z d' l', m [.own (.lst l), .fz d] = .ok z [.own (.lst l')] ∧ plD z = some d' ∧ BagOk l' ∧ Pd (t + 1) (n + 4) d'
theorem mem_set {α : Type} {l : List α} {k : Nat} {x y : α} (h : y ∈ l.set k x) : y = x ∨ y ∈ l := by
  rcases List.mem_or_eq_of_mem_set h with h | h
  · exact .inr h
  · exact .inl h
end NT

set_option Elab.async false
set_option linter.all false
set_option maxRecDepth 100000
set_option maxHeartbeats 4000000
namespace NT
open PySem PySem.Spec PyProof.Rows L2 PySem.W
theorem len_app (x y : Str) : (x ++ y).length = x.length + y.length := by
  show (x.cps ++ y.cps).size = x.cps.size + y.cps.size
  exact Array.size_append
theorem cutS_len (z : Str) (lo hi : Option Int) : (cutS z lo hi).length ≤ z.length := by
  show ((z.cps.toList.drop _).take _).toArray.size ≤ z.cps.size
  rw [List.size_toArray, List.length_take, List.length_drop, Array.length_toList]
  omega
theorem cutS_asc {z : Str} (h : KSb.Asc z) (lo hi : Option Int) : KSb.Asc (cutS z lo hi) := fun c hc => h c (List.mem_of_mem_drop (List.mem_of_mem_take (by simpa [cutS] using hc)))
theorem up_len {x : Str} (h : KSb.Asc x) : (Txt.upper x).length = x.length ∧ KSb.Asc (Txt.upper x) := by
  rw [PyProof.Rows.upper_ascii h]
  refine ⟨Array.size_map, fun c hc => ?_⟩
  have hc : c ∈ (x.cps.map PyProof.Rows.up1).toList := hc
  rw [Array.toList_map] at hc
  obtain ⟨u, hu, rfl⟩ := List.mem_map.mp hc
  have := h u hu
  unfold PyProof.Rows.up1
  split <;> omega
theorem len_int {i : Int} {k : Nat} (hk : 0 < k) (h : i.natAbs < 10 ^ k) : (Str.ofString (toString i)).length ≤ k + 1 := by
  have e1 : ∀ s : String, (Str.ofString s).length = s.length := fun s => by
    show (Str.ofString s).cps.size = s.length
    rw [← Array.length_toList, PySem.Str.ofString_eq_toList, List.toList_toArray, List.length_map, String.length_toList]
  rw [e1]
  cases i with
  | ofNat n =>
    have q := (Nat.length_repr_le_iff (n := n) hk).mpr (by simpa using h)
    show (Nat.repr n).length ≤ k + 1
    omega
  | negSucc n =>
    have q := (Nat.length_repr_le_iff (n := n + 1) hk).mpr (by simpa using h)
    show ("-" ++ Nat.repr (n + 1)).length ≤ k + 1
    rw [String.length_append]
    show 1 + _ ≤ _
    omega
theorem log_small {i : Int} (h : i.natAbs < 10 ^ 31) : i.natAbs.log2 < 1920 := by
  by_cases z : i.natAbs = 0
  · rw [z]; decide
  · exact (Nat.log2_lt z).mpr (Nat.lt_trans h (by decide +kernel))
theorem sz_of {n : Nat} (h : n ≤ 100000) : n ≤ sizeLine := len_sz (by omega)
theorem mem7 {α : Type} {P : α → Prop} {l : List α} (h : ∀ x ∈ l, P x) {i : Int} (h0 : 0 ≤ i) (h1 : i < l.length) : ∃ x, L2.atI l i = some x ∧ P x := by
  obtain ⟨x, e, hx⟩ := atI_in h0 h1
  exact ⟨x, e, h x hx⟩
theorem asc_str {x : Str} (h : x.cps.toList.all (fun c => decide (c < 128)) = true) : KSb.Asc x := KSb.asc_of h
end NT

set_option Elab.async false
set_option linter.all false
set_option maxRecDepth 100000
set_option maxHeartbeats 4000000
namespace NT
open PySem PySem.Spec PyProof.Rows L2 PySem.W
/-! ### sorted texts -/
def sortStr (l : List Str) : List Str := l.mergeSort fun a b => !ltS b a
theorem leD_str (a b : Str) : leD (.str a) (.str b) = !ltS b a := by
  show PySem.W.dataLe false pD (.str a) (.str b) = _
  rw [PySem.W.dataLe_eq]
  show (!PySem.W.dataLt (.str b) (.str a)) = _
  rw [PySem.W.dataLt_str]
  rfl
theorem sortD_str (l : List Str) : sortD (l.map D.str) = (sortStr l).map D.str := by
  unfold sortD sortStr
  exact (List.map_mergeSort (r := fun a b : Str => !ltS b a) (s := leD) (f := D.str) (fun a _ b _ => (leD_str a b).symm)).symm
theorem toPs_str : ∀ l : List Str, toPs (l.map D.str) = some (l.map PyData.str)
  | [] => by simp [toPs]
  | x :: l => by simp [toPs, toP, toPs_str l]
theorem canSort_str (l : List Str) : canSort (l.map PyData.str) = true := by
  unfold canSort
  simp [noneOrTup, PyData.depth, PySem.W.alike]
theorem sorted_str (l : List Str) : gSorted [.lst (l.map D.str)] = some (.n (.lst ((sortStr l).map D.str))) := by
  simp [gSorted, sortL, toPs_str, canSort_str, sortD_str]
theorem sortStr_perm (l : List Str) : (sortStr l).Perm l := List.mergeSort_perm _ _
theorem ltS_tot (a b : Str) : ltS a b = true ∨ a = b ∨ ltS b a = true := by
  cases h1 : ltS a b with
  | true => exact .inl rfl
  | false => cases h2 : ltS b a with
    | true => exact .inr (.inr rfl)
    | false => exact .inr (.inl (ltS_or h1 h2))
theorem sortStr_ris {l : List Str} (h : l.Nodup) : RisS (sortStr l) := by
  have tr : ∀ a b c : Str, (!ltS b a) = true → (!ltS c b) = true → (!ltS c a) = true := fun a b c h1 h2 => by
    simp only [Bool.not_eq_true'] at h1 h2 ⊢
    cases e : ltS c a with
    | false => rfl
    | true =>
      rcases ltS_tot a b with q | rfl | q
      · rw [ltS_tr e q] at h2; cases h2
      · rw [e] at h2; cases h2
      · rw [q] at h1; cases h1
  have tot : ∀ a b : Str, ((!ltS b a) || (!ltS a b)) = true := fun a b => by
    cases e : ltS b a with
    | false => rfl
    | true =>
      cases e2 : ltS a b with
      | false => rfl
      | true => have := ltS_tr e e2; rw [ltS_irr] at this; cases this
  have p := List.pairwise_mergeSort (le := fun a b : Str => !ltS b a) tr tot l
  have nd : (sortStr l).Nodup := (sortStr_perm l).nodup_iff.mpr h
  refine List.Pairwise.imp_of_mem (fun {a b} ha hb q => ?_) (List.Pairwise.and p nd)
  obtain ⟨q1, q2⟩ := q
  rcases ltS_tot a b with z | z | z
  · exact z
  · exact absurd z q2
  · rw [z] at q1; cases q1
/-! ### some of the names -/
theorem seqIndex_nat {k n : Nat} (h : k < n) : seqIndex? (k : Int) n = some k := seqIndex_of (by omega) (by omega)
theorem er_map {α β : Type} (f : α → β) : ∀ (l : List α) (k : Nat), (l.map f).eraseIdx k = (l.eraseIdx k).map f
  | [], _ => rfl
  | _ :: _, 0 => rfl
  | x :: l, k + 1 => by simp [er_map f l k]
def someBody (m_law_take : Fn) : En → RS := sExpr (eMeth 5 gAppend (lCons (frz (eMeth 4 gPopAt (lCons (frz (mApp [0] m_law_take (lCons (frz (mCall gLen (aCons (eV 4) aNil))) lNil))) lNil))) lNil))
theorem pop_nat {l : List D} {k : Nat} (h : k < l.length) (h2 : l.length ≤ 1000) : gPopAt l [.int (k : Int)] = some (l[k], l.eraseIdx k) := by
  unfold gPopAt
  simp only
  rw [if_pos (decide_eq_true ⟨by omega, by omega⟩), seqIndex_nat h]
  simp [h]
theorem app_ok {l : List D} {d : D} (h : l.length ≤ 1000) : gAppend l [d] = some (.non, l ++ [d]) := by
  have sf : l.length < sizeLine := by rw [sizeLine_eq]; omega
  show (if l.length < sizeLine then some (D.non, l ++ [d]) else none) = _
  rw [if_pos sf]
theorem turn_gen {mt : Fn} {g h : List D → List D → Option (D × List D)} {S a b c y : Sl} {bg b1 l l' m m' : List D} {v w : D} {k : Int} (e1 : mt [.own (.lst bg), .fz (.int l.length)] = .ok (.v (.int k)) [.own (.lst b1)]) (hp : g l [.int k] = some (v, l')) (ha : h m [v] = some (w, m')) :
    sExpr (eMeth 5 h (lCons (frz (eMeth 4 g (lCons (frz (mApp [0] mt (lCons (frz (mCall gLen (aCons (eV 4) aNil))) lNil))) lNil))) lNil)) [.own (.lst bg), S, a, b, .own (.lst l), .own (.lst m), c, y] = .nx [.own (.lst b1), S, a, b, .own (.lst l'), .own (.lst m'), c, y] := by
  simp [gLen, e1, hp, ha]
theorem some_turn {mt : Fn} {S a b c : Sl} {bg b1 : List D} {left found : List Str} {d : D} {k : Nat} (hk : k < left.length) (h2 : left.length ≤ 100) (h3 : found.length ≤ 100) (e1 : mt [.own (.lst bg), .fz (.int left.length)] = .ok (.v (.int (k : Int))) [.own (.lst b1)]) :
    someBody mt [.own (.lst bg), S, a, b, .own (.lst (left.map D.str)), .own (.lst (found.map D.str)), c, .fz d] = .nx [.own (.lst b1), S, a, b, .own (.lst ((left.eraseIdx k).map D.str)), .own (.lst ((found ++ [left[k]]).map D.str)), c, .fz d] := by
  have hk2 : k < (left.map D.str).length := by rw [List.length_map]; exact hk
  have hp := pop_nat hk2 (by rw [List.length_map]; omega)
  have ha := app_ok (l := found.map D.str) (d := (left.map D.str)[k]) (by rw [List.length_map]; omega)
  have q := turn_gen (S := S) (a := a) (b := b) (c := c) (y := .fz d) (bg := bg) (b1 := b1) (k := (k : Int)) (mt := mt) (by rw [List.length_map]; exact e1) hp ha
  rw [er_map, List.getElem_map] at q
  rw [List.map_append]
  exact q
theorem some_loop (S a b c : Sl) : ∀ (ds : List D) (bg : List D) (left found : List Str) (x7 : Sl), BagOk bg → ds.length ≤ left.length → left.length ≤ 100 → found.length + ds.length ≤ 100 →
    ∃ (bg' : List D) (left' found' : List Str) (x7' : Sl), forL (gN 7) (someBody m__law_take) ds [.own (.lst bg), S, a, b, .own (.lst (left.map D.str)), .own (.lst (found.map D.str)), c, x7] = .nx [.own (.lst bg'), S, a, b, .own (.lst (left'.map D.str)), .own (.lst (found'.map D.str)), c, x7'] ∧
      BagOk bg' ∧ found'.length = found.length + ds.length ∧ (left' ++ found').Perm (left ++ found) := by
  intro ds
  induction ds with
  | nil => exact fun bg left found x7 hb _ _ _ => ⟨bg, left, found, x7, rfl, hb, rfl, List.Perm.refl _⟩
  | cons d ds ih =>
    intro bg left found x7 hb h1 h2 h3
    simp only [List.length_cons] at h1 h3
    obtain ⟨y, b1, e1, hb1, y0, y1⟩ := take_ok hb (n := left.length) (by omega) (by omega)
    obtain ⟨k, rfl⟩ : ∃ k : Nat, y = (k : Int) := ⟨y.toNat, by omega⟩
    have hk : k < left.length := by omega
    have hk2 : k < (left.map D.str).length := by rw [List.length_map]; exact hk
    obtain ⟨bg', left', found', x7', e, q1, q2, q3⟩ := ih b1 (left.eraseIdx k) (found ++ [left[k]]) (.fz d) hb1 (by rw [List.length_eraseIdx, if_pos hk]; omega) (by rw [List.length_eraseIdx, if_pos hk]; omega) (by simp; omega)
    refine ⟨bg', left', found', x7', ?_, q1, by rw [q2]; simp; omega, q3.trans ?_⟩
    · unfold forL
      have e2 := some_turn (S := S) (a := a) (b := b) (c := c) (d := d) hk h2 (by omega) e1 (found := found)
      simp only [gN_eq]
      rw [if_pos (by simp)]
      show (match someBody m__law_take [.own (.lst bg), S, a, b, .own (.lst (left.map D.str)), .own (.lst (found.map D.str)), c, .fz d] with
        | .nx r2 => forL (gN 7) (someBody m__law_take) ds r2
        | .ct r2 => forL (gN 7) (someBody m__law_take) ds r2
        | .bk r2 => .nx r2
        | .rt p r2 => .rt p r2
        | .ex x r2 => .ex x r2
        | .st => .st) = _
      rw [e2]
      exact e
    · have p : (left[k] :: left.eraseIdx k).Perm left := L2.erase_perm left k _ (List.getElem?_eq_getElem hk)
      have p2 : (left.eraseIdx k ++ (found ++ [left[k]])).Perm (left[k] :: (left.eraseIdx k ++ found)) := by
        rw [← List.append_assoc]
        exact List.perm_append_singleton _ _
      exact p2.trans (List.Perm.append_right found p)
def m__law_some : Fn := fnOf 4 1 (b__law_some m__law_take)
def m__law_some_2 : Fn := fnOf 4 2 (b__law_some m__law_take)
theorem some_core {ss : List Str} {S : Sl} (hS : S = .fz (.lst (ss.map D.str)) ∨ S = .own (.lst (ss.map D.str))) (hl : ss.length ≤ 100) {bg : List D} (hb : BagOk bg) {least most : Int} (h0 : 0 ≤ least) (h1 : least ≤ most) (h2 : most ≤ 100) :
    ∃ (bg' : List D) (os : List Str) (r' : En), b__law_some m__law_take [.own (.lst bg), S, .fz (.int least), .fz (.int most), .un, .un, .un, .un] = .rt (.v (.tup ((sortStr os).map D.str))) (.own (.lst bg') :: S :: r') ∧ BagOk bg' ∧
      (∃ rest : List Str, (rest ++ os).Perm ss) ∧ (least ≤ ss.length → least ≤ os.length) ∧ os.length ≤ most := by
  obtain ⟨y, b1, e1, hb1, y0, y1⟩ := take_ok hb (n := most - least + 1) (by omega) (by omega)
  obtain ⟨M, hM, hM0, hM1⟩ : ∃ M : Int, gMin2 [.int ss.length, .int (least + y)] = some (.v (.int M)) ∧ 0 ≤ M ∧ M ≤ ss.length ∧ M ≤ least + y ∧ (M = ss.length ∨ M = least + y) := by
    unfold gMin2
    by_cases c : least + y < ss.length
    · exact ⟨least + y, by simp [c], by omega, by omega, by omega, .inr rfl⟩
    · exact ⟨ss.length, by simp [c], by omega, by omega, by omega, .inl rfl⟩
  obtain ⟨bg', left', found', x7', e, q1, q2, q3⟩ := some_loop S (.fz (.int least)) (.fz (.int most)) (.fz (.int M)) ((List.range M.toNat).map fun i => .int (0 + (i : Nat))) b1 ss [] .un hb1 (by simp; omega) hl (by simp; omega)
  simp only [List.length_map, List.length_range, List.length_nil, Nat.zero_add] at q2
  refine ⟨bg', found', [.fz (.int least), .fz (.int most), .own (.lst (left'.map D.str)), .own (.lst (found'.map D.str)), .fz (.int M), x7'], ?_, q1, ⟨left', by simpa using q3⟩, fun h => by omega, by omega⟩
  · have M1 : (-4611686018427387904 : Int) ≤ M := by omega
    have M2 : M < 4611686018427387904 := by omega
    have s0 : (0 : Nat) ≤ sizeLine := Nat.zero_le _
    unfold someBody at e
    simp only [Int.zero_add, List.map_nil] at e
    rcases hS with rfl | rfl
    · simp [b__law_some, gList, gLen, gAdd, gSub, gInt0, e1, hM, s0, rgD, M1, M2, e, sorted_str, gTuple]
    · simp [b__law_some, gList, gLen, gAdd, gSub, gInt0, e1, hM, s0, rgD, M1, M2, e, sorted_str, gTuple]
theorem some_ok {ss : List Str} (hl : ss.length ≤ 100) {bg : List D} (hb : BagOk bg) {least most : Int} (h0 : 0 ≤ least) (h1 : least ≤ most) (h2 : most ≤ 100) :
    ∃ (bg' : List D) (os : List Str), m__law_some [.own (.lst bg), .fz (.lst (ss.map D.str)), .fz (.int least), .fz (.int most)] = .ok (.v (.tup ((sortStr os).map D.str))) [.own (.lst bg')] ∧ BagOk bg' ∧
      (∃ rest : List Str, (rest ++ os).Perm ss) ∧ (least ≤ ss.length → least ≤ os.length) ∧ os.length ≤ most := by
  obtain ⟨bg', os, r', e, q⟩ := some_core (.inl rfl) hl hb h0 h1 h2
  exact ⟨bg', os, by simp [m__law_some, List.replicate, e], q⟩
theorem some_ok2 {ss : List Str} (hl : ss.length ≤ 100) {bg : List D} (hb : BagOk bg) {least most : Int} (h0 : 0 ≤ least) (h1 : least ≤ most) (h2 : most ≤ 100) :
    ∃ (bg' : List D) (os : List Str), m__law_some_2 [.own (.lst bg), .own (.lst (ss.map D.str)), .fz (.int least), .fz (.int most)] = .ok (.v (.tup ((sortStr os).map D.str))) [.own (.lst bg'), .own (.lst (ss.map D.str))] ∧ BagOk bg' ∧
      (∃ rest : List Str, (rest ++ os).Perm ss) ∧ (least ≤ ss.length → least ≤ os.length) ∧ os.length ≤ most := by
  obtain ⟨bg', os, r', e, q⟩ := some_core (.inr rfl) hl hb h0 h1 h2
  exact ⟨bg', os, by simp [m__law_some_2, List.replicate, e], q⟩
end NT

set_option Elab.async false
set_option linter.all false
set_option maxRecDepth 100000
set_option maxHeartbeats 4000000
namespace NT
open PySem PySem.Spec PyProof.Rows L2 PySem.W
theorem forL_nx {g : D → M Unit} {b : En → RS} {I : Nat → En → Prop} : ∀ (ds : List D) (i : Nat) (r : En), I i r → (∀ d ∈ ds, ∀ j r, j < i + ds.length → I j r → ∃ r1 r2, g d r = .ok () r1 ∧ (b r1 = .nx r2 ∨ b r1 = .ct r2) ∧ I (j + 1) r2) → ∃ r', forL g b ds r = .nx r' ∧ I (i + ds.length) r'
  | [], i, r, h, _ => ⟨r, rfl, h⟩
  | d :: ds, i, r, h, t => by
    obtain ⟨r1, r2, e1, e2, h2⟩ := t d List.mem_cons_self i r (by rw [List.length_cons]; omega) h
    obtain ⟨r', e, h'⟩ := forL_nx ds (i + 1) r2 h2 fun d' hd j r' hj => t d' (List.mem_cons_of_mem _ hd) j r' (by rw [List.length_cons]; omega)
    refine ⟨r', ?_, by rw [List.length_cons, show i + (ds.length + 1) = i + 1 + ds.length by omega]; exact h'⟩
    rw [forL_cons, e1]
    simp only [R.s_ok, turnK_eq]
    rcases e2 with e2 | e2 <;> rw [e2] <;> exact e
/-- an item of a web -/
structure It4 where
  nm : Str
  kd : Str
  os : List Str
  ss : List Str
def itD (i : It4) : D := .tup [.str i.nm, .str i.kd, .tup (i.os.map D.str), .tup (i.ss.map D.str)]
def itP (i : It4) : PyData := .tuple [.str i.nm, .str i.kd, .tuple (i.os.map PyData.str), .tuple (i.ss.map PyData.str)]
theorem toP_it (i : It4) : toP (itD i) = some (itP i) := by simp [itD, itP, toP, toPs, toPs_str]
theorem toPs_it : ∀ l : List It4, toPs (l.map itD) = some (l.map itP)
  | [] => by simp [toPs]
  | x :: l => by simp [toPs, toP_it, toPs_it l]
theorem alike_strs : ∀ a b : List Str, PySem.W.alikeAll (a.map PyData.str) (b.map PyData.str) = true
  | [], _ => by simp [PySem.W.alikeAll]
  | _ :: _, [] => by simp [PySem.W.alikeAll]
  | x :: a, y :: b => by simp [PySem.W.alikeAll, PySem.W.alike, alike_strs a b]
theorem depth_strs : ∀ a : List Str, PyData.depthAll (a.map PyData.str) = 0
  | [] => rfl
  | x :: a => by simp [PyData.depthAll, PyData.depth, depth_strs a]
theorem canSort_it (l : List It4) : canSort (l.map itP) = true := by
  unfold canSort
  simp [itP, nonEmptyTup, PyData.depth, PyData.depthAll, depth_strs, PySem.W.alike, PySem.W.alikeAll, alike_strs]
theorem sorted_it (l : List It4) : ∃ m : List It4, m.Perm l ∧ gSorted [.lst (l.map itD)] = some (.n (.lst (m.map itD))) := by
  have e : sortD (l.map itD) = (l.mergeSort fun a b => leD (itD a) (itD b)).map itD := (List.map_mergeSort (r := fun a b : It4 => leD (itD a) (itD b)) (s := leD) (f := itD) (fun a _ b _ => rfl)).symm
  exact ⟨l.mergeSort fun a b => leD (itD a) (itD b), List.mergeSort_perm _ _, by simp [gSorted, sortL, toPs_it, canSort_it, e]⟩
/-- small texts -/
def smS (x : Str) : Bool := decide (x.length ≤ 8) && x.cps.toList.all fun c => decide (c < 128)
def smL (l : List Str) : Prop := l.length ≤ 20 ∧ ∀ x ∈ l, smS x = true
structure It4.Ok (i : It4) : Prop where
  n : smS i.nm = true
  k : smS i.kd = true
  o : smL i.os
  s : smL i.ss
theorem pd_str {t n : Nat} {x : Str} (h : smS x = true) : Pd t n (.str x) := by
  unfold smS at h
  rw [Bool.and_eq_true] at h
  have := of_decide_eq_true h.1
  exact .str x (by have := pw_1 t; omega) (KSb.asc_of h.2)
theorem pd_strs {t n : Nat} {l : List Str} (h : smL l) : Pd t (n + 1) (.tup (l.map D.str)) := .tup _ (by rw [List.length_map]; have := h.1; omega) fun d hd => by
  obtain ⟨x, hx, rfl⟩ := List.mem_map.mp hd
  exact pd_str (h.2 x hx)
theorem pd_it {t : Nat} {i : It4} (h : i.Ok) : Pd t 2 (itD i) := .tup _ (by simp; omega) fun d hd => by
  simp only [List.mem_cons, List.not_mem_nil, or_false] at hd
  rcases hd with rfl | rfl | rfl | rfl
  · exact pd_str h.n
  · exact pd_str h.k
  · exact pd_strs h.o
  · exact pd_strs h.s
theorem smL_sub {l m : List Str} (h : smL l) (hm : ∃ r : List Str, (r ++ m).Perm l) : smL (sortStr m) := by
  obtain ⟨r, p⟩ := hm
  have e := p.length_eq
  rw [List.length_append] at e
  exact ⟨by rw [(sortStr_perm m).length_eq]; have := h.1; omega, fun x hx => h.2 x (p.mem_iff.mp (List.mem_append_right r ((sortStr_perm m).mem_iff.mp hx)))⟩
theorem web_t1 {mt ms : Fn} {h : List D → List D → Option (D × List D)} {nd s6 s7 s8 s9 : Sl} {bg b1 b2 b3 found f' ps o1 o2 : List D} {at' : Int} {x w : D} {y : Int} (e1 : mt [.own (.lst bg), .fz (.int 2)] = .ok (.v (.int y)) [.own (.lst b1)])
    (e2 : ms [.own (.lst b1), .fz (.lst [.str "eu", .str "pro"]), .fz (.int 0), .fz (.int y)] = .ok (.v (.tup o1)) [.own (.lst b2)]) (e3 : ms [.own (.lst b2), .fz (.lst (cutD ps none (some at'))), .fz (.int 0), .fz (.int 1)] = .ok (.v (.tup o2)) [.own (.lst b3)])
    (ha : h found [.tup [x, .str "part", .tup o2, .tup o1]] = some (w, f')) :
    (sSeq (sSet 6 (mApp [0] ms (lCons (frz (eLst (lCons (frz (eC (.str "eu"))) (lCons (frz (eC (.str "pro"))) lNil)))) (lCons (frz (eC (.int 0))) (lCons (frz (mApp [0] mt (lCons (frz (eC (.int 2))) lNil))) lNil)))))
    (sExpr (eMeth 2 h (lCons (frz (eTup (lCons (frz (eV 5)) (lCons (frz (eC (.str "part"))) (lCons (frz (mApp [0] ms (lCons (frz (mSl (eV 3) oNone (oSome (eV 4)))) (lCons (frz (eC (.int 0))) (lCons (frz (eC (.int 1))) lNil))))) (lCons (frz (eV 6)) lNil)))))) lNil)))) [.own (.lst bg), nd, .own (.lst found), .fz (.lst ps), .fz (.int at'), .fz x, s6, s7, s8, s9]
    = .nx [.own (.lst b3), nd, .own (.lst f'), .fz (.lst ps), .fz (.int at'), .fz x, .fz (.tup o1), s7, s8, s9] := by
  have z2 := sz2
  have z4 : (4 : Nat) ≤ sizeLine := sz_of (by decide)
  simp [e1, e2, gSl, e3, z2, z4, ha]
theorem web_t2 {mt ms : Fn} {h : List D → List D → Option (D × List D)} {nd s4 s6 s7 s8 s9 : Sl} {bg b1 b2 b3 found f' ps o1 o2 : List D} {x w : D} {y : Int} (e1 : ms [.own (.lst bg), .fz (.lst ps), .fz (.int 0), .fz (.int 2)] = .ok (.v (.tup o1)) [.own (.lst b1)])
    (e2 : mt [.own (.lst b1), .fz (.int 2)] = .ok (.v (.int y)) [.own (.lst b2)]) (e3 : ms [.own (.lst b2), .fz (.lst [.str "eu", .str "pro"]), .fz (.int 0), .fz (.int y)] = .ok (.v (.tup o2)) [.own (.lst b3)])
    (ha : h found [.tup [x, .str "trial", .tup o1, .tup o2]] = some (w, f')) :
    (sExpr (eMeth 2 h (lCons (frz (eTup (lCons (frz (eV 5)) (lCons (frz (eC (.str "trial"))) (lCons (frz (mApp [0] ms (lCons (frz (eV 3)) (lCons (frz (eC (.int 0))) (lCons (frz (eC (.int 2))) lNil))))) (lCons (frz (mApp [0] ms (lCons (frz (eLst (lCons (frz (eC (.str "eu"))) (lCons (frz (eC (.str "pro"))) lNil)))) (lCons (frz (eC (.int 0))) (lCons (frz (mApp [0] mt (lCons (frz (eC (.int 2))) lNil))) lNil))))) lNil)))))) lNil))) [.own (.lst bg), nd, .own (.lst found), .fz (.lst ps), s4, .fz x, s6, s7, s8, s9]
    = .nx [.own (.lst b3), nd, .own (.lst f'), .fz (.lst ps), s4, .fz x, s6, s7, s8, s9] := by
  have z2 := sz2
  have z4 : (4 : Nat) ≤ sizeLine := sz_of (by decide)
  simp [e1, e2, e3, z2, z4, ha]
theorem web_t3 {mt ms ms2 mo : Fn} {h : List D → List D → Option (D × List D)} {nd s3 s4 s6 s7 s9 : Sl} {bg b1 b2 b3 b4 found f' un u' o1 o2 : List D} {x w w2 kd : D} {y : Int} (e1 : ms2 [.own (.lst bg), .own (.lst un), .fz (.int 1), .fz (.int 3)] = .ok (.v (.tup o1)) [.own (.lst b1), .own (.lst un)])
    (e2 : mo [.own (.lst b1), .fz (.lst [.str "all", .str "any"])] = .ok (.v kd) [.own (.lst b2)])
    (e3 : mt [.own (.lst b2), .fz (.int 2)] = .ok (.v (.int y)) [.own (.lst b3)]) (e4 : ms [.own (.lst b3), .fz (.lst [.str "eu", .str "pro"]), .fz (.int 0), .fz (.int y)] = .ok (.v (.tup o2)) [.own (.lst b4)])
    (ha : h found [.tup [x, kd, .tup o1, .tup o2]] = some (w, f')) (hb : h un [x] = some (w2, u')) :
    (sSeq (sSet 9 (mApp [0, 8] ms2 (lCons (frz (eC (.int 1))) (lCons (frz (eC (.int 3))) lNil))))
    (sSeq (sExpr (eMeth 2 h (lCons (frz (eTup (lCons (frz (eV 5)) (lCons (frz (mApp [0] mo (lCons (frz (eLst (lCons (frz (eC (.str "all"))) (lCons (frz (eC (.str "any"))) lNil)))) lNil))) (lCons (frz (eV 9)) (lCons (frz (mApp [0] ms (lCons (frz (eLst (lCons (frz (eC (.str "eu"))) (lCons (frz (eC (.str "pro"))) lNil)))) (lCons (frz (eC (.int 0))) (lCons (frz (mApp [0] mt (lCons (frz (eC (.int 2))) lNil))) lNil))))) lNil)))))) lNil)))
    (sExpr (eMeth 8 h (lCons (frz (eV 5)) lNil))))) [.own (.lst bg), nd, .own (.lst found), s3, s4, .fz x, s6, s7, .own (.lst un), s9]
    = .nx [.own (.lst b4), nd, .own (.lst f'), s3, s4, .fz x, s6, s7, .own (.lst u'), .fz (.tup o1)] := by
  have z2 := sz2
  have z4 : (4 : Nat) ≤ sizeLine := sz_of (by decide)
  simp [e1, e2, e3, e4, z2, z4, ha, hb]
def wb1 (mt ms : Fn) : En → RS := (sSeq (sSet 6 (mApp [0] ms (lCons (frz (eLst (lCons (frz (eC (.str "eu"))) (lCons (frz (eC (.str "pro"))) lNil)))) (lCons (frz (eC (.int 0))) (lCons (frz (mApp [0] mt (lCons (frz (eC (.int 2))) lNil))) lNil)))))
    (sExpr (eMeth 2 gAppend (lCons (frz (eTup (lCons (frz (eV 5)) (lCons (frz (eC (.str "part"))) (lCons (frz (mApp [0] ms (lCons (frz (mSl (eV 3) oNone (oSome (eV 4)))) (lCons (frz (eC (.int 0))) (lCons (frz (eC (.int 1))) lNil))))) (lCons (frz (eV 6)) lNil)))))) lNil))))
def wb2 (mt ms : Fn) : En → RS := (sExpr (eMeth 2 gAppend (lCons (frz (eTup (lCons (frz (eV 5)) (lCons (frz (eC (.str "trial"))) (lCons (frz (mApp [0] ms (lCons (frz (eV 3)) (lCons (frz (eC (.int 0))) (lCons (frz (eC (.int 2))) lNil))))) (lCons (frz (mApp [0] ms (lCons (frz (eLst (lCons (frz (eC (.str "eu"))) (lCons (frz (eC (.str "pro"))) lNil)))) (lCons (frz (eC (.int 0))) (lCons (frz (mApp [0] mt (lCons (frz (eC (.int 2))) lNil))) lNil))))) lNil)))))) lNil)))
def wb3 (mt ms ms2 mo : Fn) : En → RS := (sSeq (sSet 9 (mApp [0, 8] ms2 (lCons (frz (eC (.int 1))) (lCons (frz (eC (.int 3))) lNil))))
    (sSeq (sExpr (eMeth 2 gAppend (lCons (frz (eTup (lCons (frz (eV 5)) (lCons (frz (mApp [0] mo (lCons (frz (eLst (lCons (frz (eC (.str "all"))) (lCons (frz (eC (.str "any"))) lNil)))) lNil))) (lCons (frz (eV 9)) (lCons (frz (mApp [0] ms (lCons (frz (eLst (lCons (frz (eC (.str "eu"))) (lCons (frz (eC (.str "pro"))) lNil)))) (lCons (frz (eC (.int 0))) (lCons (frz (mApp [0] mt (lCons (frz (eC (.int 2))) lNil))) lNil))))) lNil)))))) lNil)))
    (sExpr (eMeth 8 gAppend (lCons (frz (eV 5)) lNil)))))
def m__law_web : Fn := fnOf 8 1 (b__law_web m__law_take m__law_some m__law_some_2 m__law_of)
def eupro : List Str := ["eu", "pro"]
theorem sm_part : smS "part" = true := by decide +kernel
theorem sm_trial : smS "trial" = true := by decide +kernel
theorem sm_eupro : smL eupro := ⟨by decide, by decide +kernel⟩
/-- what stands in a web's list behind i turns -/
def WebI (nd : Sl) (n0 : Nat) (tail : List Sl → Prop) (i : Nat) (r : En) : Prop := ∃ (bg : List D) (its : List It4) (t : List Sl), r = .own (.lst bg) :: nd :: .own (.lst (its.map itD)) :: t ∧ BagOk bg ∧ its.length = n0 + i ∧ (∀ j ∈ its, j.Ok) ∧ tail t
theorem app_it {its : List It4} {i : It4} {d : D} (hd : d = itD i) (h : its.length ≤ 100) : gAppend (its.map itD) [d] = some (.non, (its ++ [i]).map itD) := by
  rw [app_ok (by rw [List.length_map]; omega), hd, List.map_append]; rfl
theorem ok_app {its : List It4} {i : It4} (h : ∀ j ∈ its, j.Ok) (hi : i.Ok) : ∀ j ∈ its ++ [i], j.Ok := fun j hj => by
  rcases List.mem_append.mp hj with q | q
  · exact h j q
  · rw [List.mem_singleton.mp q]; exact hi
theorem enum_mem : ∀ (l : List D) (n : Nat) (d : D), d ∈ enumD n l → ∃ (k : Nat) (x : D), d = .tup [.int (k : Int), x] ∧ x ∈ l
  | [], _, _, h => by simp [enumD] at h
  | x :: l, n, d, h => by
    simp only [enumD, List.mem_cons] at h
    rcases h with rfl | h
    · exact ⟨n, x, rfl, List.mem_cons_self⟩
    · obtain ⟨k, y, e, hy⟩ := enum_mem l (n + 1) d h
      exact ⟨k, y, e, List.mem_cons_of_mem _ hy⟩
theorem web_l1 {nd : Sl} {ps : List Str} (hp : smL ps) (ds : List D) (hds : ds = enumD 0 (ps.map D.str)) {bg : List D} (hb : BagOk bg) : ∃ r', forL (gT 2 (gsCons (gN 4) (gsCons (gN 5) gsNil))) (wb1 m__law_take m__law_some) ds [.own (.lst bg), nd, .own (.lst []), .fz (.lst (ps.map D.str)), .un, .un, .un, .un, .un, .un] = .nx r' ∧ WebI nd 0 (fun t => ∃ s4 s5 s6, t = [.fz (.lst (ps.map D.str)), s4, s5, s6, .un, .un, .un]) (0 + ds.length) r' := by
  have len : ds.length = ps.length := by rw [hds, enumD_len, List.length_map]
  have hI := hp.1
  refine (forL_nx (I := fun i r => WebI nd 0 (fun t => ∃ s4 s5 s6, t = [.fz (.lst (ps.map D.str)), s4, s5, s6, .un, .un, .un]) i r) ds 0 _ ⟨bg, [], _, rfl, hb, rfl, fun j hj => (by simp at hj), _, _, _, rfl⟩ ?_)
  rintro d hd j r hj ⟨bg, its, t, rfl, hb, hl, hi, s4, s5, s6, rfl⟩
  rw [hds] at hd
  obtain ⟨k, x, rfl, hx⟩ := enum_mem _ _ _ hd
  obtain ⟨x, hx2, rfl⟩ := List.mem_map.mp hx
  obtain ⟨y, b1, e1, hb1, y0, y1⟩ := take_ok hb (n := 2) (by decide) (by decide)
  obtain ⟨b2, o1, e2, hb2, p2, _, _⟩ := some_ok (ss := eupro) (by decide) hb1 (least := 0) (most := y) (by decide) y0 (by omega)
  obtain ⟨b3, o2, e3, hb3, p3, _, _⟩ := some_ok (ss := ps.take k) (by rw [List.length_take]; omega) hb2 (least := 0) (most := 1) (by decide) (by decide) (by decide)
  have ok : It4.Ok ⟨x, "part", sortStr o2, sortStr o1⟩ := ⟨hp.2 x hx2, sm_part, smL_sub ⟨by rw [List.length_take]; omega, fun z hz => hp.2 z (List.mem_of_mem_take hz)⟩ p3, smL_sub sm_eupro p2⟩
  have e3' : m__law_some [.own (.lst b2), .fz (.lst (cutD (ps.map D.str) none (some (k : Int)))), .fz (.int 0), .fz (.int 1)] = .ok (.v (.tup ((sortStr o2).map D.str))) [.own (.lst b3)] := by
    rw [cutD_to, ← List.map_take]; exact e3
  refine ⟨[.own (.lst bg), nd, .own (.lst (its.map itD)), .fz (.lst (ps.map D.str)), .fz (.int (k : Int)), .fz (.str x), s6, .un, .un, .un], _, rfl, .inl (web_t1 e1 e2 e3' (app_it rfl (by omega))), b3, _, _, rfl, hb3, by rw [List.length_append, hl]; rfl, ok_app hi ok, _, _, _, rfl⟩
theorem web_l2 {nd s4 s5 s6 : Sl} {ps ts : List Str} (hp : smL ps) (ht : smL ts) {n0 : Nat} (hn : n0 ≤ 20) {bg : List D} {its : List It4} (hb : BagOk bg) (hl : its.length = n0) (hi : ∀ j ∈ its, j.Ok) :
    ∃ r', forL (gN 5) (wb2 m__law_take m__law_some) (ts.map D.str) [.own (.lst bg), nd, .own (.lst (its.map itD)), .fz (.lst (ps.map D.str)), s4, s5, s6, .fz (.lst (ts.map D.str)), .un, .un] = .nx r' ∧ WebI nd n0 (fun t => ∃ s5, t = [.fz (.lst (ps.map D.str)), s4, s5, s6, .fz (.lst (ts.map D.str)), .un, .un]) (0 + (ts.map D.str).length) r' := by
  have hI := hp.1
  have hT := ht.1
  refine (forL_nx (I := fun i r => WebI nd n0 (fun t => ∃ s5, t = [.fz (.lst (ps.map D.str)), s4, s5, s6, .fz (.lst (ts.map D.str)), .un, .un]) i r) (ts.map D.str) 0 _ ⟨bg, its, _, rfl, hb, hl, hi, _, rfl⟩ ?_)
  rintro d hd j r hj ⟨bg, its, t, rfl, hb, hl, hi, s5, rfl⟩
  rw [List.length_map] at hj
  obtain ⟨x, hx, rfl⟩ := List.mem_map.mp hd
  obtain ⟨b1, o1, e1, hb1, p1, _, _⟩ := some_ok (ss := ps) (by omega) hb (least := 0) (most := 2) (by decide) (by decide) (by decide)
  obtain ⟨y, b2, e2, hb2, y0, y1⟩ := take_ok hb1 (n := 2) (by decide) (by decide)
  obtain ⟨b3, o2, e3, hb3, p2, _, _⟩ := some_ok (ss := eupro) (by decide) hb2 (least := 0) (most := y) (by decide) y0 (by omega)
  have ok : It4.Ok ⟨x, "trial", sortStr o1, sortStr o2⟩ := ⟨ht.2 x hx, sm_trial, smL_sub hp p1, smL_sub sm_eupro p2⟩
  refine ⟨[.own (.lst bg), nd, .own (.lst (its.map itD)), .fz (.lst (ps.map D.str)), s4, .fz (.str x), s6, .fz (.lst (ts.map D.str)), .un, .un], _, rfl, .inl (web_t2 e1 e2 e3 (app_it rfl (by omega))), b3, _, _, rfl, hb3, by rw [List.length_append, hl]; rfl, ok_app hi ok, _, rfl⟩
theorem web_l3 {nd s3 s4 s5 s6 s7 : Sl} {un ns : List Str} (hu : smL un) (hn : smL ns) (hun : un.length + ns.length ≤ 20) {n0 : Nat} (h0 : n0 ≤ 20) {bg : List D} {its : List It4} (hb : BagOk bg) (hl : its.length = n0) (hi : ∀ j ∈ its, j.Ok) :
    ∃ r', forL (gN 5) (wb3 m__law_take m__law_some m__law_some_2 m__law_of) (ns.map D.str) [.own (.lst bg), nd, .own (.lst (its.map itD)), s3, s4, s5, s6, s7, .own (.lst (un.map D.str)), .un] = .nx r' ∧ WebI nd n0 (fun _ => True) (0 + (ns.map D.str).length) r' := by
  have hN := hn.1
  obtain ⟨r', e, h⟩ := (forL_nx (g := gN 5) (b := wb3 m__law_take m__law_some m__law_some_2 m__law_of) (I := fun i r => WebI nd n0 (fun t => ∃ s5 s9 un', t = [s3, s4, s5, s6, s7, .own (.lst (un'.map D.str)), s9] ∧ un'.length = un.length + i ∧ ∀ z ∈ un', smS z = true) i r) (ns.map D.str) 0 [.own (.lst bg), nd, .own (.lst (its.map itD)), s3, s4, s5, s6, s7, .own (.lst (un.map D.str)), .un] ⟨bg, its, _, rfl, hb, hl, hi, s5, .un, un, rfl, rfl, hu.2⟩ (by
    rintro d hd j r hj ⟨bg, its, t, rfl, hb, hl, hi, s5, s9, un', rfl, hl2, hu2⟩
    rw [List.length_map] at hj
    obtain ⟨x, hx, rfl⟩ := List.mem_map.mp hd
    have hu' : smL un' := ⟨by omega, hu2⟩
    obtain ⟨b1, o1, e1, hb1, p1, _, _⟩ := some_ok2 (ss := un') (by omega) hb (least := 1) (most := 3) (by decide) (by decide) (by decide)
    obtain ⟨kd, b2, e2, hb2, hk⟩ := of_ok hb1 (ds := [.str "all", .str "any"]) (by simp) (by decide)
    obtain ⟨y, b3, e3, hb3, y0, y1⟩ := take_ok hb2 (n := 2) (by decide) (by decide)
    obtain ⟨b4, o2, e4, hb4, p2, _, _⟩ := some_ok (ss := eupro) (by decide) hb3 (least := 0) (most := y) (by decide) y0 (by omega)
    obtain ⟨ks, rfl, hks⟩ : ∃ ks : Str, kd = .str ks ∧ smS ks = true := by
      simp only [List.mem_cons, List.not_mem_nil, or_false] at hk
      rcases hk with rfl | rfl
      · exact ⟨_, rfl, by decide +kernel⟩
      · exact ⟨_, rfl, by decide +kernel⟩
    have ok : It4.Ok ⟨x, ks, sortStr o1, sortStr o2⟩ := ⟨hn.2 x hx, hks, smL_sub hu' p1, smL_sub sm_eupro p2⟩
    have hb' : gAppend (un'.map D.str) [.str x] = some (.non, (un' ++ [x]).map D.str) := by rw [app_ok (by rw [List.length_map]; omega), List.map_append]; rfl
    refine ⟨[.own (.lst bg), nd, .own (.lst (its.map itD)), s3, s4, .fz (.str x), s6, s7, .own (.lst (un'.map D.str)), s9], _, rfl, .inl (web_t3 e1 e2 e3 e4 (app_it rfl (by omega)) hb'), b4, _, _, rfl, hb4, by rw [List.length_append, hl]; rfl, ok_app hi ok, _, _, un' ++ [x], rfl, by simp; omega, fun z hz => ?_⟩
    rcases List.mem_append.mp hz with q | q
    · exact hu2 z q
    · rw [List.mem_singleton.mp q]; exact hn.2 x hx))
  exact ⟨r', e, h.elim fun bg ⟨its, t, h1, h2, h3, h4, h5⟩ => ⟨bg, its, t, h1, h2, h3, h4, trivial⟩⟩
end NT

set_option Elab.async false
set_option linter.all false
set_option maxRecDepth 100000
set_option maxHeartbeats 4000000
namespace NT
open PySem PySem.Spec PyProof.Rows L2 PySem.W
theorem web_run {mt ms ms2 mo : Fn} {nd s4 s5 s6 s5' : Sl} {bg b1 b2 b3 b4 b5 b6 ps ts ns f1 f2 f3 f4 : List D} {t : En} {n y1 y2 y3 : Int} (hn : nd = .fz (.int n))
    (e1 : mt [.own (.lst bg), .fz (.int 4)] = .ok (.v (.int y1)) [.own (.lst b1)]) (hs1 : gSl (.lst [.str "pa", .str "pb", .str "pc"]) none (some y1) = some (.n (.lst ps)))
    (l1 : forL (gT 2 (gsCons (gN 4) (gsCons (gN 5) gsNil))) (wb1 mt ms) (enumD 0 ps) [.own (.lst b1), nd, .own (.lst []), .fz (.lst ps), .un, .un, .un, .un, .un, .un] = .nx [.own (.lst b2), nd, .own (.lst f1), .fz (.lst ps), s4, s5, s6, .un, .un, .un])
    (e2 : mt [.own (.lst b2), .fz (.int 4)] = .ok (.v (.int y2)) [.own (.lst b3)]) (hs2 : gSl (.lst [.str "ta", .str "tb", .str "tc", .str "td"]) none (some (1 + y2)) = some (.n (.lst ts)))
    (l2 : forL (gN 5) (wb2 mt ms) ts [.own (.lst b3), nd, .own (.lst f1), .fz (.lst ps), s4, s5, s6, .fz (.lst ts), .un, .un] = .nx [.own (.lst b4), nd, .own (.lst f2), .fz (.lst ps), s4, s5', s6, .fz (.lst ts), .un, .un])
    (e3 : mt [.own (.lst b4), .fz (.int n)] = .ok (.v (.int y3)) [.own (.lst b5)]) (hs3 : gSl (.lst [.str "na", .str "nb", .str "nc", .str "nd", .str "ne"]) none (some (1 + y3)) = some (.n (.lst ns)))
    (l3 : forL (gN 5) (wb3 mt ms ms2 mo) ns [.own (.lst b5), nd, .own (.lst f2), .fz (.lst ps), s4, s5', s6, .fz (.lst ts), .own (.lst ts), .un] = .nx (.own (.lst b6) :: nd :: .own (.lst f3) :: t)) (hs : gSorted [.lst f3] = some (.n (.lst f4))) :
    fnOf 8 1 (b__law_web mt ms ms2 mo) [.own (.lst bg), nd] = .ok (.v (.tup f4)) [.own (.lst b6)] := by
  subst hn
  have z0 : (0 : Nat) ≤ sizeLine := Nat.zero_le _
  have z3 : (3 : Nat) ≤ sizeLine := sz_of (by decide)
  have z4 : (4 : Nat) ≤ sizeLine := sz_of (by decide)
  have z5 : (5 : Nat) ≤ sizeLine := sz_of (by decide)
  unfold wb1 at l1
  unfold wb2 at l2
  unfold wb3 at l3
  simp [b__law_web, List.replicate, e1, hs1, enD, l1, e2, gAdd, hs2, itemsOf, l2, gList, e3, hs3, l3, hs, gTuple, z0, z3, z4, z5]
theorem smL_take {l : List Str} (h : smL l) (k : Nat) : smL (l.take k) := ⟨by rw [List.length_take]; have := h.1; omega, fun x hx => h.2 x (List.mem_of_mem_take hx)⟩
theorem web_ok {bg : List D} (hb : BagOk bg) {n : Int} (h0 : 0 < n) (h5 : n ≤ 5) : ∃ (bg' : List D) (its : List It4), m__law_web [.own (.lst bg), .fz (.int n)] = .ok (.v (.tup (its.map itD))) [.own (.lst bg')] ∧ BagOk bg' ∧ its.length ≤ 20 ∧ ∀ j ∈ its, j.Ok := by
  have sp : smL ["pa", "pb", "pc"] := ⟨by decide, by decide +kernel⟩
  have st : smL ["ta", "tb", "tc", "td"] := ⟨by decide, by decide +kernel⟩
  have sn : smL ["na", "nb", "nc", "nd", "ne"] := ⟨by decide, by decide +kernel⟩
  have cut : ∀ (l : List Str) (k : Nat), gSl (.lst (l.map D.str)) none (some (k : Int)) = some (.n (.lst ((l.take k).map D.str))) := fun l k => by
    show some (Pl.n (O.lst (cutD (l.map D.str) none (some (k : Int))))) = _
    rw [cutD_to, List.map_take]
  obtain ⟨y1, b1, e1, hb1, y10, y11⟩ := take_ok hb (n := 4) (by decide) (by decide)
  obtain ⟨k1, rfl⟩ : ∃ k : Nat, y1 = (k : Int) := ⟨y1.toNat, by omega⟩
  obtain ⟨r1, l1, b2, i1, t1, rfl, hb2, n1, ok1, s4, s5, s6, rfl⟩ := web_l1 (nd := .fz (.int n)) (smL_take sp k1) _ rfl hb1
  obtain ⟨y2, b3, e2, hb3, y20, y21⟩ := take_ok hb2 (n := 4) (by decide) (by decide)
  obtain ⟨k2, hk2⟩ : ∃ k : Nat, 1 + y2 = (k : Int) := ⟨(1 + y2).toNat, by omega⟩
  rw [enumD_len, List.length_map, List.length_take] at n1
  have n1' : i1.length ≤ 3 := by simp only [List.length_cons, List.length_nil] at n1; omega
  obtain ⟨r2, l2, b4, i2, t2, rfl, hb4, n2, ok2, s5', rfl⟩ := web_l2 (nd := .fz (.int n)) (s4 := s4) (s5 := s5) (s6 := s6) (smL_take sp k1) (smL_take st k2) (n0 := i1.length) (by omega) hb3 rfl ok1
  obtain ⟨y3, b5, e3, hb5, y30, y31⟩ := take_ok hb4 (n := n) h0 (by omega)
  obtain ⟨k3, hk3⟩ : ∃ k : Nat, 1 + y3 = (k : Int) := ⟨(1 + y3).toNat, by omega⟩
  rw [List.length_map, List.length_take] at n2
  have n2' : i2.length ≤ 7 := by simp only [List.length_cons, List.length_nil] at n2; omega
  obtain ⟨r3, l3, b6, i3, t3, rfl, hb6, n3, ok3, _⟩ := web_l3 (nd := .fz (.int n)) (s3 := .fz (.lst (((["pa", "pb", "pc"] : List Str).take k1).map D.str))) (s4 := s4) (s5 := s5') (s6 := s6) (s7 := .fz (.lst (((["ta", "tb", "tc", "td"] : List Str).take k2).map D.str))) (smL_take st k2) (smL_take sn k3) (by rw [List.length_take, List.length_take]; simp only [List.length_cons, List.length_nil]; omega) (n0 := i2.length) (by omega) hb5 rfl ok2
  rw [List.length_map, List.length_take] at n3
  obtain ⟨i4, p4, hs⟩ := sorted_it i3
  refine ⟨b6, i4, web_run rfl e1 (cut ["pa", "pb", "pc"] k1) l1 e2 (hk2 ▸ cut ["ta", "tb", "tc", "td"] k2) l2 e3 (hk3 ▸ cut ["na", "nb", "nc", "nd", "ne"] k3) l3 hs, hb6, ?_, fun j hj => ok3 j (p4.mem_iff.mp hj)⟩
  rw [p4.length_eq]
  simp only [List.length_cons, List.length_nil] at n3
  omega
end NT

set_option Elab.async false
set_option linter.all false
set_option maxRecDepth 100000
set_option maxHeartbeats 4000000
namespace NT
open PySem PySem.Spec PyProof.Rows L2 PySem.W
def nameD : D → Bool
  | .str x => nameS x
  | _ => false
def strD : D → Str
  | .str x => x
  | _ => Str.empty
/-! plain data as the model's data -/
theorem strOk_asc {x : Str} (h : KSb.Asc x) : PyData.strOk x = true := by
  unfold PyData.strOk
  rw [Array.all_eq_true']
  intro c hc
  have := h c (by simpa using hc)
  exact decide_eq_true (by omega)
theorem toPs_of {P : PyData → Prop} : ∀ {l : List D}, (∀ d ∈ l, ∃ p, toP d = some p ∧ P p) → ∃ ps, toPs l = some ps ∧ ps.length = l.length ∧ ∀ p ∈ ps, P p
  | [], _ => ⟨[], by simp [toPs], rfl, fun p h => by simp at h⟩
  | d :: l, h => by
    obtain ⟨p, e, hp⟩ := h d List.mem_cons_self
    obtain ⟨ps, e2, hl, hps⟩ := toPs_of fun x hx => h x (List.mem_cons_of_mem _ hx)
    refine ⟨p :: ps, by simp [toPs, e, e2], by simp [hl], fun q hq => ?_⟩
    rcases List.mem_cons.mp hq with rfl | hq
    · exact hp
    · exact hps q hq
theorem layAll_of : ∀ {ps : List PyData}, (∀ p ∈ ps, p.canLay0 = true) → PyData.canLayAll0 ps = true
  | [], _ => by simp [PyData.canLayAll0]
  | p :: ps, h => by simp [PyData.canLayAll0, h p List.mem_cons_self, layAll_of fun q hq => h q (List.mem_cons_of_mem _ hq)]
theorem depthAll_of {n : Nat} : ∀ {ps : List PyData}, (∀ p ∈ ps, p.depth ≤ n) → PyData.depthAll ps ≤ n
  | [], _ => by simp [PyData.depthAll]
  | p :: ps, h => by
    have h1 := h p List.mem_cons_self
    have h2 := depthAll_of fun q hq => h q (List.mem_cons_of_mem _ hq)
    simp [PyData.depthAll]; omega
theorem Pd.toP {t n : Nat} {d : D} (h : Pd t n d) : ∃ p, NT.toP d = some p ∧ (p.canLay0 = true ∧ p.depth ≤ n) := by
  induction h with
  | non => exact ⟨_, by simp [NT.toP]; rfl, by simp [PyData.canLay0], by simp [PyData.depth]⟩
  | bl b => exact ⟨_, by simp [NT.toP]; rfl, by simp [PyData.canLay0], by simp [PyData.depth]⟩
  | int i h => exact ⟨_, by simp [NT.toP]; rfl, by simp [PyData.canLay0], by simp [PyData.depth]⟩
  | str x h a => exact ⟨_, by simp [NT.toP]; rfl, by simp [PyData.canLay0, strOk_asc a], by simp [PyData.depth]⟩
  | @tup n l h a ih =>
    obtain ⟨ps, e, _, hp⟩ := toPs_of ih
    exact ⟨.tuple ps, by simp [NT.toP, e], by simp [PyData.canLay0, layAll_of fun p hq => (hp p hq).1], by have := depthAll_of fun p hq => (hp p hq).2; simp [PyData.depth]; omega⟩
  | @lst n l h a ih =>
    obtain ⟨ps, e, _, hp⟩ := toPs_of ih
    exact ⟨.list ps, by simp [NT.toP, e], by simp [PyData.canLay0, layAll_of fun p hq => (hp p hq).1], by have := depthAll_of fun p hq => (hp p hq).2; simp [PyData.depth]; omega⟩
/-- xs == [] -/
theorem gEq_nil {t n : Nat} {l : List D} (h : ∀ d ∈ l, Pd t n d) (hn : n ≤ 60) : gEq (.lst l) (.lst []) = some (decide (l = [])) := by
  obtain ⟨ps, e, hl, hp⟩ := toPs_of fun d hd => (h d hd).toP
  have s1 : SeqAt.shaped (.list ps) = true := by
    unfold SeqAt.shaped
    have := depthAll_of fun p hq => (hp p hq).2
    simp [PyData.canLay0, layAll_of fun p hq => (hp p hq).1, PyData.depth]; omega
  have s2 : SeqAt.shaped (.list []) = true := by simp [SeqAt.shaped, PyData.canLay0, PyData.canLayAll0, PyData.depth, PyData.depthAll]
  have e2 : PyData.eqv (.list ps) (.list []) = decide (l = []) := by
    cases l with
    | nil => cases ps with
      | nil => simp [PyData.eqv, PyData.eqvAll]
      | cons p ps => simp at hl
    | cons d l => cases ps with
      | nil => simp at hl
      | cons p ps => simp [PyData.eqv, PyData.eqvAll]
  simp [gEq, toP, e, toPs, s1, s2, e2]
theorem eqvAll_str : ∀ a b : List Str, PyData.eqvAll (a.map PyData.str) (b.map PyData.str) = decide (a = b)
  | [], [] => by simp [PyData.eqvAll]
  | [], _ :: _ => by simp [PyData.eqvAll]
  | _ :: _, [] => by simp [PyData.eqvAll]
  | x :: a, y :: b => by
    simp only [List.map_cons, PyData.eqvAll, PyData.eqv, eqvAll_str a b, List.cons.injEq]
    by_cases h : x = y
    · subst h; simp
    · have : (x == y) = false := by simpa using h
      simp [this, h]
theorem lay_strs {l : List Str} (h : ∀ x ∈ l, KSb.Asc x) : PyData.canLayAll0 (l.map PyData.str) = true := layAll_of fun p hp => by
  obtain ⟨x, hx, rfl⟩ := List.mem_map.mp hp
  simp [PyData.canLay0, strOk_asc (h x hx)]
theorem gEq_strs {a b : List Str} (ha : ∀ x ∈ a, KSb.Asc x) (hb : ∀ x ∈ b, KSb.Asc x) : gEq (.lst (a.map D.str)) (.lst (b.map D.str)) = some (decide (a = b)) := by
  simp [gEq, toP, toPs_str, SeqAt.shaped, PyData.canLay0, lay_strs ha, lay_strs hb, PyData.depth, depth_strs, PyData.eqv, eqvAll_str]
theorem gIn_strs {z : Str} {cs : List Str} (hz : KSb.Asc z) (hc : ∀ x ∈ cs, KSb.Asc x) : gInL (.str z) (cs.map D.str) = some (decide (z ∈ cs)) := by
  have e : (cs.any fun x => x == z) = decide (z ∈ cs) := by
    rw [Bool.eq_iff_iff, List.any_eq_true, decide_eq_true_eq]
    exact ⟨fun ⟨x, hx, q⟩ => (beq_iff_eq.mp q) ▸ hx, fun h => ⟨z, h, beq_self_eq_true _⟩⟩
  simp [gInL, toP, toPs_str, SeqAt.shaped, PyData.canLay0, strOk_asc hz, lay_strs hc, PyData.depth, depth_strs, PyData.eqv, List.any_map, Function.comp_def, e]
end NT

set_option Elab.async false
set_option linter.all false
set_option maxRecDepth 100000
set_option maxHeartbeats 4000000
namespace NT
open PySem PySem.Spec PyProof.Rows L2 PySem.W
def m_is_name : Fn := fnOf 1 0 b_is_name
theorem Pd.len {t n : Nat} (ht : t ≤ 7) {x : Str} (h : x.length ≤ 40 * 2 ^ t) : x.length ≤ sizeLine := sz_of (Nat.le_trans h (Nat.le_trans (pw_up ht) (by decide)))
theorem is_name_any {t n : Nat} (ht : t ≤ 7) {d : D} (h : Pd t n d) : m_is_name [.fz d] = .ok (.v (.bl (nameD d))) [] := by
  cases h with
  | str x hx ha =>
    have h := Pd.len (n := n) ht hx
    have hc : mComp [1] (mIter (frz (eV 0))) (gN 1) (M.pure true) (frz (mBin (bo gIn) (eV 1) (eC (.str "abcdefghijklmnopqrstuvwxyz")))) [.fz (.str x), .un] = .ok (.n (.lst (x.cps.toList.map fun c => .bl (lowC c)))) [.fz (.str x), .un] := by
      have q := compT_ok (vs := [1]) (it := mIter (frz (eV 0))) (g := gN 1) (te := frz (mBin (bo gIn) (eV 1) (eC (.str "abcdefghijklmnopqrstuvwxyz")))) (r := [.fz (.str x), .un]) (ds := x.cps.toList.map signD) (fun d => match d with | .str ⟨⟨[c]⟩⟩ => .bl (lowC c) | _ => .non) rfl (by rw [List.length_map]; exact h) (fun d hd => by
        obtain ⟨c, _, rfl⟩ := List.mem_map.mp hd
        exact ⟨_, _, rfl, rfl, rfl⟩)
      rw [q, List.map_map]
      rfl
    simp [m_is_name, b_is_name, isTy, tyD, gLen, gLe, gCmpI, h, hc, gAll, bools_map, nameD, nameS]
    by_cases c1 : (1 : Int) ≤ x.length <;> by_cases c2 : (x.length : Int) ≤ 8 <;> simp [c1, c2]
  | non => simp [m_is_name, b_is_name, isTy, tyD, nameD]
  | bl b => simp [m_is_name, b_is_name, isTy, tyD, nameD]
  | int i h => simp [m_is_name, b_is_name, isTy, tyD, nameD]
  | tup l h a => simp [m_is_name, b_is_name, isTy, tyD, nameD]
  | lst l h a => simp [m_is_name, b_is_name, isTy, tyD, nameD]
theorem gNotIn_low (c : Nat) : gNotIn (signD c) (.str "abcdefghijklmnopqrstuvwxyz") = some (!lowC c) := rfl
/-! rising -/
def risS : List Str → Bool
  | x :: y :: r => ltS x y && risS (y :: r)
  | _ => true
theorem risS_zip : ∀ xs : List Str, ((xs.zip xs.tail).all fun p => ltS p.1 p.2) = risS xs
  | [] => rfl
  | [x] => rfl
  | x :: y :: r => by
    have ih := risS_zip (y :: r)
    simp only [List.tail_cons] at ih ⊢
    rw [List.zip_cons_cons, List.all_cons, ih]
    rfl
theorem zipD_map : ∀ a b : List Str, zipD (a.map D.str) (b.map D.str) = (a.zip b).map fun p => .tup [.str p.1, .str p.2]
  | [], _ => by simp [zipD]
  | _ :: _, [] => by simp [zipD]
  | x :: a, y :: b => by simp [zipD, zipD_map a b]
theorem gLt_str {a b : Str} (h : KSb.Asc a) : gLt (.str a) (.str b) = some (ltS a b) := by
  simp [gLt, toP, PySem.W.alike, notNone, SeqAt.shaped, PyData.canLay0, strOk_asc h, PyData.depth, PySem.W.dataLt_str, ltS]
end NT

set_option Elab.async false
set_option linter.all false
set_option maxRecDepth 100000
set_option maxHeartbeats 4000000
namespace NT
open PySem PySem.Spec PyProof.Rows L2 PySem.W
def namesD (d : D) (m : Nat) : Bool := match d with
  | .tup l => decide (l.length ≤ m) && (l.all nameD && risS (l.map strD))
  | _ => false
theorem names_strs : ∀ {l : List D}, l.all nameD = true → l = (l.map strD).map D.str
  | [], _ => rfl
  | d :: l, h => by
    rw [List.all_cons, Bool.and_eq_true] at h
    cases d with
    | str x => simp only [List.map_cons, strD]; rw [← names_strs h.2]
    | _ => simp [nameD] at h
theorem filt_nil {l : List D} : decide (l.filter (fun d => !nameD d) = []) = l.all nameD := by
  rw [Bool.eq_iff_iff, decide_eq_true_eq, List.filter_eq_nil_iff, List.all_eq_true]
  simp
theorem ris_iff : ∀ {xs : List Str}, risS xs = true ↔ RisS xs
  | [] => ⟨fun _ => List.Pairwise.nil, fun _ => rfl⟩
  | [x] => ⟨fun _ => List.pairwise_singleton _ _, fun _ => rfl⟩
  | x :: y :: r => by
    have ih := ris_iff (xs := y :: r)
    unfold risS
    rw [Bool.and_eq_true, ih]
    constructor
    · rintro ⟨h1, h2⟩
      refine List.pairwise_cons.mpr ⟨fun z hz => ?_, h2⟩
      rcases List.mem_cons.mp hz with rfl | hz
      · exact h1
      · exact ltS_tr h1 (List.rel_of_pairwise_cons h2 hz)
    · intro h
      obtain ⟨h1, h2⟩ := List.pairwise_cons.mp h
      exact ⟨h1 y List.mem_cons_self, h2⟩
theorem set_ris (xs : List Str) : decide (xs = setS xs) = risS xs := by
  rw [Bool.eq_iff_iff, decide_eq_true_eq, ris_iff]
  exact ⟨fun h => h ▸ ris_setS xs, fun h => (setS_ris h).symm⟩
theorem strsD_str : ∀ xs : List Str, strsD (xs.map D.str) = some xs
  | [] => rfl
  | x :: xs => by simp [strsD, strsD_str xs]
end NT

set_option Elab.async false
set_option linter.all false
set_option maxRecDepth 100000
set_option maxHeartbeats 4000000
namespace NT
open PySem PySem.Spec PyProof.Rows L2 PySem.W
def kinds : List Str := ["all", "any", "part", "trial"]
theorem asc_kinds : ∀ x ∈ kinds, KSb.Asc x := fun x hx => by
  have h : kinds.all (fun x => x.cps.toList.all fun c => decide (c < 128)) = true := by decide +kernel
  exact KSb.asc_of (List.all_eq_true.mp h x hx)
def kindD : D → Bool
  | .str z => decide (z ∈ kinds)
  | _ => false
def needS (z : Str) : Bool := ((["all", "any"] : List Str).any fun c => c == z)
def itemB : D → Bool
  | .tup [a, k, o, s] => nameD a && (kindD k && (namesD o 4 && namesD s 3))
  | _ => false
def needB : D → Bool
  | .tup [_, k, o, _] => !needS (strD k) || !(match o with | .tup l => decide (l = []) | _ => false)
  | _ => false
theorem gNe_int (i j : Int) : gNe (.int i) (.int j) = some (!(i == j)) := by simp [gNe, gEq_int]
theorem ix4 (a k o s : D) : L2.atI [a, k, o, s] 0 = some a ∧ L2.atI [a, k, o, s] 1 = some k ∧ L2.atI [a, k, o, s] 2 = some o ∧ L2.atI [a, k, o, s] 3 = some s := ⟨rfl, rfl, rfl, rfl⟩
theorem gEq_tnil {t n : Nat} {l : List D} (h : ∀ d ∈ l, Pd t n d) (hn : n ≤ 60) : gEq (.tup l) (.tup []) = some (decide (l = [])) := by
  obtain ⟨ps, e, hl, hp⟩ := toPs_of fun d hd => (h d hd).toP
  have s1 : SeqAt.shaped (.tuple ps) = true := by
    unfold SeqAt.shaped
    have := depthAll_of fun p hq => (hp p hq).2
    simp [PyData.canLay0, layAll_of fun p hq => (hp p hq).1, PyData.depth]; omega
  have s2 : SeqAt.shaped (.tuple []) = true := by simp [SeqAt.shaped, PyData.canLay0, PyData.canLayAll0, PyData.depth, PyData.depthAll]
  have e2 : PyData.eqv (.tuple ps) (.tuple []) = decide (l = []) := by
    cases l with
    | nil => cases ps with
      | nil => simp [PyData.eqv, PyData.eqvAll]
      | cons p ps => simp at hl
    | cons d l => cases ps with
      | nil => simp at hl
      | cons p ps => simp [PyData.eqv, PyData.eqvAll]
  simp [gEq, toP, e, toPs, s1, s2, e2]
theorem len4 {l : List D} (h : l.length = 4) : ∃ a k o s, l = [a, k, o, s] := by
  match l, h with
  | [a, k, o, s], _ => exact ⟨a, k, o, s, rfl⟩
theorem item_no4 {l : List D} (h : ¬ l.length = 4) : itemB (.tup l) = false := by
  match l with
  | [a, k, o, s] => simp at h
  | [] => rfl
  | [_] => rfl
  | [_, _] => rfl
  | [_, _, _] => rfl
  | _ :: _ :: _ :: _ :: _ :: _ => rfl
end NT

set_option Elab.async false
set_option linter.all false
set_option maxRecDepth 100000
set_option maxHeartbeats 4000000
namespace NT
open PySem PySem.Spec PyProof.Rows L2 PySem.W
/-! the law's look at one item -/
def lw1 (mn ma : Fn) : En → RS := (sSeq (sIf (mOr (mNot (tst (mIsi "tuple" (eV 1)))) (mOr (tst (mBin (bo gNe) (mCall gLen (aCons (eV 1) aNil)) (eC (.int 4)))) (mNot (tst (mApp [] mn (lCons (frz (mBin gIx (eV 1) (eC (.int 0)))) lNil)))))) (sRet (eC (.bl false))) sNil)
    (sSeq (sIf (mOr (mNot (tst (mIsi "str" (mBin gIx (eV 1) (eC (.int 1)))))) (tst (mBin (bo gNotIn) (mBin gIx (eV 1) (eC (.int 1))) (eLst (lCons (frz (eC (.str "all"))) (lCons (frz (eC (.str "any"))) (lCons (frz (eC (.str "part"))) (lCons (frz (eC (.str "trial"))) lNil)))))))) (sRet (eC (.bl false))) sNil)
    (sIf (mOr (mNot (tst (mApp [] ma (lCons (frz (mBin gIx (eV 1) (eC (.int 2)))) (lCons (frz (eC (.int 4))) lNil))))) (mNot (tst (mApp [] ma (lCons (frz (mBin gIx (eV 1) (eC (.int 3)))) (lCons (frz (eC (.int 3))) lNil)))))) (sRet (eC (.bl false))) sNil)))
theorem lw1_gen {mn ma : Fn} {th a k o s : D} {t n : Nat} {tl : En} (hk : Pd t n k) (h1 : mn [.fz a] = .ok (.v (.bl (nameD a))) []) (h2 : ma [.fz o, .fz (.int 4)] = .ok (.v (.bl (namesD o 4))) []) (h3 : ma [.fz s, .fz (.int 3)] = .ok (.v (.bl (namesD s 3))) []) :
    lw1 mn ma (.fz th :: .fz (.tup [a, k, o, s]) :: tl) = if itemB (.tup [a, k, o, s]) = true then .nx (.fz th :: .fz (.tup [a, k, o, s]) :: tl) else .rt (.v (.bl false)) (.fz th :: .fz (.tup [a, k, o, s]) :: tl) := by
  obtain ⟨x0, x1, x2, x3⟩ := ix4 a k o s
  have z4 : (4 : Nat) ≤ sizeLine := sz_of (by decide)
  have z0 : (0 : Nat) ≤ sizeLine := Nat.zero_le _
  cases hna : nameD a with
  | false => simp [lw1, isTy, tyD, gLen, gNe_int, gIx, x0, h1, hna, itemB]
  | true =>
    cases hk with
    | str z hz az =>
      have e1 : gNotIn (.str z) (.lst [.str "all", .str "any", .str "part", .str "trial"]) = some (!decide (z ∈ kinds)) := by
        show (match gInL (.str z) (kinds.map D.str) with | some b => some (!b) | none => none) = _
        rw [gIn_strs az asc_kinds]
      by_cases hkk : z ∈ kinds
      · cases hno : namesD o 4 with
        | false => simp [lw1, isTy, tyD, gLen, gNe_int, gIx, x0, x1, x2, x3, h1, hna, z4, e1, hkk, h2, hno, itemB, kindD]
        | true =>
          cases hns : namesD s 3 <;> simp [lw1, isTy, tyD, gLen, gNe_int, gIx, x0, x1, x2, x3, h1, hna, z4, e1, hkk, h2, hno, h3, hns, itemB, kindD]
      · simp [lw1, isTy, tyD, gLen, gNe_int, gIx, x0, x1, h1, hna, z4, e1, hkk, itemB, kindD]
    | non => simp [lw1, isTy, tyD, gLen, gNe_int, gIx, x0, x1, h1, hna, itemB, kindD]
    | bl b => simp [lw1, isTy, tyD, gLen, gNe_int, gIx, x0, x1, h1, hna, itemB, kindD]
    | int i h => simp [lw1, isTy, tyD, gLen, gNe_int, gIx, x0, x1, h1, hna, itemB, kindD]
    | tup l h a => simp [lw1, isTy, tyD, gLen, gNe_int, gIx, x0, x1, h1, hna, itemB, kindD]
    | lst l h a => simp [lw1, isTy, tyD, gLen, gNe_int, gIx, x0, x1, h1, hna, itemB, kindD]
theorem lw1_loop {b : En → RS} {th : D} {tl : En} : ∀ (ds : List D) (s : Sl), (∀ d ∈ ds, b (.fz th :: .fz d :: tl) = if itemB d = true then .nx (.fz th :: .fz d :: tl) else .rt (.v (.bl false)) (.fz th :: .fz d :: tl)) →
    (ds.all itemB = true → ∃ s', forL (gN 1) b ds (.fz th :: s :: tl) = .nx (.fz th :: s' :: tl)) ∧ (ds.all itemB = false → ∃ r, forL (gN 1) b ds (.fz th :: s :: tl) = .rt (.v (.bl false)) r)
  | [], s, _ => ⟨fun _ => ⟨s, rfl⟩, fun h => by cases h⟩
  | d :: ds, s, h => by
    obtain ⟨i1, i2⟩ := lw1_loop (b := b) (th := th) (tl := tl) ds (.fz d) fun e he => h e (List.mem_cons_of_mem _ he)
    have hd := h d List.mem_cons_self
    have e : forL (gN 1) b (d :: ds) (.fz th :: s :: tl) = (b (.fz th :: .fz d :: tl)).t (forL (gN 1) b ds) := by
      rw [forL_cons]; simp
    rw [e, hd, List.all_cons]
    cases hb : itemB d with
    | true =>
      rw [if_pos rfl, Bool.true_and]
      exact ⟨i1, i2⟩
    | false =>
      rw [if_neg Bool.false_ne_true, Bool.false_and]
      exact ⟨fun h => (by cases h), fun _ => ⟨_, rfl⟩⟩
/-! what such items are -/
structure It4.Good (i : It4) : Prop where
  n : nameS i.nm = true
  k : i.kd ∈ kinds
  o : i.os.length ≤ 4
  oa : ∀ x ∈ i.os, nameS x = true
  s : i.ss.length ≤ 3
theorem nameS_asc {x : Str} (h : nameS x = true) : KSb.Asc x := fun c hc => by
  unfold nameS at h
  simp only [Bool.and_eq_true] at h
  have hl := List.all_eq_true.mp h.2 c hc
  have all : ("abcdefghijklmnopqrstuvwxyz" : Str).cps.toList.all (fun c => decide (c < 128)) = true := by decide +kernel
  exact of_decide_eq_true (List.all_eq_true.mp all c (of_decide_eq_true hl))
theorem names_of {d : D} {m : Nat} (h : namesD d m = true) : ∃ xs : List Str, d = .tup (xs.map D.str) ∧ xs.length ≤ m ∧ (∀ x ∈ xs, nameS x = true) ∧ RisS xs := by
  cases d with
  | tup l =>
    simp only [namesD, Bool.and_eq_true, decide_eq_true_eq] at h
    obtain ⟨h1, h2, h3⟩ := h
    have e := names_strs h2
    refine ⟨l.map strD, congrArg _ e, by rw [List.length_map]; exact h1, fun x hx => ?_, ris_iff.mp h3⟩
    obtain ⟨d, hd, rfl⟩ := List.mem_map.mp hx
    have q := List.all_eq_true.mp h2 d hd
    cases d with
    | str z => exact q
    | _ => cases q
  | _ => cases h
theorem item_of {d : D} (h : itemB d = true) : ∃ i : It4, d = itD i ∧ i.Good := by
  cases d with
  | tup l =>
    by_cases h4 : l.length = 4
    · obtain ⟨a, k, o, s, rfl⟩ := len4 h4
      simp only [itemB, Bool.and_eq_true] at h
      obtain ⟨h1, h2, h3, h5⟩ := h
      obtain ⟨os, rfl, o1, o2, _⟩ := names_of h3
      obtain ⟨ss, rfl, s1, _, _⟩ := names_of h5
      cases a with
      | str x =>
        cases k with
        | str z => exact ⟨⟨x, z, os, ss⟩, rfl, h1, of_decide_eq_true h2, o1, o2, s1⟩
        | _ => cases h2
      | _ => cases h1
    · rw [item_no4 h4] at h; cases h
  | _ => cases h
theorem items_of : ∀ {l : List D}, l.all itemB = true → ∃ its : List It4, l = its.map itD ∧ ∀ i ∈ its, i.Good
  | [], _ => ⟨[], rfl, fun i h => by simp at h⟩
  | d :: l, h => by
    rw [List.all_cons, Bool.and_eq_true] at h
    obtain ⟨i, rfl, hi⟩ := item_of h.1
    obtain ⟨its, rfl, hs⟩ := items_of h.2
    refine ⟨i :: its, rfl, fun j hj => ?_⟩
    rcases List.mem_cons.mp hj with rfl | hj
    · exact hi
    · exact hs j hj
/-! dicts -/
theorem putD_new {κ : Type} [DecidableEq κ] {l : List (κ × D)} {k : κ} {d : D} (h : k ∉ l.map (·.1)) : putD l k d = l ++ [(k, d)] := by
  unfold putD
  rw [if_neg]
  rw [List.any_eq_true]
  rintro ⟨kv, hk, e⟩
  exact h (List.mem_map.mpr ⟨kv, hk, of_decide_eq_true e⟩)
theorem mergeD_new : ∀ {kvs l : List (Key × D)}, ((l ++ kvs).map (·.1)).Nodup → mergeD l kvs = l ++ kvs
  | [], l, _ => by simp [mergeD]
  | kv :: kvs, l, h => by
    have hk : kv.1 ∉ l.map (·.1) := fun hm => by
      rw [List.map_append, List.nodup_append] at h
      exact h.2.2 kv.1 hm kv.1 (by simp) rfl
    show mergeD (putD l kv.1 kv.2) kvs = _
    rw [putD_new hk, mergeD_new (by rw [List.append_assoc]; exact h), List.append_assoc]
    rfl
theorem putD_len {κ : Type} [DecidableEq κ] (l : List (κ × D)) (k : κ) (d : D) : (putD l k d).length ≤ l.length + 1 := by
  unfold putD
  split
  · rw [List.length_map]; omega
  · rw [List.length_append]; simp
theorem compD_ok {vs : List Nat} {g : D → M Unit} {tk tv : M D} {r : En} (K : D → Key) (W : D → D) : ∀ (ds : List D) (acc : List (Key × D)), acc.length + ds.length ≤ 1000 →
    (∀ d ∈ ds, ∃ r1 kd r2 r3, g d r = .ok () r1 ∧ tk r1 = .ok kd r2 ∧ keyK kd = some (K d) ∧ tv r2 = .ok (W d) r3 ∧ wipeE r3 vs = r) → compD vs g (M.pure true) tk tv ds acc r = .ok (mergeD acc (ds.map fun d => (K d, W d))) r
  | [], acc, _, _ => rfl
  | d :: ds, acc, hl, h => by
    obtain ⟨r1, kd, r2, r3, h1, h2, h3, h4, h5⟩ := h d List.mem_cons_self
    simp only [List.length_cons] at hl
    have ha : acc.length < sizeLine := by rw [sizeLine_eq]; omega
    have pl := putD_len acc (K d) (W d)
    have ih := compD_ok (vs := vs) (g := g) (tk := tk) (tv := tv) (r := r) K W ds (putD acc (K d) (W d)) (by omega) fun e he => h e (List.mem_cons_of_mem _ he)
    unfold compD
    rw [h1]
    simp only [M.pure, if_true]
    rw [h2]
    simp only
    rw [h4]
    simp only [h3]
    rw [if_pos ha, h5, ih]
    rfl
end NT

set_option Elab.async false
set_option linter.all false
set_option maxRecDepth 100000
set_option maxHeartbeats 4000000
namespace NT
open PySem PySem.Spec PyProof.Rows L2 PySem.W
def sortsK (its : List It4) : List (Key × D) := its.map fun i => (.inr i.nm, .str i.kd)
def othersK (its : List It4) : List (Key × D) := its.map fun i => (.inr i.nm, .tup (i.os.map D.str))
def keyI (d : D) : Key := match d with
  | .tup (.str x :: _) => .inr x
  | _ => .inl 0
def at1 (d : D) : D := match d with
  | .tup [_, k, _, _] => k
  | _ => .non
def at2 (d : D) : D := match d with
  | .tup [_, _, o, _] => o
  | _ => .non
theorem nodK {its : List It4} (f : It4 → D) (h : (its.map (·.nm)).Nodup) : ((its.map fun i => ((.inr i.nm : Key), f i)).map (·.1)).Nodup := by
  rw [List.map_map]
  have e : (its.map ((fun x : Key × D => x.1) ∘ fun i => ((.inr i.nm : Key), f i))) = (its.map (·.nm)).map (Sum.inr : Str → Key) := by rw [List.map_map]; rfl
  rw [e]
  exact List.pairwise_map.mpr (List.Pairwise.imp (fun hne e => hne (Sum.inr.inj e)) h)
theorem dcomp_it {its : List It4} (hl : its.length ≤ 100) (hnd : (its.map (·.nm)).Nodup) (c : Int) (f : It4 → D) (W : D → D) (hW : ∀ i : It4, W (itD i) = f i) (hix : ∀ i : It4, gIx (itD i) (.int c) = some (.v (f i))) :
    mDComp [1] (mIter (frz (eV 0))) (gN 1) (M.pure true) (frz (mBin gIx (eV 1) (eC (.int 0)))) (frz (mBin gIx (eV 1) (eC (.int c)))) [.fz (.tup (its.map itD)), .un] = .ok (.n (.dK (its.map fun i => (.inr i.nm, f i)))) [.fz (.tup (its.map itD)), .un] := by
  have q := compD_ok (vs := [1]) (g := gN 1) (tk := frz (mBin gIx (eV 1) (eC (.int 0)))) (tv := frz (mBin gIx (eV 1) (eC (.int c)))) (r := [.fz (.tup (its.map itD)), .un]) keyI W (its.map itD) [] (by simp; omega) (fun d hd => by
    obtain ⟨i, hi, rfl⟩ := List.mem_map.mp hd
    have e0 : gIx (itD i) (.int 0) = some (.v (.str i.nm)) := rfl
    exact ⟨[.fz (.tup (its.map itD)), .fz (itD i)], .str i.nm, [.fz (.tup (its.map itD)), .fz (itD i)], [.fz (.tup (its.map itD)), .fz (itD i)], by simp, by simp [e0], rfl, by simp [hix i, hW], by simp [wipeE]⟩)
  have e : (its.map itD).map (fun d => (keyI d, W d)) = its.map fun i => ((.inr i.nm : Key), f i) := by
    rw [List.map_map]
    exact List.map_congr_left fun i _ => by show (keyI (itD i), W (itD i)) = _; rw [hW]; rfl
  rw [e, mergeD_new (by rw [List.nil_append]; exact nodK f hnd), List.nil_append] at q
  unfold mDComp
  have hit : mIter (frz (eV 0)) [.fz (.tup (its.map itD)), .un] = .ok (its.map itD) [.fz (.tup (its.map itD)), .un] := by simp [itemsOf]
  rw [hit]
  simp only
  have hw : wipeE [.fz (.tup (its.map itD)), .un] [1] = [.fz (.tup (its.map itD)), .un] := rfl
  rw [hw, q]
  rfl
def m_sorts_of : Fn := fnOf 1 0 b_sorts_of
def m_others_of : Fn := fnOf 1 0 b_others_of
theorem sorts_ok {its : List It4} (hl : its.length ≤ 100) (hnd : (its.map (·.nm)).Nodup) : m_sorts_of [.fz (.tup (its.map itD))] = .ok (.n (.dK (sortsK its))) [] := by
  have q := dcomp_it hl hnd 1 (fun i => .str i.kd) at1 (fun _ => rfl) (fun _ => rfl)
  simp [m_sorts_of, b_sorts_of, q, sortsK]
theorem others_ok {its : List It4} (hl : its.length ≤ 100) (hnd : (its.map (·.nm)).Nodup) : m_others_of [.fz (.tup (its.map itD))] = .ok (.n (.dK (othersK its))) [] := by
  have q := dcomp_it hl hnd 2 (fun i => .tup (i.os.map D.str)) at2 (fun _ => rfl) (fun _ => rfl)
  simp [m_others_of, b_others_of, q, othersK]
/-! what a name's item says -/
def itOf (its : List It4) (x : Str) : Option It4 := its.find? fun i => decide (i.nm = x)
def sortS (its : List It4) (x : Str) : Str := match itOf its x with
  | some i => i.kd
  | none => ""
def osOf (its : List It4) (x : Str) : List Str := match itOf its x with
  | some i => i.os
  | none => []
theorem valD_it (f : It4 → D) (x : Str) : ∀ its : List It4, valD (its.map fun i => ((.inr i.nm : Key), f i)) (.inr x) = (itOf its x).map f
  | [] => rfl
  | i :: its => by
    have ih := valD_it f x its
    unfold valD itOf at ih ⊢
    rw [List.map_cons, List.find?_cons, List.find?_cons]
    by_cases h : i.nm = x
    · subst h; simp
    · have h2 : ¬ ((Sum.inr i.nm : Key) = Sum.inr x) := fun e => h (Sum.inr.inj e)
      simp only [h, h2, decide_false]
      exact ih
theorem get_sort (its : List It4) (x : Str) : (match gDGet (.dK (sortsK its)) (.str x) with
    | some (some v) => R.ok (.v v) r
    | some none => .ok (.v (.str "")) r
    | none => .st : R Pl) = .ok (.v (.str (sortS its x))) r := by
  have e : gDGet (.dK (sortsK its)) (.str x) = some ((itOf its x).map fun i => .str i.kd) := by
    show some (valD (sortsK its) (.inr x)) = _
    exact congrArg some (valD_it _ x its)
  rw [e]
  unfold sortS
  cases itOf its x <;> rfl
def goodL (kd : Str) : List Str := if needS kd = true then ["all", "any", "trial"] else ["part"]
theorem goodL_asc (kd : Str) : ∀ x ∈ goodL kd, KSb.Asc x := fun x hx => by
  have h : (["all", "any", "trial", "part"] : List Str).all (fun x => x.cps.toList.all fun c => decide (c < 128)) = true := by decide +kernel
  have hm : x ∈ (["all", "any", "trial", "part"] : List Str) := by
    unfold goodL at hx
    split at hx <;> simp at hx ⊢
    · rcases hx with h | h | h <;> simp [h]
    · simp [hx]
  exact KSb.asc_of (List.all_eq_true.mp h x hm)
theorem itOf_mem {its : List It4} {x : Str} {i : It4} (h : itOf its x = some i) : i ∈ its ∧ i.nm = x := by
  unfold itOf at h
  exact ⟨List.mem_of_find?_eq_some h, by have := List.find?_some h; exact of_decide_eq_true this⟩
theorem sortS_asc {its : List It4} (hg : ∀ i ∈ its, i.Good) (x : Str) : KSb.Asc (sortS its x) := by
  unfold sortS
  cases h : itOf its x with
  | none => exact KSb.asc_of (by decide)
  | some i => exact asc_kinds _ (hg i (itOf_mem h).1).k
def fitB (its : List It4) (i : It4) : Bool := i.os.all fun o => decide (sortS its o ∈ goodL i.kd)
theorem bools_bl : ∀ bs : List Bool, bools (bs.map D.bl) = some bs
  | [] => rfl
  | b :: bs => by simp [bools, bools_bl bs]
end NT

set_option Elab.async false
set_option linter.all false
set_option maxRecDepth 100000
set_option maxHeartbeats 4000000
namespace NT
open PySem PySem.Spec PyProof.Rows L2 PySem.W
def lw2 : En → RS := (sSeq (sSet 8 (mIf (tst (mBin (bo gIn) (eV 5) (eLst (lCons (frz (eC (.str "part"))) (lCons (frz (eC (.str "trial"))) lNil))))) (eLst (lCons (frz (eC (.str "part"))) lNil)) (eLst (lCons (frz (eC (.str "all"))) (lCons (frz (eC (.str "any"))) (lCons (frz (eC (.str "trial"))) lNil))))))
    (sSeq (sIf (tst (mBin (bo gNe) (mComp [9] (mIter (frz (eV 6))) (gN 9) (tst (mBin (bo gNotIn) (eGetD (eV 3) (eV 9) (eC (.str ""))) (eV 8))) (frz (eV 9))) (eLst lNil))) (sRet (eC (.bl false))) sNil)
    (sIf (mAnd (tst (mBin (bo gIn) (eV 5) (eLst (lCons (frz (eC (.str "all"))) (lCons (frz (eC (.str "any"))) lNil))))) (tst (mBin (bo gEq) (eV 6) (eTup lNil)))) (sRet (eC (.bl false))) sNil)))
theorem filt_all {α : Type} (p : α → Bool) (l : List α) : decide (l.filter (fun x => !p x) = []) = l.all p := by
  rw [Bool.eq_iff_iff, decide_eq_true_eq, List.filter_eq_nil_iff, List.all_eq_true]
  simp
theorem lw2_comp {its : List It4} (hg : ∀ i ∈ its, i.Good) {i : It4} (hi : i.Good) {a0 a1 a2 a4 a5 a7 : Sl} {good : List Str} (hgd : good = goodL i.kd) : mComp [9] (mIter (frz (eV 6))) (gN 9) (tst (mBin (bo gNotIn) (eGetD (eV 3) (eV 9) (eC (.str ""))) (eV 8))) (frz (eV 9)) [a0, a1, a2, .own (.dK (sortsK its)), a4, a5, .fz (.tup (i.os.map D.str)), a7, .own (.lst (good.map D.str)), s9]
    = .ok (.n (.lst ((i.os.filter fun o => !decide (sortS its o ∈ goodL i.kd)).map D.str))) [a0, a1, a2, .own (.dK (sortsK its)), a4, a5, .fz (.tup (i.os.map D.str)), a7, .own (.lst (good.map D.str)), s9] := by
  have q := comp_ok (vs := [9]) (it := mIter (frz (eV 6))) (g := gN 9) (tt := tst (mBin (bo gNotIn) (eGetD (eV 3) (eV 9) (eC (.str ""))) (eV 8))) (te := frz (eV 9)) (r := [a0, a1, a2, .own (.dK (sortsK its)), a4, a5, .fz (.tup (i.os.map D.str)), a7, .own (.lst (good.map D.str)), s9]) (r0 := [a0, a1, a2, .own (.dK (sortsK its)), a4, a5, .fz (.tup (i.os.map D.str)), a7, .own (.lst (good.map D.str)), s9]) (ds := i.os.map D.str) (fun d => !decide (sortS its (strD d) ∈ goodL i.kd)) id (by simp [itemsOf]) (by rw [List.length_map]; have := hi.o; exact sz_of (by omega)) (fun d hd => by
    obtain ⟨o, ho, rfl⟩ := List.mem_map.mp hd
    have e1 : eGetD (eV 3) (eV 9) (eC (.str "")) [a0, a1, a2, .own (.dK (sortsK its)), a4, a5, .fz (.tup (i.os.map D.str)), a7, .own (.lst (good.map D.str)), .fz (.str o)] = .ok (.v (.str (sortS its o))) [a0, a1, a2, .own (.dK (sortsK its)), a4, a5, .fz (.tup (i.os.map D.str)), a7, .own (.lst (good.map D.str)), .fz (.str o)] :=
      (eGetD_q (x := .v .non) rfl rfl rfl rfl rfl rfl).trans (get_sort its o)
    have e2 : gNotIn (.str (sortS its o)) (.lst (good.map D.str)) = some (!decide (sortS its o ∈ goodL i.kd)) := by
      subst hgd
      show (match gInL (.str (sortS its o)) ((goodL i.kd).map D.str) with | some b => some (!b) | none => none) = _
      rw [gIn_strs (sortS_asc hg o) (goodL_asc _)]
    exact ⟨[a0, a1, a2, .own (.dK (sortsK its)), a4, a5, .fz (.tup (i.os.map D.str)), a7, .own (.lst (good.map D.str)), .fz (.str o)], [a0, a1, a2, .own (.dK (sortsK its)), a4, a5, .fz (.tup (i.os.map D.str)), a7, .own (.lst (good.map D.str)), .fz (.str o)], by simp [wipeE], by simp [e1, e2, strD] <;> rfl, fun _ => by simp [wipeE], fun _ => ⟨[a0, a1, a2, .own (.dK (sortsK its)), a4, a5, .fz (.tup (i.os.map D.str)), a7, .own (.lst (good.map D.str)), .fz (.str o)], by simp, by simp [wipeE]⟩⟩)
  rw [q, List.map_id, List.filter_map]
  rfl
theorem lw2_turn {its : List It4} (hg : ∀ i ∈ its, i.Good) {i : It4} (hi : i.Good) {a0 a1 a2 a4 a7 a8 a9 : Sl} : ∃ r, lw2 [a0, a1, a2, .own (.dK (sortsK its)), a4, .fz (.str i.kd), .fz (.tup (i.os.map D.str)), a7, a8, a9] =
    if (fitB its i && needB (itD i)) = true then .nx [a0, a1, a2, .own (.dK (sortsK its)), a4, .fz (.str i.kd), .fz (.tup (i.os.map D.str)), a7, .own (.lst ((goodL i.kd).map D.str)), a9] else .rt (.v (.bl false)) r := by
  have aos : ∀ x ∈ i.os, KSb.Asc x := fun x hx => nameS_asc (hi.oa x hx)
  have c := fun a9 => lw2_comp (s9 := a9) hg hi (a0 := a0) (a1 := a1) (a2 := a2) (a4 := a4) (a5 := .fz (.str i.kd)) (a7 := a7) (good := goodL i.kd) rfl
  have e1 : gNe (.lst ((i.os.filter fun o => !decide (sortS its o ∈ goodL i.kd)).map D.str)) (.lst []) = some (!fitB its i) := by
    have q := gEq_strs (a := i.os.filter fun o => !decide (sortS its o ∈ goodL i.kd)) (b := []) (fun x hx => aos x (List.mem_filter.mp hx).1) (fun x hx => by simp at hx)
    show (match gEq (.lst ((i.os.filter fun o => !decide (sortS its o ∈ goodL i.kd)).map D.str)) (.lst (([] : List Str).map D.str)) with | some b => some (!b) | none => none) = _
    rw [q]
    exact congrArg (fun b => some (!b)) (filt_all (fun o => decide (sortS its o ∈ goodL i.kd)) i.os)
  have e2 : gEq (.tup (i.os.map D.str)) (.tup []) = some (decide (i.os.map D.str = [])) := gEq_tnil (t := 6) (n := 0) (fun d hd => by
    obtain ⟨x, hx, rfl⟩ := List.mem_map.mp hd
    have hn := hi.oa x hx
    refine .str x ?_ (aos x hx)
    unfold nameS at hn
    simp only [Bool.and_eq_true, decide_eq_true_eq] at hn
    have := hn.1.2
    have : x.length ≤ 8 := by omega
    exact Nat.le_trans this (by decide)) (by decide)
  have z1 : (1 : Nat) ≤ sizeLine := sz_of (by decide)
  have z2 := sz2
  have z3 : (3 : Nat) ≤ sizeLine := sz_of (by decide)
  have z0 : (0 : Nat) ≤ sizeLine := Nat.zero_le _
  obtain ⟨nm, kd, os, ss⟩ := i
  have hk := hi.k
  simp only [kinds, List.mem_cons, List.not_mem_nil, or_false] at hk
  simp only at c e1 e2
  generalize hfl : (os.filter fun o => !decide (sortS its o ∈ goodL kd)).map D.str = fl at c e1
  have nb : needB (itD ⟨nm, kd, os, ss⟩) = (!needS kd || !decide (os.map D.str = [])) := rfl
  rw [nb]
  refine ⟨[a0, a1, a2, .own (.dK (sortsK its)), a4, .fz (.str kd), .fz (.tup (os.map D.str)), a7, .own (.lst ((goodL kd).map D.str)), a9], ?_⟩
  generalize fitB its ⟨nm, kd, os, ss⟩ = fb at e1 ⊢
  generalize decide (os.map D.str = []) = eb at e2 ⊢
  have run : ∀ (gs : List Str) (nd : Bool), goodL kd = gs → needS kd = nd → gIn (.str kd) (.lst [.str "part", .str "trial"]) = some (!nd) → gIn (.str kd) (.lst [.str "all", .str "any"]) = some nd → (gs = if nd = true then (["all", "any", "trial"] : List Str) else ["part"]) →
      lw2 [a0, a1, a2, .own (.dK (sortsK its)), a4, .fz (.str kd), .fz (.tup (os.map D.str)), a7, a8, a9] = if (fb && (!needS kd || !eb)) = true then .nx [a0, a1, a2, .own (.dK (sortsK its)), a4, .fz (.str kd), .fz (.tup (os.map D.str)), a7, .own (.lst ((goodL kd).map D.str)), a9]
        else .rt (.v (.bl false)) [a0, a1, a2, .own (.dK (sortsK its)), a4, .fz (.str kd), .fz (.tup (os.map D.str)), a7, .own (.lst ((goodL kd).map D.str)), a9] := by
    intro gs nd h1 h2 h3 h4 h5
    rw [h1] at c ⊢
    rw [h2]
    cases nd with
    | true =>
      simp only [if_true] at h5
      subst h5
      have c1 := c a9
      simp only [List.map_cons, List.map_nil] at c1
      cases fb <;> cases eb <;> simp [lw2, h3, h4, z0, z1, z2, z3, c1, e1, e2]
    | false =>
      simp only [Bool.false_eq_true, if_false] at h5
      subst h5
      have c1 := c a9
      simp only [List.map_cons, List.map_nil] at c1
      cases fb <;> simp [lw2, h3, h4, z0, z1, z2, z3, c1, e1, e2]
  rcases hk with hk | hk | hk | hk <;> subst hk
  · exact run _ true rfl (by decide +kernel) (by decide +kernel) (by decide +kernel) (by decide +kernel)
  · exact run _ true rfl (by decide +kernel) (by decide +kernel) (by decide +kernel) (by decide +kernel)
  · exact run _ false rfl (by decide +kernel) (by decide +kernel) (by decide +kernel) (by decide +kernel)
  · exact run _ false rfl (by decide +kernel) (by decide +kernel) (by decide +kernel) (by decide +kernel)
/-- the walk over the items -/
theorem lw2_loop {its : List It4} (hg : ∀ i ∈ its, i.Good) {b : En → RS} (hb : b = lw2) {a0 a1 a2 : Sl} : ∀ (l : List It4) (a4 a5 a6 a7 a8 a9 : Sl), (∀ i ∈ l, i.Good) →
    ((l.all fun i => fitB its i && needB (itD i)) = true → ∃ b4 b5 b6 b7 b8 b9, forL (gT 4 (gsCons (gN 4) (gsCons (gN 5) (gsCons (gN 6) (gsCons (gN 7) gsNil))))) b (l.map itD) [a0, a1, a2, .own (.dK (sortsK its)), a4, a5, a6, a7, a8, a9] = .nx [a0, a1, a2, .own (.dK (sortsK its)), b4, b5, b6, b7, b8, b9]) ∧
    ((l.all fun i => fitB its i && needB (itD i)) = false → ∃ r, forL (gT 4 (gsCons (gN 4) (gsCons (gN 5) (gsCons (gN 6) (gsCons (gN 7) gsNil))))) b (l.map itD) [a0, a1, a2, .own (.dK (sortsK its)), a4, a5, a6, a7, a8, a9] = .rt (.v (.bl false)) r)
  | [], a4, a5, a6, a7, a8, a9, _ => ⟨fun _ => ⟨a4, a5, a6, a7, a8, a9, rfl⟩, fun h => by cases h⟩
  | i :: l, a4, a5, a6, a7, a8, a9, h => by
    subst hb
    obtain ⟨r, e⟩ := lw2_turn (a0 := a0) (a1 := a1) (a2 := a2) (a4 := .fz (.str i.nm)) (a7 := .fz (.tup (i.ss.map D.str))) (a8 := a8) (a9 := a9) hg (h i List.mem_cons_self)
    have e0 : forL (gT 4 (gsCons (gN 4) (gsCons (gN 5) (gsCons (gN 6) (gsCons (gN 7) gsNil))))) lw2 ((i :: l).map itD) [a0, a1, a2, .own (.dK (sortsK its)), a4, a5, a6, a7, a8, a9] =
        (lw2 [a0, a1, a2, .own (.dK (sortsK its)), .fz (.str i.nm), .fz (.str i.kd), .fz (.tup (i.os.map D.str)), .fz (.tup (i.ss.map D.str)), a8, a9]).t (forL (gT 4 (gsCons (gN 4) (gsCons (gN 5) (gsCons (gN 6) (gsCons (gN 7) gsNil))))) lw2 (l.map itD)) := by
      rw [List.map_cons, forL_cons]
      simp [itD]
    rw [e0, e, List.all_cons]
    cases hc : (fitB its i && needB (itD i)) with
    | true =>
      rw [if_pos rfl, Bool.true_and]
      exact lw2_loop hg rfl l _ _ _ _ _ _ fun j hj => h j (List.mem_cons_of_mem _ hj)
    | false =>
      rw [if_neg Bool.false_ne_true, Bool.false_and]
      exact ⟨fun h => (by cases h), fun _ => ⟨_, rfl⟩⟩
end NT

set_option Elab.async false
set_option linter.all false
set_option maxRecDepth 100000
set_option maxHeartbeats 4000000
namespace NT
open PySem PySem.Spec PyProof.Rows L2 PySem.W
/-- all that a walk behind some names meets -/
def und (its : List It4) : Nat → List Str → List Str → List Str
  | 0, _, f => f
  | n + 1, l, f => match l.getLast? with
    | none => f
    | some x => if x ∈ f then und its n l.dropLast f else und its n (l.dropLast ++ osOf its x) (f ++ [x])
theorem nodup_le : ∀ {l m : List Str}, l.Nodup → (∀ x ∈ l, x ∈ m) → l.length ≤ m.length
  | [], _, _, _ => Nat.zero_le _
  | x :: l, m, nd, h => by
    obtain ⟨n1, n2⟩ := List.nodup_cons.mp nd
    have hx := h x List.mem_cons_self
    have := nodup_le (l := l) (m := m.erase x) n2 fun y hy => (List.mem_erase_of_ne (fun e => by subst e; exact n1 hy)).mpr (h y (List.mem_cons_of_mem _ hy))
    rw [List.length_erase_of_mem hx] at this
    have hp := List.length_pos_of_mem hx
    rw [List.length_cons]
    omega
/-- the names of the items; what each leads to is an item -/
structure Closed (its : List It4) : Prop where
  good : ∀ i ∈ its, i.Good
  nd : (its.map (·.nm)).Nodup
  cl : ∀ i ∈ its, ∀ o ∈ i.os, o ∈ its.map (·.nm)
  few : its.length ≤ 12
theorem itOf_of {its : List It4} {x : Str} (h : x ∈ its.map (·.nm)) : ∃ i, itOf its x = some i := by
  obtain ⟨i, hi, rfl⟩ := List.mem_map.mp h
  unfold itOf
  cases e : its.find? (fun j => decide (j.nm = i.nm)) with
  | some j => exact ⟨j, rfl⟩
  | none => have := List.find?_eq_none.mp e i hi; simp at this
theorem osOf_ok {its : List It4} (c : Closed its) {x : Str} (h : x ∈ its.map (·.nm)) : (∀ o ∈ osOf its x, o ∈ its.map (·.nm)) ∧ (osOf its x).length ≤ 4 := by
  obtain ⟨i, e⟩ := itOf_of h
  have hm := (itOf_mem e).1
  unfold osOf
  rw [e]
  exact ⟨c.cl i hm, (c.good i hm).o⟩
/-- a walk's row is fit -/
structure Fit (its : List It4) (l f : List Str) : Prop where
  hl : ∀ x ∈ l, x ∈ its.map (·.nm)
  hf : ∀ x ∈ f, x ∈ its.map (·.nm)
  nd : f.Nodup
  len : l.length ≤ 300
theorem und_loop {its : List It4} (c : Closed its) {C : M Bool} {B : En → RS} {E : List Str → List Str → Sl → En} (c0 : ∀ f s, C (E [] f s) = .ok false (E [] f s)) (c1 : ∀ l x f s, Fit its (l ++ [x]) f → C (E (l ++ [x]) f s) = .ok true (E (l ++ [x]) f s))
    (b1 : ∀ l x f s, Fit its (l ++ [x]) f → x ∉ f → B (E (l ++ [x]) f s) = .nx (E (l ++ osOf its x) (f ++ [x]) (.fz (.str x)))) (b2 : ∀ l x f s, Fit its (l ++ [x]) f → x ∈ f → B (E (l ++ [x]) f s) = .nx (E l f (.fz (.str x)))) :
    ∀ (n : Nat) (l f : List Str) (s : Sl), Fit its l f → l.length + 20 * (its.length - f.length) < n → l.length + 20 * (its.length - f.length) ≤ 300 → ∃ s', whileN C B n (E l f s) = .nx (E [] (und its n l f) s') ∧ Fit its [] (und its n l f) := by
  intro n
  induction n with
  | zero => intro l f s _ h; omega
  | succ n ih =>
    intro l f s F h h3
    rw [whileN_succ]
    rcases List.eq_nil_or_concat l with rfl | ⟨init, x, rfl⟩
    · rw [c0]
      exact ⟨s, by simp [und], ⟨fun x hx => by simp at hx, F.hf, F.nd, Nat.zero_le _⟩⟩
    · simp only [List.concat_eq_append] at F h h3 ⊢
      rw [c1 _ _ _ _ F]
      have hx : x ∈ its.map (·.nm) := F.hl x (by simp)
      have fl : f.length ≤ its.length := by have := nodup_le F.nd F.hf; rwa [List.length_map] at this
      simp only [List.length_append, List.length_cons, List.length_nil] at h h3
      have e1 : (init ++ [x]).getLast? = some x := by simp
      have e2 : (init ++ [x]).dropLast = init := by simp
      have Fi : ∀ y ∈ init, y ∈ its.map (·.nm) := fun y hy => F.hl y (List.mem_append_left _ hy)
      by_cases hm : x ∈ f
      · obtain ⟨s', e, F'⟩ := ih init f (.fz (.str x)) ⟨Fi, F.hf, F.nd, by omega⟩ (by omega) (by omega)
        have eu : und its (n + 1) (init ++ [x]) f = und its n init f := by
          rw [und, e1]
          simp only [e2]
          exact if_pos hm
        rw [eu]
        exact ⟨s', by simp [b2 _ _ _ _ F hm, e], F'⟩
      · obtain ⟨o1, o2⟩ := osOf_ok c hx
        have nd2 : (f ++ [x]).Nodup := List.nodup_append.mpr ⟨F.nd, by simp, fun a ha b hb e => by rw [List.mem_singleton.mp hb] at e; exact hm (e ▸ ha)⟩
        have f2 : ∀ y ∈ f ++ [x], y ∈ its.map (·.nm) := fun y hy => by
          rcases List.mem_append.mp hy with q | q
          · exact F.hf y q
          · rw [List.mem_singleton.mp q]; exact hx
        have fl2 : f.length + 1 ≤ its.length := by have := nodup_le nd2 f2; rw [List.length_map] at this; simpa using this
        obtain ⟨s', e, F'⟩ := ih (init ++ osOf its x) (f ++ [x]) (.fz (.str x)) ⟨fun y hy => by
          rcases List.mem_append.mp hy with q | q
          · exact Fi y q
          · exact o1 y q, f2, nd2, by rw [List.length_append]; omega⟩ (by simp only [List.length_append, List.length_cons, List.length_nil]; omega) (by simp only [List.length_append, List.length_cons, List.length_nil]; omega)
        have eu : und its (n + 1) (init ++ [x]) f = und its n (init ++ osOf its x) (f ++ [x]) := by
          rw [und, e1]
          simp only [e2]
          exact if_neg hm
        rw [eu]
        exact ⟨s', by simp [b1 _ _ _ _ F hm, e], F'⟩
end NT

set_option Elab.async false
set_option linter.all false
set_option maxRecDepth 100000
set_option maxHeartbeats 4000000
namespace NT
open PySem PySem.Spec PyProof.Rows L2 PySem.W
theorem pop_last (l : List D) (d : D) : gPop (l ++ [d]) [] = some (d, l) := by
  unfold gPop
  simp
theorem names_asc {its : List It4} (c : Closed its) {x : Str} (h : x ∈ its.map (·.nm)) : KSb.Asc x := by
  obtain ⟨i, hi, rfl⟩ := List.mem_map.mp h
  exact nameS_asc (c.good i hi).n
theorem gNe_strs {l : List Str} (h : ∀ x ∈ l, KSb.Asc x) : gNe (.lst (l.map D.str)) (.lst []) = some (!decide (l = [])) := by
  have q := gEq_strs (a := l) (b := []) h (fun x hx => by simp at hx)
  show (match gEq (.lst (l.map D.str)) (.lst (([] : List Str).map D.str)) with | some b => some (!b) | none => none) = _
  rw [q]
theorem und_test {a0 a1 a2 s : Sl} {l : List Str} (h : ∀ x ∈ l, KSb.Asc x) : tst (mBin (bo gNe) (eV 3) (eLst lNil)) [a0, a1, a2, .own (.lst (l.map D.str)), s] = .ok (!decide (l = [])) [a0, a1, a2, .own (.lst (l.map D.str)), s] := by
  have e := gNe_strs h
  have z0 : (0 : Nat) ≤ sizeLine := Nat.zero_le _
  simp [e, z0]
def foundK (f : List Str) : List (Key × D) := f.map fun x => ((.inr x : Key), .bl true)
theorem val_found (x : Str) : ∀ f : List Str, (valD (foundK f) (.inr x)).isSome = decide (x ∈ f)
  | [] => rfl
  | y :: f => by
    have ih := val_found x f
    unfold valD foundK at ih ⊢
    rw [List.map_cons, List.find?_cons]
    by_cases h : y = x
    · subst h; simp
    · have h2 : ¬ ((Sum.inr y : Key) = Sum.inr x) := fun e => h (Sum.inr.inj e)
      have h3 : ¬ x = y := fun e => h e.symm
      simp only [h2, decide_false, List.mem_cons, h3, false_or]
      exact ih
theorem notIn_found (x : Str) (f : List Str) : gNotIn (.str x) (.dK (foundK f)) = some (!decide (x ∈ f)) := by
  show some (!(valD (foundK f) (.inr x)).isSome) = _
  rw [val_found]
theorem in_found (x : Str) (f : List Str) : gIn (.str x) (.dK (foundK f)) = some (decide (x ∈ f)) := by
  show some (valD (foundK f) (.inr x)).isSome = _
  rw [val_found]
theorem ix_others {its : List It4} {x : Str} (h : x ∈ its.map (·.nm)) : gIx (.dK (othersK its)) (.str x) = some (.v (.tup ((osOf its x).map D.str))) := by
  obtain ⟨i, e⟩ := itOf_of h
  have q : valD (othersK its) (.inr x) = some (.tup (i.os.map D.str)) := by rw [othersK, valD_it, e]; rfl
  have z : osOf its x = i.os := by unfold osOf; rw [e]
  show (match some (valD (othersK its) (.inr x)) with | some (some r) => some (Pl.v r) | _ => none) = _
  rw [q, z]
theorem put_found {x : Str} {f : List Str} (hx : x ∉ f) (hl : f.length ≤ 100) : putO (.dK (foundK f)) (.str x) (.bl true) = some (.dK (foundK (f ++ [x]))) := by
  have h1 : (foundK f).length < sizeLine := by rw [sizeLine_eq, foundK, List.length_map]; omega
  show (if (foundK f).length < sizeLine then some (O.dK (putD (foundK f) (.inr x) (.bl true))) else none) = _
  rw [if_pos h1, putD_new (fun hm => by
    unfold foundK at hm
    rw [List.map_map] at hm
    obtain ⟨y, hy, e⟩ := List.mem_map.mp hm
    exact hx (Sum.inr.inj e ▸ hy))]
  simp [foundK]
theorem und_t1 {gp : List D → List D → Option (D × List D)} {O x : D} {a1 s : Sl} {o o' : NT.O} {L L' T LT : List D} (e1 : gp L [] = some (x, L')) (e2 : gNotIn x o.d = some true) (e3 : putO o x (.bl true) = some o') (e4 : gIx O x = some (.v (.tup T))) (e5 : gAdd (.lst L') (.lst T) = some (.n (.lst LT))) :
    (sSeq (sSet 4 (eMeth 3 gp lNil))
    (sIf (tst (mBin (bo gNotIn) (eV 4) (eV 2))) (sSeq (sDPutM 2 (frz (eV 4)) (frz (eC (.bl true))))
    (sSet 3 (mBin gAdd (eV 3) (mCall gList (aCons (mBin gIx (eV 0) (eV 4)) aNil))))) sNil)) [.fz O, a1, .own o, .own (.lst L), s] = .nx [.fz O, a1, .own o', .own (.lst LT), .fz x] := by
  have e6 : sDPutM 2 (frz (eV 4)) (frz (eC (.bl true))) [.fz O, a1, .own o, .own (.lst L'), .fz x] = .nx [.fz O, a1, .own o', .own (.lst L'), .fz x] := by
    have f1 : frz (eC (.bl true)) [.fz O, a1, .own o, .own (.lst L'), .fz x] = .ok (.bl true) [.fz O, a1, .own o, .own (.lst L'), .fz x] := rfl
    have f2 : frz (eV 4) [.fz O, a1, .own o, .own (.lst L'), .fz x] = .ok x [.fz O, a1, .own o, .own (.lst L'), .fz x] := rfl
    unfold sDPutM
    rw [f1]
    simp only [isOwn, List.getElem?_cons_zero, List.getElem?_cons_succ, if_true]
    rw [f2]
    simp only [List.getElem?_cons_zero, List.getElem?_cons_succ, e3]
    rfl
  simp [e1, e2, e6, e4, gList, e5]
theorem und_t2 {gp : List D → List D → Option (D × List D)} {X : En → RS} {O x : D} {a1 s : Sl} {o : NT.O} {L L' : List D} (e1 : gp L [] = some (x, L')) (e2 : gNotIn x o.d = some false) :
    (sSeq (sSet 4 (eMeth 3 gp lNil)) (sIf (tst (mBin (bo gNotIn) (eV 4) (eV 2))) X sNil)) [.fz O, a1, .own o, .own (.lst L), s] = .nx [.fz O, a1, .own o, .own (.lst L'), .fz x] := by
  simp [e1, e2]
def m_all_under : Fn := fnOf 3 0 b_all_under
theorem under_ok {its : List It4} (c : Closed its) {x : Str} (hx : x ∈ its.map (·.nm)) : m_all_under [.fz (.dK (othersK its)), .fz (.str x)] = .ok (.n (.dK (foundK (und its 4096 (osOf its x) [])))) [] ∧ Fit its [] (und its 4096 (osOf its x) []) := by
  obtain ⟨o1, o2⟩ := osOf_ok c hx
  have few := c.few
  have asc : ∀ l : List Str, (∀ y ∈ l, y ∈ its.map (·.nm)) → ∀ y ∈ l, KSb.Asc y := fun l h y hy => names_asc c (h y hy)
  obtain ⟨s', e, F⟩ := und_loop c (C := tst (mBin (bo gNe) (eV 3) (eLst lNil))) (B := (sSeq (sSet 4 (eMeth 3 gPop lNil))
    (sIf (tst (mBin (bo gNotIn) (eV 4) (eV 2))) (sSeq (sDPutM 2 (frz (eV 4)) (frz (eC (.bl true))))
    (sSet 3 (mBin gAdd (eV 3) (mCall gList (aCons (mBin gIx (eV 0) (eV 4)) aNil))))) sNil))) (E := fun l f s => [.fz (.dK (othersK its)), .fz (.str x), .own (.dK (foundK f)), .own (.lst (l.map D.str)), s])
    (fun f s => und_test (l := []) (fun y hy => by simp at hy)) (fun l y f s F => by
      have q := und_test (a0 := .fz (.dK (othersK its))) (a1 := .fz (.str x)) (a2 := .own (.dK (foundK f))) (s := s) (asc (l ++ [y]) F.hl)
      rw [decide_eq_false (by simp : ¬ (l ++ [y] = []))] at q
      exact q)
    (fun l y f s F hy => by
      have hyn := F.hl y (by simp)
      have fl : f.length ≤ 100 := by have := nodup_le F.nd F.hf; rw [List.length_map] at this; omega
      obtain ⟨q1, q2⟩ := osOf_ok c hyn
      have ll := F.len
      rw [List.length_append] at ll
      simp only [List.map_append, List.map_cons, List.map_nil]
      exact und_t1 (pop_last _ _) (by rw [O.d_dK, notIn_found, decide_eq_false hy]; rfl) (put_found hy fl) (ix_others hyn) (by
        show (if (l.map D.str).length + ((osOf its y).map D.str).length ≤ sizeLine then some (Pl.n (O.lst (l.map D.str ++ (osOf its y).map D.str))) else none) = _
        rw [if_pos (by rw [List.length_map, List.length_map]; exact sz_of (by omega))]))
    (fun l y f s F hy => by
      simp only [List.map_append, List.map_cons, List.map_nil]
      exact und_t2 (pop_last _ _) (by rw [O.d_dK, notIn_found, decide_eq_true hy]; rfl))
    4096 (osOf its x) [] .un ⟨o1, fun y hy => by simp at hy, List.nodup_nil, by omega⟩ (by simp; omega) (by simp; omega)
  refine ⟨?_, F⟩
  have ix := ix_others hx
  simp only [List.map_nil] at e
  have e' : foundK [] = [] := rfl
  rw [e'] at e
  have ed : eDK [.fz (.dK (othersK its)), .fz (.str x), .un, .un, .un] = .ok (.n (.dK [])) [.fz (.dK (othersK its)), .fz (.str x), .un, .un, .un] := rfl
  simp [m_all_under, b_all_under, List.replicate, ed, ix, gList, e]
end NT

set_option Elab.async false
set_option linter.all false
set_option maxRecDepth 100000
set_option maxHeartbeats 4000000
namespace NT
open PySem PySem.Spec PyProof.Rows L2 PySem.W
theorem gEq_str {a b : Str} (ha : KSb.Asc a) (hb : KSb.Asc b) : gEq (.str a) (.str b) = some (decide (a = b)) := by
  have e : (a == b) = decide (a = b) := by
    rw [Bool.eq_iff_iff, beq_iff_eq, decide_eq_true_eq]
  simp [gEq, toP, SeqAt.shaped, PyData.canLay0, strOk_asc ha, strOk_asc hb, PyData.depth, PyData.eqv, e]
theorem filt_head {its : List It4} {x : Str} {i : It4} (e : itOf its x = some i) : ∃ r, its.filter (fun j => decide (j.nm = x)) = i :: r := by
  have h : (its.filter (fun j => decide (j.nm = x))).head? = some i := by rw [List.head?_filter]; exact e
  cases hl : its.filter (fun j => decide (j.nm = x)) with
  | nil => rw [hl] at h; cases h
  | cons a r => rw [hl] at h; cases h; exact ⟨r, rfl⟩
def m__law_others : Fn := fnOf 1 0 b__law_others
theorem law_others_ok {its : List It4} (c : Closed its) {x : Str} (hx : x ∈ its.map (·.nm)) : m__law_others [.fz (.tup (its.map itD)), .fz (.str x)] = .ok (.v (.tup ((osOf its x).map D.str))) [] := by
  obtain ⟨i, e⟩ := itOf_of hx
  have few := c.few
  have z : osOf its x = i.os := by unfold osOf; rw [e]
  obtain ⟨r, hr⟩ := filt_head e
  have hc : mComp [2] (mIter (frz (eV 0))) (gN 2) (tst (mBin (bo gEq) (mBin gIx (eV 2) (eC (.int 0))) (eV 1))) (frz (mBin gIx (eV 2) (eC (.int 2)))) [.fz (.tup (its.map itD)), .fz (.str x), .un] = .ok (.n (.lst ((i :: r).map fun j => .tup (j.os.map D.str)))) [.fz (.tup (its.map itD)), .fz (.str x), .un] := by
    have q := comp_ok (vs := [2]) (it := mIter (frz (eV 0))) (g := gN 2) (tt := tst (mBin (bo gEq) (mBin gIx (eV 2) (eC (.int 0))) (eV 1))) (te := frz (mBin gIx (eV 2) (eC (.int 2)))) (r := [.fz (.tup (its.map itD)), .fz (.str x), .un]) (r0 := [.fz (.tup (its.map itD)), .fz (.str x), .un]) (ds := its.map itD) (fun d => match d with | .tup (.str n :: _) => decide (n = x) | _ => false) at2 rfl (by rw [List.length_map]; exact sz_of (by omega)) (fun d hd => by
      obtain ⟨j, hj, rfl⟩ := List.mem_map.mp hd
      have e0 : gIx (itD j) (.int 0) = some (.v (.str j.nm)) := rfl
      have e2 : gIx (itD j) (.int 2) = some (.v (.tup (j.os.map D.str))) := rfl
      have e3 := gEq_str (nameS_asc (c.good j hj).n) (names_asc c hx)
      exact ⟨[.fz (.tup (its.map itD)), .fz (.str x), .fz (itD j)], [.fz (.tup (its.map itD)), .fz (.str x), .fz (itD j)], by simp [wipeE], by simp [e0, e3] <;> rfl, fun _ => by simp [wipeE], fun _ => ⟨[.fz (.tup (its.map itD)), .fz (.str x), .fz (itD j)], by simp [e2] <;> rfl, by simp [wipeE]⟩⟩)
    rw [q, List.filter_map, List.map_map]
    have ef : its.filter ((fun d => match d with | D.tup (.str n :: _) => decide (n = x) | _ => false) ∘ itD) = i :: r := hr
    rw [ef]
    rfl
  have ix : gIx (.lst ((i :: r).map fun j => D.tup (j.os.map D.str))) (.int 0) = some (.v (.tup (i.os.map D.str))) := by
    rw [List.map_cons]
    unfold gIx
    simp only
    rw [atI_0]
  rw [z]
  generalize ((i :: r).map fun j => D.tup (j.os.map D.str)) = L at hc ix
  simp [m__law_others, b__law_others, List.replicate, hc, ix]
theorem lund_t1 {gp ga : List D → List D → Option (D × List D)} {ml : Fn} {web x w : D} {a1 s : Sl} {L L' T LT f f' : List D} (e1 : gp L [] = some (x, L')) (e2 : gNotIn x (.lst f) = some true) (e3 : ga f [x] = some (w, f')) (e4 : ml [.fz web, .fz x] = .ok (.v (.tup T)) []) (e5 : gAdd (.lst L') (.lst T) = some (.n (.lst LT))) :
    (sSeq (sSet 4 (eMeth 3 gp lNil))
    (sIf (tst (mBin (bo gNotIn) (eV 4) (eV 2))) (sSeq (sExpr (eMeth 2 ga (lCons (frz (eV 4)) lNil)))
    (sSet 3 (mBin gAdd (eV 3) (mCall gList (aCons (mApp [] ml (lCons (frz (eV 0)) (lCons (frz (eV 4)) lNil))) aNil))))) sNil)) [.fz web, a1, .own (.lst f), .own (.lst L), s] = .nx [.fz web, a1, .own (.lst f'), .own (.lst LT), .fz x] := by
  simp [e1, e2, e3, e4, gList, e5]
def m__law_under : Fn := fnOf 3 0 (b__law_under m__law_others)
theorem law_under_gen {ml : Fn} {its : List It4} (c : Closed its) (hm : ∀ y ∈ its.map (·.nm), ml [.fz (.tup (its.map itD)), .fz (.str y)] = .ok (.v (.tup ((osOf its y).map D.str))) []) {x : Str} (hx : x ∈ its.map (·.nm)) :
    fnOf 3 0 (b__law_under ml) [.fz (.tup (its.map itD)), .fz (.str x)] = .ok (.n (.lst ((sortStr (und its 4096 (osOf its x) [])).map D.str))) [] := by
  obtain ⟨o1, o2⟩ := osOf_ok c hx
  have few := c.few
  have asc : ∀ l : List Str, (∀ y ∈ l, y ∈ its.map (·.nm)) → ∀ y ∈ l, KSb.Asc y := fun l h y hy => names_asc c (h y hy)
  obtain ⟨s', e, F⟩ := und_loop c (C := tst (mBin (bo gNe) (eV 3) (eLst lNil))) (B := (sSeq (sSet 4 (eMeth 3 gPop lNil))
    (sIf (tst (mBin (bo gNotIn) (eV 4) (eV 2))) (sSeq (sExpr (eMeth 2 gAppend (lCons (frz (eV 4)) lNil)))
    (sSet 3 (mBin gAdd (eV 3) (mCall gList (aCons (mApp [] ml (lCons (frz (eV 0)) (lCons (frz (eV 4)) lNil))) aNil))))) sNil))) (E := fun l f s => [.fz (.tup (its.map itD)), .fz (.str x), .own (.lst (f.map D.str)), .own (.lst (l.map D.str)), s])
    (fun f s => und_test (l := []) (fun y hy => by simp at hy)) (fun l y f s F => by
      have q := und_test (a0 := .fz (.tup (its.map itD))) (a1 := .fz (.str x)) (a2 := .own (.lst (f.map D.str))) (s := s) (asc (l ++ [y]) F.hl)
      rw [decide_eq_false (by simp : ¬ (l ++ [y] = []))] at q
      exact q)
    (fun l y f s F hy => by
      have hyn := F.hl y (by simp)
      have fl : f.length ≤ 100 := by have := nodup_le F.nd F.hf; rw [List.length_map] at this; omega
      obtain ⟨q1, q2⟩ := osOf_ok c hyn
      have ll := F.len
      rw [List.length_append] at ll
      simp only [List.map_append, List.map_cons, List.map_nil]
      exact lund_t1 (pop_last _ _) (by
        show (match gInL (.str y) (f.map D.str) with | some b => some (!b) | none => none) = _
        rw [gIn_strs (names_asc c hyn) (asc f F.hf), decide_eq_false hy]; rfl) (app_ok (by rw [List.length_map]; omega)) (hm y hyn) (by
        show (if (l.map D.str).length + ((osOf its y).map D.str).length ≤ sizeLine then some (Pl.n (O.lst (l.map D.str ++ (osOf its y).map D.str))) else none) = _
        rw [if_pos (by rw [List.length_map, List.length_map]; exact sz_of (by omega))]))
    (fun l y f s F hy => by
      have hyn := F.hl y (by simp)
      simp only [List.map_append, List.map_cons, List.map_nil]
      exact und_t2 (pop_last _ _) (by
        show (match gInL (.str y) (f.map D.str) with | some b => some (!b) | none => none) = _
        rw [gIn_strs (names_asc c hyn) (asc f F.hf), decide_eq_true hy]; rfl))
    4096 (osOf its x) [] .un ⟨o1, fun y hy => by simp at hy, List.nodup_nil, by omega⟩ (by simp; omega) (by simp; omega)
  have hl := hm x hx
  simp only [List.map_nil] at e
  have z0 : (0 : Nat) ≤ sizeLine := Nat.zero_le _
  have hs := sorted_str (und its 4096 (osOf its x) [])
  generalize und its 4096 (osOf its x) [] = U at e hs ⊢
  simp [b__law_under, List.replicate, z0, hl, gList, e, hs]
theorem law_under_ok {its : List It4} (c : Closed its) {x : Str} (hx : x ∈ its.map (·.nm)) : m__law_under [.fz (.tup (its.map itD)), .fz (.str x)] = .ok (.n (.lst ((sortStr (und its 4096 (osOf its x) [])).map D.str))) [] := law_under_gen c (fun y hy => law_others_ok c hy) hx
end NT

set_option Elab.async false
set_option linter.all false
set_option maxRecDepth 100000
set_option maxHeartbeats 1000000
namespace NT
open PySem PySem.Spec PyProof.Rows L2
/-! walks, forwards: a comprehension or a loop is named by what it comes to -/
@[simp] theorem wipeE_nil (r : En) : wipeE r [] = r := rfl
@[simp] theorem wipeE_cons (r : En) (v : Nat) (vs : List Nat) : wipeE r (v :: vs) = (wipeE r vs).set v .un := rfl
@[simp] theorem restE_nil (r0 r : En) : restE r0 r [] = r := rfl
@[simp] theorem restE_cons (r0 r : En) (v : Nat) (vs : List Nat) : restE r0 r (v :: vs) = (restE r0 r vs).set v (r0.getD v .un) := rfl
def tc3 (vs : List Nat) (e : D) (r : En) : R (Option D) := .ok (some e) (wipeE r vs)
@[simp] theorem tc3_eq (vs : List Nat) (e : D) (r : En) : tc3 vs e r = .ok (some e) (wipeE r vs) := rfl
def tc2 (vs : List Nat) (te : M D) (b : Bool) (r : En) : R (Option D) := if b = true then (te r).b (tc3 vs) else .ok none (wipeE r vs)
@[simp] theorem tc2_eq (vs : List Nat) (te : M D) (b : Bool) (r : En) : tc2 vs te b r = if b = true then (te r).b (tc3 vs) else .ok none (wipeE r vs) := rfl
def tc1 (vs : List Nat) (tt : M Bool) (te : M D) (_ : Unit) (r : En) : R (Option D) := (tt r).b (tc2 vs te)
@[simp] theorem tc1_eq (vs : List Nat) (tt : M Bool) (te : M D) (u : Unit) (r : En) : tc1 vs tt te u r = (tt r).b (tc2 vs te) := rfl
/-- one turn of a list comprehension -/
def turnC (vs : List Nat) (g : D → M Unit) (tt : M Bool) (te : M D) (r : En) (d : D) : R (Option D) := (g d r).b (tc1 vs tt te)
theorem compL_turn {α : Type} {enc : α → D} (q : α → Option D) {vs : List Nat} {g : D → M Unit} {tt : M Bool} {te : M D} {r : En} : ∀ xs : List α, (∀ x ∈ xs, turnC vs g tt te r (enc x) = .ok (q x) r) → compL vs g tt te (xs.map enc) r = .ok (xs.filterMap q) r
  | [], _ => rfl
  | x :: xs, h => by
    have ih := compL_turn q (vs := vs) (g := g) (tt := tt) (te := te) (r := r) xs fun y hy => h y (List.mem_cons_of_mem _ hy)
    have hx := h x List.mem_cons_self
    rw [List.map_cons]
    unfold compL
    unfold turnC at hx
    cases hg : g (enc x) r with
    | ex a b => rw [hg] at hx; simp at hx
    | st => rw [hg] at hx; simp at hx
    | ok u r1 =>
      rw [hg] at hx
      simp only [R.b_ok, tc1_eq] at hx ⊢
      cases ht : tt r1 with
      | ex a b => rw [ht] at hx; simp at hx
      | st => rw [ht] at hx; simp at hx
      | ok b r2 =>
        rw [ht] at hx
        simp only [R.b_ok, tc2_eq] at hx ⊢
        cases b with
        | false =>
          simp only [Bool.false_eq_true, if_false, R.ok.injEq] at hx ⊢
          rw [hx.2, ih, List.filterMap_cons_none hx.1.symm]
        | true =>
          simp only [if_true] at hx ⊢
          cases he : te r2 with
          | ex a b => rw [he] at hx; simp at hx
          | st => rw [he] at hx; simp at hx
          | ok e r3 =>
            rw [he] at hx
            simp only [R.b_ok, tc3_eq, R.ok.injEq] at hx ⊢
            rw [hx.2, ih, List.filterMap_cons_some hx.1.symm]
section
variable {α : Type} {enc : α → D} {xs : List α} {vs : List Nat} {it : M (List D)} {g : D → M Unit} {tt : M Bool} {te : M D} {r r0 : En}
theorem compM (q : α → Option D) (hi : it r = .ok (xs.map enc) r0) (hl : xs.length ≤ sizeLine) (h : ∀ x ∈ xs, turnC vs g tt te (wipeE r0 vs) (enc x) = .ok (q x) (wipeE r0 vs)) :
    mComp vs it g tt te r = .ok (.n (.lst (xs.filterMap q))) (restE r0 (wipeE r0 vs) vs) := by
  unfold mComp
  rw [hi]
  simp only
  unfold mCompA
  rw [compL_turn q xs h]
  simp only
  rw [if_pos]
  exact Nat.le_trans (List.length_filterMap_le _ _) hl
/-- [f x for x in xs] -/
theorem compT (f : α → D) (hi : it r = .ok (xs.map enc) r) (hl : xs.length ≤ sizeLine) (h : ∀ x ∈ xs, turnC vs g tt te (wipeE r vs) (enc x) = .ok (some (f x)) (wipeE r vs)) :
    mComp vs it g tt te r = .ok (.n (.lst (xs.map f))) (restE r (wipeE r vs) vs) := by
  have q := compM (fun x => some (f x)) hi hl h
  have e : xs.filterMap (fun x => some (f x)) = xs.map f := by rw [← List.filterMap_eq_map]; rfl
  rw [q, e]
theorem filterMap_ite (p : α → Bool) (f : α → D) : ∀ l : List α, l.filterMap (fun x => if p x = true then some (f x) else none) = (l.filter p).map f
  | [] => rfl
  | x :: l => by
    have ih := filterMap_ite p f l
    cases h : p x <;> simp [List.filterMap_cons, List.filter_cons, h, ih]
/-- [f x for x in xs if p x] -/
theorem compP (p : α → Bool) (f : α → D) (hi : it r = .ok (xs.map enc) r) (hl : xs.length ≤ sizeLine) (h : ∀ x ∈ xs, turnC vs g tt te (wipeE r vs) (enc x) = .ok (if p x = true then some (f x) else none) (wipeE r vs)) :
    mComp vs it g tt te r = .ok (.n (.lst ((xs.filter p).map f))) (restE r (wipeE r vs) vs) := by
  have q := compM (fun x => if p x = true then some (f x) else none) hi hl h
  rw [q, filterMap_ite]
theorem compT0 (f : α → D) (hi : it r = .ok (xs.map enc) r0) (hl : xs.length ≤ sizeLine) (h : ∀ x ∈ xs, turnC vs g tt te (wipeE r0 vs) (enc x) = .ok (some (f x)) (wipeE r0 vs)) :
    mComp vs it g tt te r = .ok (.n (.lst (xs.map f))) (restE r0 (wipeE r0 vs) vs) := by
  have q := compM (fun x => some (f x)) hi hl h
  have e : xs.filterMap (fun x => some (f x)) = xs.map f := by rw [← List.filterMap_eq_map]; rfl
  rw [q, e]
theorem compP0 (p : α → Bool) (f : α → D) (hi : it r = .ok (xs.map enc) r0) (hl : xs.length ≤ sizeLine) (h : ∀ x ∈ xs, turnC vs g tt te (wipeE r0 vs) (enc x) = .ok (if p x = true then some (f x) else none) (wipeE r0 vs)) :
    mComp vs it g tt te r = .ok (.n (.lst ((xs.filter p).map f))) (restE r0 (wipeE r0 vs) vs) := by
  have q := compM (fun x => if p x = true then some (f x) else none) hi hl h
  rw [q, filterMap_ite]
end
/-! two fors -/
def t2d (vs : List Nat) (xs : List D) (r : En) : R (List D) := .ok xs (wipeE r vs)
@[simp] theorem t2d_eq (vs : List Nat) (xs : List D) (r : En) : t2d vs xs r = .ok xs (wipeE r vs) := rfl
def t2c (vs vs1 : List Nat) (g1 : D → M Unit) (tt1 : M Bool) (te : M D) (ds : List D) (r : En) : R (List D) := (compL vs1 g1 tt1 te ds (wipeE r vs1)).b (t2d vs)
@[simp] theorem t2c_eq (vs vs1 : List Nat) (g1 : D → M Unit) (tt1 : M Bool) (te : M D) (ds : List D) (r : En) : t2c vs vs1 g1 tt1 te ds r = (compL vs1 g1 tt1 te ds (wipeE r vs1)).b (t2d vs) := rfl
def t2b (vs vs1 : List Nat) (it1 : M (List D)) (g1 : D → M Unit) (tt1 : M Bool) (te : M D) (b : Bool) (r : En) : R (List D) := if b = true then (it1 r).b (t2c vs vs1 g1 tt1 te) else .ok [] (wipeE r vs)
@[simp] theorem t2b_eq (vs vs1 : List Nat) (it1 : M (List D)) (g1 : D → M Unit) (tt1 : M Bool) (te : M D) (b : Bool) (r : En) : t2b vs vs1 it1 g1 tt1 te b r = if b = true then (it1 r).b (t2c vs vs1 g1 tt1 te) else .ok [] (wipeE r vs) := rfl
def t2a (vs vs1 : List Nat) (tt : M Bool) (it1 : M (List D)) (g1 : D → M Unit) (tt1 : M Bool) (te : M D) (_ : Unit) (r : En) : R (List D) := (tt r).b (t2b vs vs1 it1 g1 tt1 te)
@[simp] theorem t2a_eq (vs vs1 : List Nat) (tt : M Bool) (it1 : M (List D)) (g1 : D → M Unit) (tt1 : M Bool) (te : M D) (u : Unit) (r : En) : t2a vs vs1 tt it1 g1 tt1 te u r = (tt r).b (t2b vs vs1 it1 g1 tt1 te) := rfl
def turn2 (vs vs1 : List Nat) (g : D → M Unit) (tt : M Bool) (it1 : M (List D)) (g1 : D → M Unit) (tt1 : M Bool) (te : M D) (r : En) (d : D) : R (List D) := (g d r).b (t2a vs vs1 tt it1 g1 tt1 te)
theorem comp2L_turn {α : Type} {enc : α → D} (q : α → List D) {vs vs1 : List Nat} {g : D → M Unit} {tt : M Bool} {it1 : M (List D)} {g1 : D → M Unit} {tt1 : M Bool} {te : M D} {r : En} : ∀ xs : List α, (∀ x ∈ xs, turn2 vs vs1 g tt it1 g1 tt1 te r (enc x) = .ok (q x) r) → comp2L vs vs1 g tt it1 g1 tt1 te (xs.map enc) r = .ok (xs.flatMap q) r
  | [], _ => rfl
  | x :: xs, h => by
    have ih := comp2L_turn q (vs := vs) (vs1 := vs1) (g := g) (tt := tt) (it1 := it1) (g1 := g1) (tt1 := tt1) (te := te) (r := r) xs fun y hy => h y (List.mem_cons_of_mem _ hy)
    have hx := h x List.mem_cons_self
    rw [List.map_cons, List.flatMap_cons]
    unfold comp2L
    unfold turn2 at hx
    cases hg : g (enc x) r with
    | ex a b => rw [hg] at hx; simp at hx
    | st => rw [hg] at hx; simp at hx
    | ok u r1 =>
      rw [hg] at hx
      simp only [R.b_ok, t2a_eq] at hx ⊢
      cases ht : tt r1 with
      | ex a b => rw [ht] at hx; simp at hx
      | st => rw [ht] at hx; simp at hx
      | ok b r2 =>
        rw [ht] at hx
        simp only [R.b_ok, t2b_eq] at hx ⊢
        cases b with
        | false =>
          simp only [Bool.false_eq_true, if_false, R.ok.injEq] at hx ⊢
          rw [hx.2, ih, ← hx.1, List.nil_append]
        | true =>
          simp only [if_true] at hx ⊢
          cases hi : it1 r2 with
          | ex a b => rw [hi] at hx; simp at hx
          | st => rw [hi] at hx; simp at hx
          | ok ds r3 =>
            rw [hi] at hx
            simp only [R.b_ok, t2c_eq] at hx ⊢
            cases hc : compL vs1 g1 tt1 te ds (wipeE r3 vs1) with
            | ex a b => rw [hc] at hx; simp at hx
            | st => rw [hc] at hx; simp at hx
            | ok ys r4 =>
              rw [hc] at hx
              simp only [R.b_ok, t2d_eq, R.ok.injEq] at hx ⊢
              rw [hx.2, ih, hx.1]
theorem comp2M {α : Type} {enc : α → D} {xs : List α} {vs vs1 : List Nat} {it : M (List D)} {g : D → M Unit} {tt : M Bool} {it1 : M (List D)} {g1 : D → M Unit} {tt1 : M Bool} {te : M D} {r : En} (q : α → List D) (hi : it r = .ok (xs.map enc) r) (hl : (xs.flatMap q).length ≤ sizeLine)
    (h : ∀ x ∈ xs, turn2 vs vs1 g tt it1 g1 tt1 te (wipeE r vs) (enc x) = .ok (q x) (wipeE r vs)) : mComp2 vs vs1 it g tt it1 g1 tt1 te r = .ok (.n (.lst (xs.flatMap q))) (restE r (wipeE r vs) vs) := by
  unfold mComp2
  rw [hi]
  simp only
  rw [comp2L_turn q xs h]
  simp only
  rw [if_pos hl]
/-! dict comprehensions -/
def td4 (vs : List Nat) (kd : D) (vd : D) (r : En) : R (D × D) := .ok (kd, vd) (wipeE r vs)
@[simp] theorem td4_eq (vs : List Nat) (kd vd : D) (r : En) : td4 vs kd vd r = .ok (kd, vd) (wipeE r vs) := rfl
def td3 (vs : List Nat) (tv : M D) (kd : D) (r : En) : R (D × D) := (tv r).b (td4 vs kd)
@[simp] theorem td3_eq (vs : List Nat) (tv : M D) (kd : D) (r : En) : td3 vs tv kd r = (tv r).b (td4 vs kd) := rfl
def td1 (vs : List Nat) (tk tv : M D) (_ : Unit) (r : En) : R (D × D) := (tk r).b (td3 vs tv)
@[simp] theorem td1_eq (vs : List Nat) (tk tv : M D) (u : Unit) (r : En) : td1 vs tk tv u r = (tk r).b (td3 vs tv) := rfl
def turnD (vs : List Nat) (g : D → M Unit) (tk tv : M D) (r : En) (d : D) : R (D × D) := (g d r).b (td1 vs tk tv)
/-! loops -/
def RS.n : RS → RS
  | .ct r => .nx r
  | x => x
@[simp] theorem RS.n_nx (r : En) : (RS.nx r).n = .nx r := rfl
@[simp] theorem RS.n_ct (r : En) : (RS.ct r).n = .nx r := rfl
@[simp] theorem RS.n_bk (r : En) : (RS.bk r).n = .bk r := rfl
@[simp] theorem RS.n_rt (p : Pl) (r : En) : (RS.rt p r).n = .rt p r := rfl
@[simp] theorem RS.n_ex (x : Exn) (r : En) : (RS.ex x r).n = .ex x r := rfl
@[simp] theorem RS.n_st : RS.st.n = .st := rfl
@[simp] theorem RS.n_ite {c : Prop} [Decidable c] (x y : RS) : (if c then x else y).n = if c then x.n else y.n := by split <;> rfl
def tfK (b : En → RS) (_ : Unit) (r : En) : RS := (b r).n
@[simp] theorem tfK_eq (b : En → RS) (u : Unit) (r : En) : tfK b u r = (b r).n := rfl
/-- one turn of a for -/
def turnF (g : D → M Unit) (b : En → RS) (d : D) (r : En) : RS := (g d r).s (tfK b)
theorem forL_turn {g : D → M Unit} {b : En → RS} {d : D} {ds : List D} {r : En} {r1 : En} (h : turnF g b d r = .nx r1) : forL g b (d :: ds) r = forL g b ds r1 := by
  rw [forL_cons]
  unfold turnF at h
  cases hg : g d r with
  | ok u r2 =>
    rw [hg] at h
    simp only [R.s_ok, tfK_eq, turnK_eq] at h ⊢
    cases hb : b r2 <;> rw [hb] at h <;> simp at h <;> subst h <;> rfl
  | ex a b => rw [hg] at h; simp at h
  | st => rw [hg] at h; simp at h
theorem forL_turn_rt {g : D → M Unit} {b : En → RS} {d : D} {ds : List D} {r : En} {r1 : En} {p : Pl} (h : turnF g b d r = .rt p r1) : forL g b (d :: ds) r = .rt p r1 := by
  rw [forL_cons]
  unfold turnF at h
  cases hg : g d r with
  | ok u r2 =>
    rw [hg] at h
    simp only [R.s_ok, tfK_eq, turnK_eq] at h ⊢
    cases hb : b r2 <;> rw [hb] at h <;> simp at h
    obtain ⟨rfl, rfl⟩ := h
    rfl
  | ex a b => rw [hg] at h; simp at h
  | st => rw [hg] at h; simp at h
section
variable {α : Type} {enc : α → D} {g : D → M Unit} {b : En → RS}
theorem forL_preA (I : List α → En → Prop) (p : α → Bool) (v : Pl) (Z : En → Prop) : ∀ (post pre : List α) (r : En), I pre r →
    (∀ pre' x post', pre ++ post = pre' ++ x :: post' → p x = true → ∀ r, I pre' r → ∃ r', turnF g b (enc x) r = .nx r' ∧ I (pre' ++ [x]) r') →
    (∀ pre' x post', pre ++ post = pre' ++ x :: post' → p x = false → ∀ r, I pre' r → ∃ r', turnF g b (enc x) r = .rt v r' ∧ Z r') →
    (post.all p = true → ∃ r', forL g b (post.map enc) r = .nx r' ∧ I (pre ++ post) r') ∧ (post.all p = false → ∃ r', forL g b (post.map enc) r = .rt v r' ∧ Z r')
  | [], pre, r, h, _, _ => ⟨fun _ => ⟨r, rfl, by rw [List.append_nil]; exact h⟩, fun z => (by cases z)⟩
  | x :: post, pre, r, h, h1, h2 => by
    rw [List.map_cons, List.all_cons]
    cases hp : p x with
    | false =>
      obtain ⟨r', e, z⟩ := h2 pre x post rfl hp r h
      exact ⟨fun z => (by simp at z), fun _ => ⟨r', forL_turn_rt e, z⟩⟩
    | true =>
      obtain ⟨r', e, h'⟩ := h1 pre x post rfl hp r h
      have ih := forL_preA I p v Z post (pre ++ [x]) r' h' (by rw [List.append_assoc]; exact h1) (by rw [List.append_assoc]; exact h2)
      rw [List.append_assoc] at ih
      rw [forL_turn e, Bool.true_and]
      exact ih
/-- a loop that goes through all: I pre r: the row r behind the turns of pre -/
theorem for_all {ds : List D} {r : En} {X : RS} (hX : forL g b ds r = X) (xs : List α) (hd : ds = xs.map enc) (I : List α → En → Prop) (h0 : I [] r) (h : ∀ pre x post, xs = pre ++ x :: post → ∀ r, I pre r → ∃ r', turnF g b (enc x) r = .nx r' ∧ I (pre ++ [x]) r') : ∃ r', X = .nx r' ∧ I xs r' := by
  subst hd hX
  have q := (forL_preA (enc := enc) (g := g) (b := b) I (fun _ => true) (.v .non) (fun _ => True) xs [] r h0 (fun pre x post e _ r hr => h pre x post e r hr) (fun pre x post e z => (by cases z))).1 (by simp)
  exact q
/-- a loop that may return v: where all are fine it goes through -/
theorem for_chk {ds : List D} {r : En} {X : RS} (hX : forL g b ds r = X) (xs : List α) (hd : ds = xs.map enc) (p : α → Bool) (v : Pl) (I : List α → En → Prop) (h0 : I [] r) (h1 : ∀ pre x post, xs = pre ++ x :: post → p x = true → ∀ r, I pre r → ∃ r', turnF g b (enc x) r = .nx r' ∧ I (pre ++ [x]) r')
    (h2 : ∀ pre x post, xs = pre ++ x :: post → p x = false → ∀ r, I pre r → ∃ r', turnF g b (enc x) r = .rt v r') : (xs.all p = true → ∃ r', X = .nx r' ∧ I xs r') ∧ (xs.all p = false → ∃ r', X = .rt v r') := by
  subst hd hX
  have q := forL_preA (enc := enc) (g := g) (b := b) I p v (fun _ => True) xs [] r h0 h1 (fun pre x post e z r hr => by obtain ⟨r', e⟩ := h2 pre x post e z r hr; exact ⟨r', e, trivial⟩)
  exact ⟨q.1, fun z => by obtain ⟨r', e, _⟩ := q.2 z; exact ⟨r', e⟩⟩
end
/-- one turn of a while -/
def twK (b : En → RS) (c : Bool) (r : En) : RS := if c = true then (b r).n else .bk r
@[simp] theorem twK_eq (b : En → RS) (c : Bool) (r : En) : twK b c r = if c = true then (b r).n else .bk r := rfl
/-- a while: S s: what is left to do; J: what the rows are -/
theorem while_all {c : M Bool} {b : En → RS} {n : Nat} {r : En} {X : RS} (hX : whileN c b n r = X) {σ : Type} (J : σ → En → Prop) (μ : σ → Nat) (s : σ) (h0 : J s r) (hn : μ s < n)
    (h : ∀ s r, J s r → (c r).s (twK b) = .bk r ∧ μ s = 0 ∨ ∃ s' r', (c r).s (twK b) = .nx r' ∧ J s' r' ∧ μ s' < μ s) : ∃ s' r', X = .nx r' ∧ J s' r' ∧ (c r').s (twK b) = .bk r' := by
  subst hX
  induction n generalizing s r with
  | zero => omega
  | succ n ih =>
    rw [whileN_succ]
    rcases h s r h0 with ⟨e, hm⟩ | ⟨s', r', e, h', hm⟩
    · refine ⟨s, r, ?_, h0, e⟩
      cases hc : c r with
      | ok k r1 =>
        rw [hc] at e
        simp only [R.s_ok, twK_eq, wbK_eq] at e ⊢
        cases k with
        | false => simp at e ⊢; exact e
        | true =>
          simp only [if_true] at e ⊢
          cases hb : b r1 <;> rw [hb] at e <;> simp at e
          subst e; rfl
      | ex a b => rw [hc] at e; simp at e
      | st => rw [hc] at e; simp at e
    · have e2 : (c r).s (wbK b (whileN c b n)) = whileN c b n r' := by
        cases hc : c r with
        | ok k r1 =>
          rw [hc] at e
          simp only [R.s_ok, twK_eq, wbK_eq] at e ⊢
          cases k with
          | false => simp at e
          | true =>
            simp only [if_true] at e ⊢
            cases hb : b r1 <;> rw [hb] at e <;> simp at e <;> subst e <;> rfl
        | ex a b => rw [hc] at e; simp at e
        | st => rw [hc] at e; simp at e
      rw [e2]
      exact ih s' h' (by omega)
/-! stores in tables, d.get(k, x): step by step -/
def dpO (i : Nat) (r : En) : Option O → RS
  | some o => .nx (r.set i (.own o))
  | none => .st
@[simp] theorem dpO_some (i : Nat) (r : En) (o : O) : dpO i r (some o) = .nx (r.set i (.own o)) := rfl
def dpS (i : Nat) (d k : D) (r : En) : Option Sl → RS
  | some (.own o) => dpO i r (putO o k d)
  | _ => .st
@[simp] theorem dpS_own (i : Nat) (d k : D) (r : En) (o : O) : dpS i d k r (some (.own o)) = dpO i r (putO o k d) := rfl
def dpK2 (i : Nat) (d k : D) (r : En) : RS := dpS i d k r r[i]?
@[simp] theorem dpK2_eq (i : Nat) (d k : D) (r : En) : dpK2 i d k r = dpS i d k r r[i]? := rfl
def dpK1 (i : Nat) (fk : M D) (d : D) (r : En) : RS := if isOwn r[i]? = true then (fk r).s (dpK2 i d) else .st
@[simp] theorem dpK1_eq (i : Nat) (fk : M D) (d : D) (r : En) : dpK1 i fk d r = if isOwn r[i]? = true then (fk r).s (dpK2 i d) else .st := rfl
@[simp] theorem isOwn_own (o : O) : isOwn (some (.own o)) = true := rfl
@[simp] theorem sDPutM_eq (i : Nat) (fk fv : M D) (r : En) : sDPutM i fk fv r = (fv r).s (dpK1 i fk) := by
  unfold sDPutM
  cases fv r with
  | ok d r1 =>
    simp only [R.s_ok, dpK1_eq]
    split
    · cases fk r1 with
      | ok k r2 =>
        simp only [R.s_ok, dpK2_eq]
        unfold dpS
        generalize r2[i]? = z
        cases z with
        | none => rfl
        | some sl =>
          cases sl with
          | own o => show (match putO o k d with | some o' => _ | none => _) = dpO i r2 (putO o k d); cases putO o k d <;> rfl
          | un => rfl
          | fz d0 => rfl
      | _ => rfl
    · rfl
  | _ => rfl
def gdR (x : D) (r : En) : Option (Option D) → R Pl
  | some (some v) => .ok (.v v) r
  | some none => .ok (.v x) r
  | none => .st
@[simp] theorem gdR_some (x v : D) (r : En) : gdR x r (some (some v)) = .ok (.v v) r := rfl
@[simp] theorem gdR_none (x : D) (r : En) : gdR x r (some none) = .ok (.v x) r := rfl
def gd5 (x d k : D) (r : En) : R Pl := gdR x r (gDGet d k)
@[simp] theorem gd5_eq (x d k : D) (r : En) : gd5 x d k r = gdR x r (gDGet d k) := rfl
def gd4 (q : Pl) (x d : D) (r : En) : R Pl := oO (deref r q) (gd5 x d) r
@[simp] theorem gd4_eq (q : Pl) (x d : D) (r : En) : gd4 q x d r = oO (deref r q) (gd5 x d) r := rfl
def gd3 (p q : Pl) (x : D) (r : En) : R Pl := oO (deref r p) (gd4 q x) r
@[simp] theorem gd3_eq (p q : Pl) (x : D) (r : En) : gd3 p q x r = oO (deref r p) (gd4 q x) r := rfl
def gd2 (fx : M Pl) (p : Pl) (q : Pl) (r : En) : R Pl := (frz fx r).b (gd3 p (opP q))
@[simp] theorem gd2_eq (fx : M Pl) (p q : Pl) (r : En) : gd2 fx p q r = (frz fx r).b (gd3 p (opP q)) := rfl
def gd1 (fk fx : M Pl) (p : Pl) (d0 : D) (r : En) : R Pl := if isDict d0 = true then (fk r).b (gd2 fx p) else .st
@[simp] theorem gd1_eq (fk fx : M Pl) (p : Pl) (d0 : D) (r : En) : gd1 fk fx p d0 r = if isDict d0 = true then (fk r).b (gd2 fx p) else .st := rfl
def gd0 (fk fx : M Pl) (p : Pl) (r : En) : R Pl := oO (deref r (opP p)) (gd1 fk fx (opP p)) r
@[simp] theorem gd0_eq (fk fx : M Pl) (p : Pl) (r : En) : gd0 fk fx p r = oO (deref r (opP p)) (gd1 fk fx (opP p)) r := rfl
@[simp] theorem isDict_dK (l : List (Key × D)) : isDict (.dK l) = true := rfl
@[simp] theorem isDict_dT (l : List (List Key × D)) : isDict (.dT l) = true := rfl
theorem opd_re (p : Pl) (r r' : En) (h : opP p = p) : opd (fun _ => R.ok p r) r' = .ok p r := by
  rw [opd_eq]; show (R.ok (opP p) r : R Pl) = _; rw [h]
@[simp] theorem opP_opP (p : Pl) : opP (opP p) = opP p := by cases p <;> rfl
@[simp] theorem eGetD_eq (fd fk fx : M Pl) (r : En) : eGetD fd fk fx r = (fd r).b (gd0 fk fx) := by
  unfold eGetD
  rw [opd_eq]
  cases fd r with
  | ok p r1 =>
    simp only [R.b_ok, oK_eq, gd0_eq]
    cases h1 : deref r1 (opP p) with
    | none => rfl
    | some d0 =>
      simp only [oO_some, gd1_eq]
      split
      · unfold eGet
        rw [opd_re _ _ _ (opP_opP p)]
        simp only [h1]
        rw [opd_eq]
        cases fk r1 with
        | ok q r2 =>
          simp only [R.b_ok, oK_eq, gd2_eq]
          cases frz fx r2 with
          | ok x r3 =>
            simp only [R.b_ok, gd3_eq]
            cases h2 : deref r3 (opP p) with
            | none => simp only [oO_none]
            | some d =>
              simp only [oO_some, gd4_eq]
              cases h3 : deref r3 (opP q) with
              | none => simp only [oO_none]
              | some k =>
                simp only [oO_some, gd5_eq]
                unfold gdR
                cases gDGet d k with
                | none => rfl
                | some o => cases o <;> rfl
          | _ => rfl
        | _ => rfl
      · rfl
  | _ => rfl
end NT

set_option Elab.async false
set_option linter.all false
set_option maxRecDepth 100000
set_option maxHeartbeats 4000000
namespace NT
open PySem PySem.Spec PyProof.Rows L2 PySem.W
/-! a drawn web, with all that is known of it -/
def P3 : List Str := ["pa", "pb", "pc"]
def T4 : List Str := ["ta", "tb", "tc", "td"]
def N5 : List Str := ["na", "nb", "nc", "nd", "ne"]
/-- an item as it is drawn -/
structure Loc (j : It4) : Prop where
  good : j.Good
  ok : j.Ok
  ris : RisS j.os
  sris : RisS j.ss
  sgn : ∀ s ∈ j.ss, s ∈ eupro
  knd : (j.nm ∈ P3 ∧ j.kd = "part" ∧ ∀ o ∈ j.os, o ∈ P3) ∨ (j.nm ∈ T4 ∧ j.kd = "trial" ∧ ∀ o ∈ j.os, o ∈ P3) ∨ (j.nm ∈ N5 ∧ (j.kd = "all" ∨ j.kd = "any") ∧ j.os ≠ [] ∧ ∀ o ∈ j.os, o ∈ T4 ∨ o ∈ N5)
/-- each leads to what was drawn ahead of it -/
def Ord4 (its : List It4) : Prop := ∀ pre i post, its = pre ++ i :: post → ∀ o ∈ i.os, o ∈ pre.map (·.nm)
theorem ord_nil : Ord4 [] := fun pre i post e => by simp at e
theorem snoc_split {α : Type} {l pre post : List α} {x i : α} (e : l ++ [x] = pre ++ i :: post) : (pre = l ∧ i = x ∧ post = []) ∨ ∃ post', post = post' ++ [x] ∧ l = pre ++ i :: post' := by
  rcases List.eq_nil_or_concat post with rfl | ⟨p', y, rfl⟩
  · have e2 : l ++ [x] = pre ++ [i] := e
    obtain ⟨a, b⟩ := List.append_inj' e2 rfl
    exact .inl ⟨a.symm, by simpa using b.symm, rfl⟩
  · rw [List.concat_eq_append] at e
    have e2 : l ++ [x] = (pre ++ i :: p') ++ [y] := by rw [e]; simp
    obtain ⟨a, b⟩ := List.append_inj' e2 rfl
    have b' : x = y := by simpa using b
    exact .inr ⟨p', by rw [b', List.concat_eq_append], a⟩
theorem ord_app {its : List It4} {i : It4} (h : Ord4 its) (hi : ∀ o ∈ i.os, o ∈ its.map (·.nm)) : Ord4 (its ++ [i]) := fun pre j post e => by
  rcases snoc_split e with ⟨rfl, rfl, _⟩ | ⟨post', _, e'⟩
  · exact hi
  · exact h pre j post' e'
theorem nameS_lit : ∀ x ∈ P3 ++ T4 ++ N5 ++ eupro, nameS x = true := by
  have h : (P3 ++ T4 ++ N5 ++ eupro).all nameS = true := by decide +kernel
  exact fun x hx => List.all_eq_true.mp h x hx
theorem sm_lit : ∀ x ∈ P3 ++ T4 ++ N5 ++ eupro, smS x = true := by
  have h : (P3 ++ T4 ++ N5 ++ eupro).all smS = true := by decide +kernel
  exact fun x hx => List.all_eq_true.mp h x hx
theorem in_lit {x : Str} (h : x ∈ P3 ∨ x ∈ T4 ∨ x ∈ N5 ∨ x ∈ eupro) : x ∈ P3 ++ T4 ++ N5 ++ eupro := by
  simp only [List.mem_append]
  rcases h with h | h | h | h <;> simp [h]
/-- what some of ss is, sorted -/
theorem some_mem {ss os : List Str} (p : ∃ r : List Str, (r ++ os).Perm ss) : ∀ x ∈ sortStr os, x ∈ ss := fun x hx => by
  obtain ⟨r, p⟩ := p
  exact p.mem_iff.mp (List.mem_append_right r ((sortStr_perm os).mem_iff.mp hx))
theorem some_ris {ss os : List Str} (p : ∃ r : List Str, (r ++ os).Perm ss) (nd : ss.Nodup) : RisS (sortStr os) := by
  obtain ⟨r, p⟩ := p
  exact sortStr_ris (List.nodup_append.mp (p.nodup_iff.mpr nd)).2.1
theorem nd_eupro : eupro.Nodup := by decide +kernel
theorem nd_P3 : P3.Nodup := by decide +kernel
theorem nd_all : (P3 ++ T4 ++ N5).Nodup := by decide +kernel
theorem loc_mk {nm kd : Str} {os ss : List Str} (hn : nm ∈ P3 ++ T4 ++ N5) (hk : kd ∈ kinds) (hr : RisS os) (hs : RisS ss) (hss : ∀ s ∈ ss, s ∈ eupro) (h4 : os.length ≤ 4) (h3 : ss.length ≤ 3) (ho : ∀ o ∈ os, o ∈ P3 ++ T4 ++ N5)
    (knd : (nm ∈ P3 ∧ kd = "part" ∧ ∀ o ∈ os, o ∈ P3) ∨ (nm ∈ T4 ∧ kd = "trial" ∧ ∀ o ∈ os, o ∈ P3) ∨ (nm ∈ N5 ∧ (kd = "all" ∨ kd = "any") ∧ os ≠ [] ∧ ∀ o ∈ os, o ∈ T4 ∨ o ∈ N5)) : Loc ⟨nm, kd, os, ss⟩ := by
  have up : ∀ x, x ∈ P3 ++ T4 ++ N5 → x ∈ P3 ++ T4 ++ N5 ++ eupro := fun x hx => List.mem_append_left _ hx
  have smk : smS kd = true := by
    have h : kinds.all smS = true := by decide +kernel
    exact List.all_eq_true.mp h kd hk
  exact ⟨⟨nameS_lit _ (up _ hn), hk, h4, fun x hx => nameS_lit _ (up _ (ho x hx)), h3⟩, ⟨sm_lit _ (up _ hn), smk, ⟨Nat.le_trans h4 (by decide), fun x hx => sm_lit _ (up _ (ho x hx))⟩, ⟨Nat.le_trans h3 (by decide), fun x hx => sm_lit _ (List.mem_append_right _ (hss x hx))⟩⟩, hr, hs, hss, knd⟩
/-- what stands in the list of a web behind the names L -/
structure WI (nd : Sl) (L : List Str) (its : List It4) : Prop where
  nm : its.map (·.nm) = L
  loc : ∀ j ∈ its, Loc j
  ord : Ord4 its
theorem WI.app {nd : Sl} {L : List Str} {its : List It4} {i : It4} (h : WI nd L its) (hi : Loc i) (ho : ∀ o ∈ i.os, o ∈ L) : WI nd (L ++ [i.nm]) (its ++ [i]) :=
  ⟨by rw [List.map_append, h.nm]; rfl, fun j hj => by
    rcases List.mem_append.mp hj with q | q
    · exact h.loc j q
    · rw [List.mem_singleton.mp q]; exact hi, ord_app h.ord (by rw [h.nm]; exact ho)⟩
def zE (p : Str × Nat) : D := .tup [.int (p.2 : Nat), .str p.1]
theorem enumD_zip : ∀ (l : List Str) (n : Nat), enumD n (l.map D.str) = (l.zipIdx n).map zE
  | [], _ => rfl
  | x :: l, n => by
    rw [List.map_cons, List.zipIdx_cons, List.map_cons, enumD, enumD_zip l (n + 1)]; rfl
theorem zip_split {l : List Str} {pre post : List (Str × Nat)} {x : Str × Nat} (e : l.zipIdx = pre ++ x :: post) : l = pre.map (·.1) ++ x.1 :: post.map (·.1) ∧ x.2 = pre.length := by
  have h1 : l.zipIdx.map (·.1) = l := List.zipIdx_map_fst 0 l
  rw [e] at h1
  refine ⟨by rw [← h1]; simp, ?_⟩
  have h2 : l.zipIdx[pre.length]? = some x := by rw [e]; simp
  rw [List.getElem?_zipIdx] at h2
  cases h3 : l[pre.length]? with
  | none => rw [h3] at h2; cases h2
  | some y => rw [h3] at h2; simp at h2; rw [← h2]
theorem zip_len {l : List Str} : (l.zipIdx).length = l.length := List.length_zipIdx
/-- the parts -/
theorem wb_l1 {nd : Sl} {ps : List Str} (hp : ∃ k, ps = P3.take k) {bg : List D} (hb : BagOk bg) :
    ∃ bg' its s4 s5 s6, forL (gT 2 (gsCons (gN 4) (gsCons (gN 5) gsNil))) (wb1 m__law_take m__law_some) (enumD 0 (ps.map D.str)) [.own (.lst bg), nd, .own (.lst []), .fz (.lst (ps.map D.str)), .un, .un, .un, .un, .un, .un] = .nx [.own (.lst bg'), nd, .own (.lst (its.map itD)), .fz (.lst (ps.map D.str)), s4, s5, s6, .un, .un, .un] ∧ BagOk bg' ∧ WI nd ps its := by
  obtain ⟨kk, hps⟩ := hp
  have hP : ∀ x ∈ ps, x ∈ P3 := fun x hx => by rw [hps] at hx; exact List.mem_of_mem_take hx
  have hl : ps.length ≤ 3 := by rw [hps, List.length_take]; exact Nat.min_le_right _ _
  have ndp : ps.Nodup := by rw [hps]; exact nd_P3.sublist (List.take_sublist _ _)
  obtain ⟨r', e, bg', its, s4, s5, s6, rfl, hb', w⟩ := for_all (enc := zE) (g := gT 2 (gsCons (gN 4) (gsCons (gN 5) gsNil))) (b := wb1 m__law_take m__law_some) rfl ps.zipIdx (enumD_zip ps 0) (fun pre r => ∃ bg its s4 s5 s6, r = [.own (.lst bg), nd, .own (.lst (its.map itD)), .fz (.lst (ps.map D.str)), s4, s5, s6, .un, .un, .un] ∧ BagOk bg ∧ WI nd (pre.map (·.1)) its)
    (r := [.own (.lst bg), nd, .own (.lst []), .fz (.lst (ps.map D.str)), .un, .un, .un, .un, .un, .un]) ⟨bg, [], _, _, _, rfl, hb, rfl, fun j hj => (by simp at hj), ord_nil⟩ (by
    rintro pre ⟨x, k⟩ post ex r ⟨bg, its, s4, s5, s6, rfl, hb, w⟩
    obtain ⟨h1, h2⟩ := zip_split ex
    simp only at h1 h2
    subst h2
    have tk : ps.take pre.length = pre.map (·.1) := by rw [h1, List.take_left' (by simp)]
    have hx : x ∈ ps := by rw [h1]; simp
    obtain ⟨y, b1, e1, hb1, y0, y1⟩ := take_ok hb (n := 2) (by decide) (by decide)
    obtain ⟨b2, o1, e2, hb2, p2, _, l2⟩ := some_ok (ss := eupro) (by decide) hb1 (least := 0) (most := y) (by decide) y0 (by omega)
    obtain ⟨b3, o2, e3, hb3, p3, _, l3⟩ := some_ok (ss := pre.map (·.1)) (by rw [← tk, List.length_take]; omega) hb2 (least := 0) (most := 1) (by decide) (by decide) (by decide)
    have e3' : m__law_some [.own (.lst b2), .fz (.lst (cutD (ps.map D.str) none (some (pre.length : Int)))), .fz (.int 0), .fz (.int 1)] = .ok (.v (.tup ((sortStr o2).map D.str))) [.own (.lst b3)] := by
      rw [cutD_to, ← List.map_take, tk]; exact e3
    have sub : ∀ z ∈ pre.map (·.1), z ∈ ps := fun z hz => by rw [h1]; exact List.mem_append_left _ hz
    have mo := some_mem p3
    have lc : Loc ⟨x, "part", sortStr o2, sortStr o1⟩ := loc_mk (by simp [hP x hx]) (by decide +kernel) (some_ris p3 (by rw [← tk]; exact ndp.sublist (List.take_sublist _ _))) (some_ris p2 nd_eupro) (some_mem p2) (by rw [(sortStr_perm o2).length_eq]; omega) (by rw [(sortStr_perm o1).length_eq]; omega) (fun o ho => by simp [hP o (sub o (mo o ho))]) (.inl ⟨hP x hx, rfl, fun o ho => hP o (sub o (mo o ho))⟩)
    have lits : its.length ≤ 100 := by
      have := congrArg List.length w.nm
      rw [List.length_map] at this
      have l2 := congrArg List.length tk
      rw [List.length_take] at l2
      omega
    refine ⟨_, ?_, b3, its ++ [⟨x, "part", sortStr o2, sortStr o1⟩], .fz (.int (pre.length : Int)), .fz (.str x), .fz (.tup ((sortStr o1).map D.str)), rfl, hb3, ?_⟩
    · have q := web_t1 (nd := nd) (s6 := s6) (s7 := .un) (s8 := .un) (s9 := .un) (x := .str x) (found := its.map itD) e1 e2 e3' (app_it (i := ⟨x, "part", sortStr o2, sortStr o1⟩) rfl lits)
      have q2 : wb1 m__law_take m__law_some [.own (.lst bg), nd, .own (.lst (its.map itD)), .fz (.lst (ps.map D.str)), .fz (.int (pre.length : Int)), .fz (.str x), s6, .un, .un, .un] = _ := q
      unfold turnF
      simp [zE, q2]
    · rw [List.map_append]
      exact w.app lc mo)
  refine ⟨bg', its, s4, s5, s6, e, hb', ?_⟩
  rw [List.zipIdx_map_fst] at w
  exact w
/-- the trials -/
theorem wb_l2 {nd s4 s5 s6 : Sl} {ps ts : List Str} (hp : ∃ k, ps = P3.take k) (ht : ∃ k, ts = T4.take k) {bg : List D} {its : List It4} (hb : BagOk bg) (w : WI nd ps its) :
    ∃ bg' its' s5', forL (gN 5) (wb2 m__law_take m__law_some) (ts.map D.str) [.own (.lst bg), nd, .own (.lst (its.map itD)), .fz (.lst (ps.map D.str)), s4, s5, s6, .fz (.lst (ts.map D.str)), .un, .un] = .nx [.own (.lst bg'), nd, .own (.lst (its'.map itD)), .fz (.lst (ps.map D.str)), s4, s5', s6, .fz (.lst (ts.map D.str)), .un, .un] ∧ BagOk bg' ∧ WI nd (ps ++ ts) its' := by
  obtain ⟨kk, hps⟩ := hp
  obtain ⟨k2, hts⟩ := ht
  have hP : ∀ x ∈ ps, x ∈ P3 := fun x hx => by rw [hps] at hx; exact List.mem_of_mem_take hx
  have hT : ∀ x ∈ ts, x ∈ T4 := fun x hx => by rw [hts] at hx; exact List.mem_of_mem_take hx
  have hl : ps.length ≤ 3 := by rw [hps, List.length_take]; exact Nat.min_le_right _ _
  have hl2 : ts.length ≤ 4 := by rw [hts, List.length_take]; exact Nat.min_le_right _ _
  have ndp : ps.Nodup := by rw [hps]; exact nd_P3.sublist (List.take_sublist _ _)
  obtain ⟨r', e, bg', its', s5', rfl, hb', w'⟩ := for_all (enc := D.str) (g := gN 5) (b := wb2 m__law_take m__law_some) rfl ts rfl (fun pre r => ∃ bg its s5, r = [.own (.lst bg), nd, .own (.lst (its.map itD)), .fz (.lst (ps.map D.str)), s4, s5, s6, .fz (.lst (ts.map D.str)), .un, .un] ∧ BagOk bg ∧ WI nd (ps ++ pre) its)
    (r := [.own (.lst bg), nd, .own (.lst (its.map itD)), .fz (.lst (ps.map D.str)), s4, s5, s6, .fz (.lst (ts.map D.str)), .un, .un]) ⟨bg, its, _, rfl, hb, by rw [List.append_nil]; exact w⟩ (by
    rintro pre x post ex r ⟨bg, its, s5, rfl, hb, w⟩
    have hx : x ∈ ts := by rw [ex]; simp
    have lpre : pre.length ≤ 4 := by have := congrArg List.length ex; simp at this; omega
    obtain ⟨b1, o1, e1, hb1, p1, _, l1⟩ := some_ok (ss := ps) (by omega) hb (least := 0) (most := 2) (by decide) (by decide) (by decide)
    obtain ⟨y, b2, e2, hb2, y0, y1⟩ := take_ok hb1 (n := 2) (by decide) (by decide)
    obtain ⟨b3, o2, e3, hb3, p2, _, l2⟩ := some_ok (ss := eupro) (by decide) hb2 (least := 0) (most := y) (by decide) y0 (by omega)
    have mo := some_mem p1
    have lc : Loc ⟨x, "trial", sortStr o1, sortStr o2⟩ := loc_mk (by simp [hT x hx]) (by decide +kernel) (some_ris p1 ndp) (some_ris p2 nd_eupro) (some_mem p2) (by rw [(sortStr_perm o1).length_eq]; omega) (by rw [(sortStr_perm o2).length_eq]; omega) (fun o ho => by simp [hP o (mo o ho)]) (.inr (.inl ⟨hT x hx, rfl, fun o ho => hP o (mo o ho)⟩))
    have lits : its.length ≤ 100 := by
      have := congrArg List.length w.nm
      rw [List.length_map, List.length_append] at this
      omega
    refine ⟨_, ?_, b3, its ++ [⟨x, "trial", sortStr o1, sortStr o2⟩], .fz (.str x), rfl, hb3, ?_⟩
    · have q := web_t2 (nd := nd) (s4 := s4) (s6 := s6) (s7 := .fz (.lst (ts.map D.str))) (s8 := .un) (s9 := .un) (x := .str x) (found := its.map itD) e1 e2 e3 (app_it (i := ⟨x, "trial", sortStr o1, sortStr o2⟩) rfl lits)
      have q2 : wb2 m__law_take m__law_some [.own (.lst bg), nd, .own (.lst (its.map itD)), .fz (.lst (ps.map D.str)), s4, .fz (.str x), s6, .fz (.lst (ts.map D.str)), .un, .un] = _ := q
      unfold turnF
      simp [q2]
    · rw [← List.append_assoc]
      exact w.app lc fun o ho => List.mem_append_left _ (mo o ho))
  exact ⟨bg', its', s5', e, hb', w'⟩
/-- the needs -/
theorem wb_l3 {nd s3 s4 s5 s6 s7 : Sl} {ps ts ns : List Str} (hp : ∃ k, ps = P3.take k) (ht : ∃ k, ts = T4.take k) (ht0 : ts ≠ []) (hn : ∃ k, ns = N5.take k) {bg : List D} {its : List It4} (hb : BagOk bg) (w : WI nd (ps ++ ts) its) :
    ∃ bg' its' t, forL (gN 5) (wb3 m__law_take m__law_some m__law_some_2 m__law_of) (ns.map D.str) [.own (.lst bg), nd, .own (.lst (its.map itD)), s3, s4, s5, s6, s7, .own (.lst (ts.map D.str)), .un] = .nx (.own (.lst bg') :: nd :: .own (.lst (its'.map itD)) :: t) ∧ BagOk bg' ∧ WI nd (ps ++ ts ++ ns) its' := by
  obtain ⟨kk, hps⟩ := hp
  obtain ⟨k2, hts⟩ := ht
  obtain ⟨k3, hns⟩ := hn
  have hT : ∀ x ∈ ts, x ∈ T4 := fun x hx => by rw [hts] at hx; exact List.mem_of_mem_take hx
  have hN : ∀ x ∈ ns, x ∈ N5 := fun x hx => by rw [hns] at hx; exact List.mem_of_mem_take hx
  have hl : ps.length ≤ 3 := by rw [hps, List.length_take]; exact Nat.min_le_right _ _
  have hl2 : ts.length ≤ 4 := by rw [hts, List.length_take]; exact Nat.min_le_right _ _
  have hl3 : ns.length ≤ 5 := by rw [hns, List.length_take]; exact Nat.min_le_right _ _
  have ndt : (ts ++ ns).Nodup := by
    rw [hts, hns]
    have nd2 : (T4 ++ N5).Nodup := by decide +kernel
    exact nd2.sublist ((List.take_sublist _ _).append (List.take_sublist _ _))
  have hpos : 0 < ts.length := List.length_pos_iff.mpr ht0
  obtain ⟨r', e, bg', its', s5', s9, rfl, hb', w'⟩ := for_all (enc := D.str) (g := gN 5) (b := wb3 m__law_take m__law_some m__law_some_2 m__law_of) rfl ns rfl (fun pre r => ∃ bg its s5 s9, r = [.own (.lst bg), nd, .own (.lst (its.map itD)), s3, s4, s5, s6, s7, .own (.lst ((ts ++ pre).map D.str)), s9] ∧ BagOk bg ∧ WI nd (ps ++ ts ++ pre) its)
    (r := [.own (.lst bg), nd, .own (.lst (its.map itD)), s3, s4, s5, s6, s7, .own (.lst (ts.map D.str)), .un]) ⟨bg, its, _, _, by rw [List.append_nil], hb, by rw [List.append_nil]; exact w⟩ (by
    rintro pre x post ex r ⟨bg, its, s5, s9, rfl, hb, w⟩
    have hx : x ∈ ns := by rw [ex]; simp
    have lpre : pre.length ≤ 5 := by have := congrArg List.length ex; simp at this; omega
    have ndu : (ts ++ pre).Nodup := ndt.sublist (List.Sublist.append_left (by rw [ex]; exact List.sublist_append_left _ _) ts)
    have hpre : ∀ z ∈ pre, z ∈ N5 := fun z hz => hN z (by rw [ex]; exact List.mem_append_left _ hz)
    obtain ⟨b1, o1, e1, hb1, p1, g1, l1⟩ := some_ok2 (ss := ts ++ pre) (by rw [List.length_append]; omega) hb (least := 1) (most := 3) (by decide) (by decide) (by decide)
    obtain ⟨kd, b2, e2, hb2, hk⟩ := of_ok hb1 (ds := [.str "all", .str "any"]) (by simp) (by decide)
    obtain ⟨y, b3, e3, hb3, y0, y1⟩ := take_ok hb2 (n := 2) (by decide) (by decide)
    obtain ⟨b4, o2, e4, hb4, p2, _, l2⟩ := some_ok (ss := eupro) (by decide) hb3 (least := 0) (most := y) (by decide) y0 (by omega)
    obtain ⟨ks, rfl, hks⟩ : ∃ ks : Str, kd = .str ks ∧ (ks = "all" ∨ ks = "any") := by
      simp only [List.mem_cons, List.not_mem_nil, or_false] at hk
      rcases hk with rfl | rfl
      · exact ⟨_, rfl, .inl rfl⟩
      · exact ⟨_, rfl, .inr rfl⟩
    have mo := some_mem p1
    have mo2 : ∀ o ∈ sortStr o1, o ∈ T4 ∨ o ∈ N5 := fun o ho => (List.mem_append.mp (mo o ho)).imp (hT o) (hpre o)
    have o1n : sortStr o1 ≠ [] := fun z => by
      have a := g1 (by rw [List.length_append]; omega)
      have b := (sortStr_perm o1).length_eq
      rw [z, List.length_nil] at b
      omega
    have lc : Loc ⟨x, ks, sortStr o1, sortStr o2⟩ := loc_mk (by simp [hN x hx]) (by rcases hks with rfl | rfl <;> decide +kernel) (some_ris p1 ndu) (some_ris p2 nd_eupro) (some_mem p2) (by rw [(sortStr_perm o1).length_eq]; omega) (by rw [(sortStr_perm o2).length_eq]; omega) (fun o ho => by rcases mo2 o ho with q | q <;> simp [q]) (.inr (.inr ⟨hN x hx, hks, o1n, mo2⟩))
    have lits : its.length ≤ 100 := by
      have := congrArg List.length w.nm
      rw [List.length_map, List.length_append, List.length_append] at this
      omega
    have hb' : gAppend ((ts ++ pre).map D.str) [.str x] = some (.non, (ts ++ pre ++ [x]).map D.str) := by rw [app_ok (by rw [List.length_map, List.length_append]; omega)]; simp
    refine ⟨_, ?_, b4, its ++ [⟨x, ks, sortStr o1, sortStr o2⟩], .fz (.str x), .fz (.tup ((sortStr o1).map D.str)), by rw [← List.append_assoc], hb4, ?_⟩
    · have q := web_t3 (nd := nd) (s3 := s3) (s4 := s4) (s6 := s6) (s7 := s7) (s9 := s9) (x := .str x) (found := its.map itD) e1 e2 e3 e4 (app_it (i := ⟨x, ks, sortStr o1, sortStr o2⟩) rfl lits) hb'
      have q2 : wb3 m__law_take m__law_some m__law_some_2 m__law_of [.own (.lst bg), nd, .own (.lst (its.map itD)), s3, s4, .fz (.str x), s6, s7, .own (.lst ((ts ++ pre).map D.str)), s9] = _ := q
      generalize (ts ++ pre).map D.str = U at q2 ⊢
      unfold turnF
      simp [q2]
    · have q := w.app lc fun o ho => by
        rcases List.mem_append.mp (mo o ho) with z | z
        · exact List.mem_append_left _ (List.mem_append_right _ z)
        · exact List.mem_append_right _ z
      rw [List.append_assoc] at q
      exact q)
  exact ⟨bg', its', _, e, hb', w'⟩
/-! what a web is -/
structure WebOk (its : List It4) : Prop where
  c : Closed its
  loc : ∀ i ∈ its, Loc i
  rank : ∃ rk : Str → Nat, (∀ x, rk x ≤ 12) ∧ ∀ i ∈ its, ∀ o ∈ i.os, rk o < rk i.nm
  need : ∃ i ∈ its, i.nm ∈ N5
  trial : ∃ i ∈ its, i.nm ∈ T4
theorem idx_lt {l pre post : List Str} {x o : Str} (e : l = pre ++ x :: post) (nd : l.Nodup) (ho : o ∈ pre) : l.idxOf o < l.idxOf x := by
  subst e
  have hx : x ∉ pre := fun h => by
    rw [List.nodup_append] at nd
    exact nd.2.2 x h x (by simp) rfl
  rw [List.idxOf_append, List.idxOf_append, if_pos ho, if_neg hx]
  have := List.idxOf_lt_length_of_mem ho
  omega
theorem wi_web {nd : Sl} {ps ts ns : List Str} {its its2 : List It4} (hp : ∃ k, ps = P3.take k) (ht : ∃ k, ts = T4.take k) (ht0 : ts ≠ []) (hn : ∃ k, ns = N5.take k) (hn0 : ns ≠ []) (w : WI nd (ps ++ ts ++ ns) its) (p : its2.Perm its) : WebOk its2 := by
  obtain ⟨kk, hps⟩ := hp
  obtain ⟨k2, hts⟩ := ht
  obtain ⟨k3, hns⟩ := hn
  have hl : ps.length ≤ 3 := by rw [hps, List.length_take]; exact Nat.min_le_right _ _
  have hl2 : ts.length ≤ 4 := by rw [hts, List.length_take]; exact Nat.min_le_right _ _
  have hl3 : ns.length ≤ 5 := by rw [hns, List.length_take]; exact Nat.min_le_right _ _
  have ndn : (its.map (·.nm)).Nodup := by
    rw [w.nm, hps, hts, hns]
    exact nd_all.sublist (((List.take_sublist _ _).append (List.take_sublist _ _)).append (List.take_sublist _ _))
  have len : its.length ≤ 12 := by
    have := congrArg List.length w.nm
    rw [List.length_map, List.length_append, List.length_append] at this
    omega
  have cl : ∀ i ∈ its, ∀ o ∈ i.os, o ∈ its.map (·.nm) := fun i hi o ho => by
    obtain ⟨pre, post, e⟩ := List.append_of_mem hi
    have := w.ord pre i post e o ho
    rw [e, List.map_append]
    exact List.mem_append_left _ this
  have mn : ∀ x, x ∈ its2.map (·.nm) ↔ x ∈ its.map (·.nm) := fun x => (p.map _).mem_iff
  refine ⟨⟨fun i hi => (w.loc i (p.mem_iff.mp hi)).good, (p.map _).nodup_iff.mpr ndn, fun i hi o ho => (mn o).mpr (cl i (p.mem_iff.mp hi) o ho), by rw [p.length_eq]; exact len⟩, fun i hi => w.loc i (p.mem_iff.mp hi),
    ⟨fun x => (its.map (·.nm)).idxOf x, fun x => Nat.le_trans List.idxOf_le_length (by rw [List.length_map]; exact len), fun i hi o ho => ?_⟩, ?_, ?_⟩
  · obtain ⟨pre, post, e⟩ := List.append_of_mem (p.mem_iff.mp hi)
    have := w.ord pre i post e o ho
    exact idx_lt (pre := pre.map (·.nm)) (post := post.map (·.nm)) (by rw [e]; simp) ndn this
  · obtain ⟨x, hx⟩ := List.exists_mem_of_ne_nil ns hn0
    have : x ∈ its.map (·.nm) := by rw [w.nm]; exact List.mem_append_right _ hx
    obtain ⟨i, hi, e⟩ := List.mem_map.mp this
    exact ⟨i, p.mem_iff.mpr hi, by rw [e]; rw [hns] at hx; exact List.mem_of_mem_take hx⟩
  · obtain ⟨x, hx⟩ := List.exists_mem_of_ne_nil ts ht0
    have : x ∈ its.map (·.nm) := by rw [w.nm]; exact List.mem_append_left _ (List.mem_append_right _ hx)
    obtain ⟨i, hi, e⟩ := List.mem_map.mp this
    exact ⟨i, p.mem_iff.mpr hi, by rw [e]; rw [hts] at hx; exact List.mem_of_mem_take hx⟩
theorem wb_ok {bg : List D} (hb : BagOk bg) {n : Int} (h0 : 0 < n) (h5 : n ≤ 5) : ∃ (bg' : List D) (its : List It4), m__law_web [.own (.lst bg), .fz (.int n)] = .ok (.v (.tup (its.map itD))) [.own (.lst bg')] ∧ BagOk bg' ∧ WebOk its := by
  have cut : ∀ (l : List Str) (k : Nat), gSl (.lst (l.map D.str)) none (some (k : Int)) = some (.n (.lst ((l.take k).map D.str))) := fun l k => by
    show some (Pl.n (O.lst (cutD (l.map D.str) none (some (k : Int))))) = _
    rw [cutD_to, List.map_take]
  obtain ⟨y1, b1, e1, hb1, y10, y11⟩ := take_ok hb (n := 4) (by decide) (by decide)
  obtain ⟨k1, rfl⟩ : ∃ k : Nat, y1 = (k : Int) := ⟨y1.toNat, by omega⟩
  obtain ⟨b2, i1, s4, s5, s6, l1, hb2, w1⟩ := wb_l1 (nd := .fz (.int n)) (ps := P3.take k1) ⟨k1, rfl⟩ hb1
  obtain ⟨y2, b3, e2, hb3, y20, y21⟩ := take_ok hb2 (n := 4) (by decide) (by decide)
  obtain ⟨k2, hk2⟩ : ∃ k : Nat, 1 + y2 = (k : Int) := ⟨(1 + y2).toNat, by omega⟩
  have t0 : T4.take k2 ≠ [] := fun z => by
    have := congrArg List.length z
    rw [List.length_take, show T4.length = 4 from rfl] at this
    simp at this
    omega
  obtain ⟨b4, i2, s5', l2, hb4, w2⟩ := wb_l2 (nd := .fz (.int n)) (s4 := s4) (s5 := s5) (s6 := s6) (ps := P3.take k1) (ts := T4.take k2) ⟨k1, rfl⟩ ⟨k2, rfl⟩ hb3 w1
  obtain ⟨y3, b5, e3, hb5, y30, y31⟩ := take_ok hb4 (n := n) h0 (by omega)
  obtain ⟨k3, hk3⟩ : ∃ k : Nat, 1 + y3 = (k : Int) := ⟨(1 + y3).toNat, by omega⟩
  have n0 : N5.take k3 ≠ [] := fun z => by
    have := congrArg List.length z
    rw [List.length_take, show N5.length = 5 from rfl] at this
    simp at this
    omega
  obtain ⟨b6, i3, t, l3, hb6, w3⟩ := wb_l3 (nd := .fz (.int n)) (s3 := .fz (.lst ((P3.take k1).map D.str))) (s4 := s4) (s5 := s5') (s6 := s6) (s7 := .fz (.lst ((T4.take k2).map D.str))) (ps := P3.take k1) (ts := T4.take k2) (ns := N5.take k3) ⟨k1, rfl⟩ ⟨k2, rfl⟩ t0 ⟨k3, rfl⟩ hb5 w2
  obtain ⟨i4, p4, hs⟩ := sorted_it i3
  exact ⟨b6, i4, web_run rfl e1 (cut P3 k1) l1 e2 (hk2 ▸ cut T4 k2) l2 e3 (hk3 ▸ cut N5 k3) l3 hs, hb6, wi_web ⟨k1, rfl⟩ ⟨k2, rfl⟩ t0 ⟨k3, rfl⟩ n0 w3 p4⟩
end NT

set_option Elab.async false
set_option linter.all false
set_option maxRecDepth 100000
set_option maxHeartbeats 1000000
namespace NT
open PySem PySem.Spec PyProof.Rows L2 PySem.W
/-! == and in of data without truths -/
inductive Pn : Nat → D → Prop
  | non {n : Nat} : Pn n .non
  | int {n : Nat} (i : Int) : Pn n (.int i)
  | str {n : Nat} (x : Str) (a : KSb.Asc x) : Pn n (.str x)
  | tup {n : Nat} (l : List D) (a : ∀ d ∈ l, Pn n d) : Pn (n + 1) (.tup l)
  | lst {n : Nat} (l : List D) (a : ∀ d ∈ l, Pn n d) : Pn (n + 1) (.lst l)
theorem Pn.toP {n : Nat} {d : D} (h : Pn n d) : ∃ p, NT.toP d = some p ∧ (p.canLay0 = true ∧ p.depth ≤ n) := by
  induction h with
  | non => exact ⟨_, by simp [NT.toP]; rfl, by simp [PyData.canLay0], by simp [PyData.depth]⟩
  | int i => exact ⟨_, by simp [NT.toP]; rfl, by simp [PyData.canLay0], by simp [PyData.depth]⟩
  | str x a => exact ⟨_, by simp [NT.toP]; rfl, by simp [PyData.canLay0, strOk_asc a], by simp [PyData.depth]⟩
  | @tup n l a ih =>
    obtain ⟨ps, e, _, hp⟩ := toPs_of ih
    exact ⟨.tuple ps, by simp [NT.toP, e], by simp [PyData.canLay0, layAll_of fun p hq => (hp p hq).1], by have := depthAll_of fun p hq => (hp p hq).2; simp [PyData.depth]; omega⟩
  | @lst n l a ih =>
    obtain ⟨ps, e, _, hp⟩ := toPs_of ih
    exact ⟨.list ps, by simp [NT.toP, e], by simp [PyData.canLay0, layAll_of fun p hq => (hp p hq).1], by have := depthAll_of fun p hq => (hp p hq).2; simp [PyData.depth]; omega⟩
theorem toPs_cons {d : D} {ds : List D} {p : PyData} {ps : List PyData} (h1 : NT.toP d = some p) (h2 : toPs ds = some ps) : toPs (d :: ds) = some (p :: ps) := by simp [toPs, h1, h2]
theorem eqvAll_pn {n : Nat} (ih : ∀ a b : D, Pn n a → Pn n b → ∀ p q, toP a = some p → toP b = some q → (PyData.eqv p q = true ↔ a = b)) : ∀ (l m : List D), (∀ d ∈ l, Pn n d) → (∀ d ∈ m, Pn n d) → ∀ ps qs, toPs l = some ps → toPs m = some qs → (PyData.eqvAll ps qs = true ↔ l = m)
  | [], [], _, _, ps, qs, e1, e2 => by simp [toPs] at e1 e2; subst e1 e2; simp [PyData.eqvAll]
  | [], b :: m, _, hm, ps, qs, e1, e2 => by
    obtain ⟨q, h1, _⟩ := (hm b List.mem_cons_self).toP
    obtain ⟨qs', h2, _, _⟩ := toPs_of fun d hd => (hm d (List.mem_cons_of_mem _ hd)).toP
    rw [toPs_cons h1 h2] at e2
    simp [toPs] at e1 e2; subst e1 e2; simp [PyData.eqvAll]
  | a :: l, [], hl, _, ps, qs, e1, e2 => by
    obtain ⟨q, h1, _⟩ := (hl a List.mem_cons_self).toP
    obtain ⟨qs', h2, _, _⟩ := toPs_of fun d hd => (hl d (List.mem_cons_of_mem _ hd)).toP
    rw [toPs_cons h1 h2] at e1
    simp [toPs] at e1 e2; subst e1 e2; simp [PyData.eqvAll]
  | a :: l, b :: m, hl, hm, ps, qs, e1, e2 => by
    obtain ⟨p, h1, _⟩ := (hl a List.mem_cons_self).toP
    obtain ⟨ps', h2, _, _⟩ := toPs_of fun d hd => (hl d (List.mem_cons_of_mem _ hd)).toP
    obtain ⟨q, k1, _⟩ := (hm b List.mem_cons_self).toP
    obtain ⟨qs', k2, _, _⟩ := toPs_of fun d hd => (hm d (List.mem_cons_of_mem _ hd)).toP
    rw [toPs_cons h1 h2] at e1
    rw [toPs_cons k1 k2] at e2
    cases e1
    cases e2
    have i1 := ih a b (hl a List.mem_cons_self) (hm b List.mem_cons_self) p q h1 k1
    have i2 := eqvAll_pn ih l m (fun d hd => hl d (List.mem_cons_of_mem _ hd)) (fun d hd => hm d (List.mem_cons_of_mem _ hd)) ps' qs' h2 k2
    simp [PyData.eqvAll, i1, i2]
theorem eqv_pn : ∀ (n : Nat) (a b : D), Pn n a → Pn n b → ∀ p q, toP a = some p → toP b = some q → (PyData.eqv p q = true ↔ a = b) := by
  intro n
  induction n with
  | zero =>
    intro a b ha hb p q e1 e2
    cases ha <;> cases hb <;> simp [toP] at e1 e2 <;> subst e1 e2 <;> simp [PyData.eqv]
  | succ n ih =>
    intro a b ha hb p q e1 e2
    have seq : ∀ (l m : List D), (∀ d ∈ l, Pn n d) → (∀ d ∈ m, Pn n d) → ∀ ps qs, toPs l = some ps → toPs m = some qs → (PyData.eqvAll ps qs = true ↔ l = m) := eqvAll_pn ih
    cases ha with
    | tup l al =>
      obtain ⟨ps, h1, _, _⟩ := toPs_of fun d hd => (al d hd).toP
      simp [toP, h1] at e1; subst e1
      cases hb with
      | tup m am =>
        obtain ⟨qs, k1, _, _⟩ := toPs_of fun d hd => (am d hd).toP
        simp [toP, k1] at e2; subst e2
        simp [PyData.eqv, seq l m al am ps qs h1 k1]
      | lst m am =>
        obtain ⟨qs, k1, _, _⟩ := toPs_of fun d hd => (am d hd).toP
        simp [toP, k1] at e2; subst e2; simp [PyData.eqv]
      | _ => simp [toP] at e2; subst e2; simp [PyData.eqv]
    | lst l al =>
      obtain ⟨ps, h1, _, _⟩ := toPs_of fun d hd => (al d hd).toP
      simp [toP, h1] at e1; subst e1
      cases hb with
      | lst m am =>
        obtain ⟨qs, k1, _, _⟩ := toPs_of fun d hd => (am d hd).toP
        simp [toP, k1] at e2; subst e2
        simp [PyData.eqv, seq l m al am ps qs h1 k1]
      | tup m am =>
        obtain ⟨qs, k1, _, _⟩ := toPs_of fun d hd => (am d hd).toP
        simp [toP, k1] at e2; subst e2; simp [PyData.eqv]
      | _ => simp [toP] at e2; subst e2; simp [PyData.eqv]
    | non =>
      cases hb with
      | lst m am => obtain ⟨qs, k1, _, _⟩ := toPs_of fun d hd => (am d hd).toP
                    simp [toP, k1] at e1 e2; subst e1 e2; simp [PyData.eqv]
      | tup m am => obtain ⟨qs, k1, _, _⟩ := toPs_of fun d hd => (am d hd).toP
                    simp [toP, k1] at e1 e2; subst e1 e2; simp [PyData.eqv]
      | _ => simp [toP] at e1 e2; subst e1 e2; simp [PyData.eqv]
    | int i =>
      cases hb with
      | lst m am => obtain ⟨qs, k1, _, _⟩ := toPs_of fun d hd => (am d hd).toP
                    simp [toP, k1] at e1 e2; subst e1 e2; simp [PyData.eqv]
      | tup m am => obtain ⟨qs, k1, _, _⟩ := toPs_of fun d hd => (am d hd).toP
                    simp [toP, k1] at e1 e2; subst e1 e2; simp [PyData.eqv]
      | _ => simp [toP] at e1 e2; subst e1 e2; simp [PyData.eqv]
    | str x ax =>
      cases hb with
      | lst m am => obtain ⟨qs, k1, _, _⟩ := toPs_of fun d hd => (am d hd).toP
                    simp [toP, k1] at e1 e2; subst e1 e2; simp [PyData.eqv]
      | tup m am => obtain ⟨qs, k1, _, _⟩ := toPs_of fun d hd => (am d hd).toP
                    simp [toP, k1] at e1 e2; subst e1 e2; simp [PyData.eqv]
      | _ => simp [toP] at e1 e2; subst e1 e2; simp [PyData.eqv]
theorem shaped_of {p : PyData} {n : Nat} (h1 : p.canLay0 = true) (h2 : p.depth ≤ n) (hn : n ≤ 60) : SeqAt.shaped p = true := by
  unfold SeqAt.shaped
  simp [h1]; omega
/-- == -/
theorem gEq_pn {n : Nat} {a b : D} (ha : Pn n a) (hb : Pn n b) (hn : n ≤ 60) : ∃ c, gEq a b = some c ∧ (c = true ↔ a = b) := by
  obtain ⟨p, e1, l1, d1⟩ := ha.toP
  obtain ⟨q, e2, l2, d2⟩ := hb.toP
  exact ⟨PyData.eqv p q, by simp [gEq, e1, e2, shaped_of l1 d1 hn, shaped_of l2 d2 hn], eqv_pn n a b ha hb p q e1 e2⟩
theorem gEq_enc {α : Type} [DecidableEq α] {enc : α → D} (inj : ∀ x y, enc x = enc y → x = y) {n : Nat} {x y : α} (hx : Pn n (enc x)) (hy : Pn n (enc y)) (hn : n ≤ 60) : gEq (enc x) (enc y) = some (decide (x = y)) := by
  obtain ⟨c, e, h⟩ := gEq_pn hx hy hn
  rw [e]
  congr 1
  rw [Bool.eq_iff_iff, h, decide_eq_true_eq]
  exact ⟨inj x y, fun e => by rw [e]⟩
theorem gInL_enc {α : Type} [DecidableEq α] {enc : α → D} (inj : ∀ x y, enc x = enc y → x = y) {n : Nat} {x : α} {l : List α} (hx : Pn n (enc x)) (hl : ∀ y ∈ l, Pn n (enc y)) (hn : n ≤ 59) : gInL (enc x) (l.map enc) = some (decide (x ∈ l)) := by
  obtain ⟨p, e1, l1, d1⟩ := hx.toP
  obtain ⟨ps, e2, _, hp⟩ := toPs_of (l := l.map enc) (P := fun p => p.canLay0 = true ∧ p.depth ≤ n) fun d hd => by
    obtain ⟨y, hy, rfl⟩ := List.mem_map.mp hd
    exact (hl y hy).toP
  have s2 : SeqAt.shaped (.list ps) = true := by
    refine shaped_of (n := n + 1) (by simp [PyData.canLay0, layAll_of fun p hq => (hp p hq).1]) ?_ (by omega)
    have := depthAll_of fun p hq => (hp p hq).2
    simp [PyData.depth]; omega
  have any : ∀ (l : List α) (ps : List PyData), (∀ y ∈ l, Pn n (enc y)) → toPs (l.map enc) = some ps → (ps.any fun z => PyData.eqv z p) = decide (x ∈ l) := fun l => by
    induction l with
    | nil => intro ps _ e; simp [toPs] at e; subst e; simp
    | cons y l ih =>
      intro ps hl e
      obtain ⟨q, f1, _⟩ := (hl y List.mem_cons_self).toP
      obtain ⟨qs, f2, _, _⟩ := toPs_of (l := l.map enc) (P := fun _ => True) fun d hd => by
        obtain ⟨z, hz, rfl⟩ := List.mem_map.mp hd
        obtain ⟨p, e, _⟩ := (hl z (List.mem_cons_of_mem _ hz)).toP
        exact ⟨p, e, trivial⟩
      rw [List.map_cons, toPs_cons f1 f2] at e
      cases e
      have ih' := ih qs (fun z hz => hl z (List.mem_cons_of_mem _ hz)) f2
      rw [List.any_cons, ih']
      have k := eqv_pn n (enc y) (enc x) (hl y List.mem_cons_self) hx q p f1 e1
      rw [Bool.eq_iff_iff, Bool.or_eq_true, k, decide_eq_true_eq, decide_eq_true_eq, List.mem_cons]
      exact or_congr_left ⟨fun e => (inj y x e).symm, fun e => by rw [e]⟩
  simp [gInL, e1, e2, shaped_of l1 d1 (by omega), s2, any l ps hl e2]
theorem str_inj (x y : Str) (h : D.str x = D.str y) : x = y := D.str.inj h
theorem int_inj (x y : Int) (h : D.int x = D.int y) : x = y := D.int.inj h
theorem gEq_in (i j : Int) : gEq (.int i) (.int j) = some (decide (i = j)) := gEq_enc (enc := D.int) int_inj (n := 0) (.int i) (.int j) (by decide)
end NT

set_option Elab.async false
set_option linter.all false
set_option maxRecDepth 100000
set_option maxHeartbeats 4000000
namespace NT
open PySem PySem.Spec PyProof.Rows L2 PySem.W
/-! states: versions, links, trials -/
abbrev webD (its : List It4) : D := .tup (its.map itD)
structure Look where
  n : Str
  o : Str
  v : Int
  w : Int
  deriving DecidableEq
structure Res where
  t : Str
  p : Bool
  vs : List Int
structure State where
  vs : List Int
  looks : List Look
  res : List Res
def lookD (l : Look) : D := .tup [.str l.n, .str l.o, .int l.v, .int l.w]
abbrev vsD (l : List Int) : D := .tup (l.map D.int)
def resD (r : Res) : D := .tup [.str r.t, .bl r.p, vsD r.vs]
abbrev stD (s : State) : D := .tup [vsD s.vs, .tup (s.looks.map lookD), .lst (s.res.map resD)]
theorem look_inj (x y : Look) (h : lookD x = lookD y) : x = y := by
  cases x; cases y
  simp [lookD] at h
  obtain ⟨rfl, rfl, rfl, rfl⟩ := h
  rfl
structure Look.Fine (l : Look) : Prop where
  n : KSb.Asc l.n
  o : KSb.Asc l.o
theorem look_pn {l : Look} (h : l.Fine) : Pn 1 (lookD l) := .tup _ fun d hd => by
  simp only [List.mem_cons, List.not_mem_nil, or_false] at hd
  rcases hd with rfl | rfl | rfl | rfl
  · exact .str _ h.n
  · exact .str _ h.o
  · exact .int _
  · exact .int _
structure StOk (its : List It4) (s : State) : Prop where
  vs : s.vs.length = its.length
  lf : ∀ l ∈ s.looks, l.Fine
  ll : s.looks.length ≤ 1000
  rl : s.res.length ≤ 1000
  rv : ∀ r ∈ s.res, r.vs.length = its.length
  rt : ∀ r ∈ s.res, KSb.Asc r.t
/-! the version of an item -/
def verOf (its : List It4) (vs : List Int) (x : Str) : Int := (((its.zip vs).filter fun p => decide (p.1.nm = x)).map (·.2)).headD 0
def izE (p : It4 × Int) : D := .tup [itD p.1, .int p.2]
theorem zip_izE : ∀ (its : List It4) (vs : List Int), zipD (its.map itD) (vs.map D.int) = (its.zip vs).map izE
  | [], _ => by simp [zipD]
  | _ :: _, [] => by simp [zipD]
  | i :: its, v :: vs => by simp [zipD, zip_izE its vs, izE]
theorem it_asc {its : List It4} (c : Closed its) {i : It4} (h : i ∈ its) : KSb.Asc i.nm := nameS_asc (c.good i h).n
theorem zip_has {its : List It4} {vs : List Int} (hl : vs.length = its.length) {x : Str} (hx : x ∈ its.map (·.nm)) : ((its.zip vs).filter fun p => decide (p.1.nm = x)) ≠ [] := by
  obtain ⟨i, hi, rfl⟩ := List.mem_map.mp hx
  obtain ⟨k, hk, e⟩ := List.mem_iff_getElem.mp hi
  intro z
  have hm : (i, vs[k]'(by omega)) ∈ its.zip vs := by
    rw [List.mem_iff_getElem]
    exact ⟨k, by rw [List.length_zip]; omega, by rw [List.getElem_zip, e]⟩
  have := List.filter_eq_nil_iff.mp z _ hm
  simp at this
/-! links -/
def linkS (its : List It4) (s : State) (n o : Str) : Bool := decide ((⟨n, o, verOf its s.vs n, verOf its s.vs o⟩ : Look) ∈ s.looks)
/-! the walk of an item -/
def undS (its : List It4) (x : Str) : List Str := und its 4096 (osOf its x) []
theorem undS_fit {its : List It4} (c : Closed its) {x : Str} (hx : x ∈ its.map (·.nm)) : ∀ y ∈ undS its x, y ∈ its.map (·.nm) := (under_ok c hx).2.hf
/-- the places of what a trial touches -/
def spots (its : List It4) (x : Str) : List Nat := (its.zipIdx.filter fun p => decide (p.1.nm = x) || decide (p.1.nm ∈ undS its x)).map (·.2)
def ziE (p : It4 × Nat) : D := .tup [.int (p.2 : Nat), itD p.1]
theorem enumD_it : ∀ (l : List It4) (n : Nat), enumD n (l.map itD) = (l.zipIdx n).map ziE
  | [], _ => rfl
  | x :: l, n => by rw [List.map_cons, List.zipIdx_cons, List.map_cons, enumD, enumD_it l (n + 1)]; rfl
theorem zi_mem {its : List It4} {p : It4 × Nat} (h : p ∈ its.zipIdx) : p.1 ∈ its ∧ p.2 < its.length := by
  obtain ⟨k, hk, e⟩ := List.mem_iff_getElem.mp h
  rw [List.length_zipIdx] at hk
  rw [List.getElem_zipIdx] at e
  subst e
  exact ⟨List.getElem_mem hk, by simpa using hk⟩
theorem spots_lt {its : List It4} {x : Str} : ∀ k ∈ spots its x, k < its.length := fun k hk => by
  obtain ⟨p, hp, rfl⟩ := List.mem_map.mp hk
  exact (zi_mem (List.mem_filter.mp hp).1).2
/-- whether a result is of the versions of now, for what is touched -/
def agreeS (ks : List Nat) (vs ws : List Int) : Bool := ks.all fun k => decide (ws[k]? = vs[k]?)
def passS (its : List It4) (s : State) (t : Str) : Bool := s.res.foldl (fun last r => if decide (r.t = t) && agreeS (spots its t) s.vs r.vs then r.p else last) false
theorem ix_nat {vs : List Int} {k : Nat} (h : k < vs.length) : gIx (vsD vs) (.int (k : Int)) = some (.v (.int vs[k])) := by
  have e := atI_nat (l := vs.map D.int) (k := k) (by rw [List.length_map]; exact h)
  show (match L2.atI (vs.map D.int) (k : Int) with | some d => some (Pl.v d) | none => none) = _
  rw [e]; simp
theorem gAll_b (bs : List Bool) : gAll [.lst (bs.map D.bl)] = some (.v (.bl (bs.all id))) := by simp [gAll, bools_bl]
theorem gAny_b (bs : List Bool) : gAny [.lst (bs.map D.bl)] = some (.v (.bl (bs.any id))) := by simp [gAny, bools_bl]
end NT

set_option Elab.async false
set_option linter.all false
set_option maxRecDepth 100000
set_option maxHeartbeats 4000000
namespace NT
open PySem PySem.Spec PyProof.Rows L2 PySem.W
/-! items of a web -/
theorem itOf_self {its : List It4} (nd : (its.map (·.nm)).Nodup) {i : It4} (hi : i ∈ its) : itOf its i.nm = some i := by
  obtain ⟨j, e⟩ := itOf_of (its := its) (x := i.nm) (List.mem_map.mpr ⟨i, hi, rfl⟩)
  obtain ⟨hj, en⟩ := itOf_mem e
  rw [e]
  congr 1
  have inj : ∀ (l : List It4), (l.map (·.nm)).Nodup → ∀ a ∈ l, ∀ b ∈ l, a.nm = b.nm → a = b := fun l => by
    induction l with
    | nil => intro _ a ha; simp at ha
    | cons x l ih =>
      intro nd a ha b hb e
      rw [List.map_cons, List.nodup_cons] at nd
      rcases List.mem_cons.mp ha with ha2 | ha2
      · rcases List.mem_cons.mp hb with hb2 | hb2
        · rw [ha2, hb2]
        · exact (nd.1 (by rw [← ha2, e]; exact List.mem_map.mpr ⟨b, hb2, rfl⟩)).elim
      · rcases List.mem_cons.mp hb with hb2 | hb2
        · exact (nd.1 (by rw [← hb2, ← e]; exact List.mem_map.mpr ⟨a, ha2, rfl⟩)).elim
        · exact ih nd.2 a ha2 b hb2 e
  exact inj its nd j hj i hi en
theorem sortS_self {its : List It4} (nd : (its.map (·.nm)).Nodup) {i : It4} (hi : i ∈ its) : sortS its i.nm = i.kd := by unfold sortS; rw [itOf_self nd hi]
theorem osOf_self {its : List It4} (nd : (its.map (·.nm)).Nodup) {i : It4} (hi : i ∈ its) : osOf its i.nm = i.os := by unfold osOf; rw [itOf_self nd hi]
theorem its_of {its : List It4} {x : Str} (h : x ∈ its.map (·.nm)) : ∃ i ∈ its, i.nm = x := by
  obtain ⟨i, hi, e⟩ := List.mem_map.mp h
  exact ⟨i, hi, e⟩
theorem Loc.part {j : It4} (h : Loc j) (hn : j.nm ∈ P3) : j.kd = "part" ∧ ∀ o ∈ j.os, o ∈ P3 := by
  rcases h.knd with ⟨_, a, b⟩ | ⟨a, _, _⟩ | ⟨a, _, _⟩
  · exact ⟨a, b⟩
  · exact absurd a (by
      have d : ∀ x ∈ P3, x ∉ T4 := by decide +kernel
      exact d _ hn)
  · exact absurd a (by
      have d : ∀ x ∈ P3, x ∉ N5 := by decide +kernel
      exact d _ hn)
theorem Loc.trial {j : It4} (h : Loc j) (hn : j.nm ∈ T4) : j.kd = "trial" ∧ ∀ o ∈ j.os, o ∈ P3 := by
  rcases h.knd with ⟨a, _, _⟩ | ⟨_, a, b⟩ | ⟨a, _, _⟩
  · exact absurd hn (by
      have d : ∀ x ∈ P3, x ∉ T4 := by decide +kernel
      exact d _ a)
  · exact ⟨a, b⟩
  · exact absurd hn (by
      have d : ∀ x ∈ N5, x ∉ T4 := by decide +kernel
      exact d _ a)
theorem Loc.need {j : It4} (h : Loc j) (hn : j.nm ∈ N5) : (j.kd = "all" ∨ j.kd = "any") ∧ j.os ≠ [] ∧ ∀ o ∈ j.os, o ∈ T4 ∨ o ∈ N5 := by
  rcases h.knd with ⟨a, _, _⟩ | ⟨a, _, _⟩ | ⟨_, a, b⟩
  · exact absurd hn (by
      have d : ∀ x ∈ P3, x ∉ N5 := by decide +kernel
      exact d _ a)
  · exact absurd hn (by
      have d : ∀ x ∈ T4, x ∉ N5 := by decide +kernel
      exact d _ a)
  · exact ⟨a, b⟩
theorem needS_iff {z : Str} : needS z = true ↔ z = "all" ∨ z = "any" := by
  show ((("all" : Str) == z) || ((("any" : Str) == z) || false)) = true ↔ _
  simp only [Bool.or_eq_true, beq_iff_eq, Bool.or_false]
  exact or_congr eq_comm eq_comm
theorem nz_part : needS "part" = false := by decide +kernel
theorem nz_trial : needS "trial" = false := by decide +kernel
theorem Loc.isN {j : It4} (h : Loc j) : needS j.kd = true ↔ j.nm ∈ N5 := by
  rcases h.knd with ⟨a, b, _⟩ | ⟨a, b, _⟩ | ⟨a, b, _⟩
  · rw [b, nz_part]
    have d : ∀ x ∈ P3, x ∉ N5 := by decide +kernel
    exact ⟨fun z => (by cases z), fun z => (d _ a z).elim⟩
  · rw [b, nz_trial]
    have d : ∀ x ∈ T4, x ∉ N5 := by decide +kernel
    exact ⟨fun z => (by cases z), fun z => (d _ a z).elim⟩
  · exact ⟨fun _ => a, fun _ => needS_iff.mpr b⟩
theorem Loc.isT {j : It4} (h : Loc j) : j.kd = "trial" ↔ j.nm ∈ T4 := by
  rcases h.knd with ⟨a, b, _⟩ | ⟨a, b, _⟩ | ⟨a, b, _⟩
  · have d : ∀ x ∈ P3, x ∉ T4 := by decide +kernel
    exact ⟨fun z => absurd (b.symm.trans z) (by decide +kernel), fun z => (d _ a z).elim⟩
  · exact ⟨fun _ => a, fun _ => b⟩
  · have d : ∀ x ∈ N5, x ∉ T4 := by decide +kernel
    refine ⟨fun z => ?_, fun z => (d _ a z).elim⟩
    rcases b with b | b <;> exact absurd (b.symm.trans z) (by decide +kernel)
/-- a need or a trial -/
def Node (its : List It4) (x : Str) : Prop := x ∈ its.map (·.nm) ∧ (x ∈ T4 ∨ x ∈ N5)
theorem WebOk.nm {its : List It4} (w : WebOk its) : (its.map (·.nm)).Nodup := w.c.nd
theorem WebOk.sortT {its : List It4} (w : WebOk its) {x : Str} (h : x ∈ its.map (·.nm)) (hT : x ∈ T4) : sortS its x = "trial" := by
  obtain ⟨i, hi, rfl⟩ := its_of h
  rw [sortS_self w.nm hi]
  exact ((w.loc i hi).trial hT).1
theorem WebOk.sortN {its : List It4} (w : WebOk its) {x : Str} (h : x ∈ its.map (·.nm)) (hN : x ∈ N5) : sortS its x = "all" ∨ sortS its x = "any" := by
  obtain ⟨i, hi, rfl⟩ := its_of h
  rw [sortS_self w.nm hi]
  exact ((w.loc i hi).need hN).1
theorem WebOk.osN {its : List It4} (w : WebOk its) {x : Str} (h : x ∈ its.map (·.nm)) (hN : x ∈ N5) : ∀ o ∈ osOf its x, Node its o := by
  obtain ⟨i, hi, rfl⟩ := its_of h
  rw [osOf_self w.nm hi]
  exact fun o ho => ⟨w.c.cl i hi o ho, ((w.loc i hi).need hN).2.2 o ho⟩
theorem WebOk.asc {its : List It4} (w : WebOk its) {x : Str} (h : x ∈ its.map (·.nm)) : KSb.Asc x := names_asc w.c h
theorem T4_N5 : ∀ x ∈ N5, x ∉ T4 := by decide +kernel
theorem WebOk.few {its : List It4} (w : WebOk its) : its.length ≤ 12 := w.c.few
theorem sgn_asc {s : Str} (h : s ∈ eupro) : KSb.Asc s := nameS_asc (nameS_lit s (in_lit (.inr (.inr (.inr h)))))
/-! names, sorts -/
theorem is_name_str {x : Str} (h : nameS x = true) : m_is_name [.fz (.str x)] = .ok (.v (.bl true)) [] := by
  have hl : x.length ≤ 40 * 2 ^ 0 := by
    unfold nameS at h
    simp only [Bool.and_eq_true, decide_eq_true_eq] at h
    omega
  have q := is_name_any (t := 0) (n := 0) (by decide) (.str x hl (nameS_asc h))
  rw [q]
  show RC.ok (.v (.bl (nameS x))) [] = _
  rw [h]
theorem WebOk.name {its : List It4} (w : WebOk its) {x : Str} (h : x ∈ its.map (·.nm)) : nameS x = true := by
  obtain ⟨i, hi, rfl⟩ := its_of h
  exact (w.c.good i hi).n
theorem val_sorts (its : List It4) (x : Str) : valD (sortsK its) (.inr x) = (itOf its x).map fun i => .str i.kd := valD_it _ x its
theorem notIn_sorts {its : List It4} {x : Str} (h : x ∈ its.map (·.nm)) : gNotIn (.str x) (.dK (sortsK its)) = some false := by
  show some (!(valD (sortsK its) (.inr x)).isSome) = _
  obtain ⟨i, e⟩ := itOf_of h
  rw [val_sorts, e]; rfl
theorem get_sorts (its : List It4) (x : Str) : gDGet (.dK (sortsK its)) (.str x) = some ((itOf its x).map fun i => .str i.kd) := by
  show some (valD (sortsK its) (.inr x)) = _
  rw [val_sorts]
theorem ix_sorts {its : List It4} {x : Str} (h : x ∈ its.map (·.nm)) : gIx (.dK (sortsK its)) (.str x) = some (.v (.str (sortS its x))) := by
  obtain ⟨i, e⟩ := itOf_of h
  show (match some (valD (sortsK its) (.inr x)) with | some (some r) => some (Pl.v r) | _ => none) = _
  rw [val_sorts, e]
  unfold sortS; rw [e]; rfl
def m_need_item : Fn := fnOf 0 0 (b_need_item m_is_name m_sorts_of)
theorem need_item_ok {its : List It4} (w : WebOk its) {x : Str} (h : x ∈ its.map (·.nm)) : m_need_item [.fz (webD its), .fz (.str x)] = .ok (.v .non) [] := by
  have e1 := is_name_str (w.name h)
  have e2 := sorts_ok (its := its) (by have := w.few; omega) w.nm
  have e3 := notIn_sorts h
  simp [m_need_item, b_need_item, e1, e2, e3]
theorem flat_len {α β : Type} {f : α → List β} {n : Nat} : ∀ l : List α, (∀ i ∈ l, (f i).length ≤ n) → (l.flatMap f).length ≤ n * l.length
  | [], _ => Nat.zero_le _
  | a :: l, h => by
    have ih := flat_len l fun i hi => h i (List.mem_cons_of_mem _ hi)
    have := h a List.mem_cons_self
    rw [List.flatMap_cons, List.length_append, List.length_cons, Nat.mul_add]
    omega
/-! what holds -/
def holdS (its : List It4) (v : List Str) (x : Str) : Bool := its.all fun i => !decide (i.nm = x) || i.ss.all fun s => decide (s ∈ v)
def m_holds : Fn := fnOf 2 0 (b_holds m_need_item)
abbrev namesT (l : List Str) : D := .tup (l.map D.str)
theorem holds_ok {its : List It4} (w : WebOk its) {v : List Str} (hv : ∀ s ∈ v, KSb.Asc s) {x : Str} (h : x ∈ its.map (·.nm)) : m_holds [.fz (webD its), .fz (.str x), .fz (namesT v)] = .ok (.v (.bl (holdS its v x))) [] := by
  have e1 := need_item_ok w h
  have few := w.few
  have ax := w.asc h
  simp only [m_holds, b_holds, fnOf_eq, List.cons_append, List.nil_append, List.replicate]
  simp [e1]
  have len : ∀ i ∈ its, i.ss.length ≤ 3 := fun i hi => (w.c.good i hi).s
  rw [comp2M (enc := itD) (xs := its) (fun i => if decide (i.nm = x) = true then i.ss.map fun s => .bl (decide (s ∈ v)) else []) (by simp [itemsOf]) (sz_of (Nat.le_trans (flat_len (n := 3) its fun i hi => by
      split
      · rw [List.length_map]; exact len i hi
      · simp) (by omega))) (fun i hi => by
    have e0 : gIx (itD i) (.int 0) = some (.v (.str i.nm)) := rfl
    have e3 : gIx (itD i) (.int 3) = some (.v (namesT i.ss)) := rfl
    have q1 := gEq_str (it_asc w.c hi) ax
    cases hb : decide (i.nm = x) with
    | false => rw [hb] at q1; simp [turn2, e0, q1]
    | true =>
      rw [hb] at q1
      simp [turn2, e0, q1, e3, itemsOf]
      rw [compL_turn (enc := D.str) (fun s => some (.bl (decide (s ∈ v)))) i.ss (fun s hs => by
        have q2 : gIn (.str s) (namesT v) = some (decide (s ∈ v)) := gIn_strs (sgn_asc ((w.loc i hi).sgn s hs)) hv
        generalize decide (s ∈ v) = b at q2 ⊢
        simp [turnC, q2])]
      have e5 : i.ss.filterMap (fun s => some (D.bl (decide (s ∈ v)))) = i.ss.map fun s => D.bl (decide (s ∈ v)) := by rw [← List.filterMap_eq_map]; rfl
      rw [e5]
      simp)]
  have ea : (its.flatMap fun i => if decide (i.nm = x) = true then i.ss.map fun s => D.bl (decide (s ∈ v)) else []) = (its.flatMap fun i => if decide (i.nm = x) = true then i.ss.map fun s => decide (s ∈ v) else []).map D.bl := by
    rw [List.map_flatMap]
    congr 1
    funext i
    split
    · rw [List.map_map]; rfl
    · rfl
  have eb : (its.flatMap fun i => if decide (i.nm = x) = true then i.ss.map fun s => decide (s ∈ v) else []).all id = holdS its v x := by
    unfold holdS
    rw [List.all_flatMap]
    congr 1
    funext i
    cases hb : decide (i.nm = x) with
    | false => simp
    | true => simp [List.all_map, Function.comp_def]
  rw [ea]
  have eg := gAll_b (its.flatMap fun i => if decide (i.nm = x) = true then i.ss.map fun s => decide (s ∈ v) else [])
  rw [eb] at eg
  generalize (its.flatMap fun i => if decide (i.nm = x) = true then i.ss.map fun s => decide (s ∈ v) else []).map D.bl = L at eg ⊢
  simp [eg]
def holdL (its : List It4) (v : List Str) (n : Str) : List Str := (osOf its n).filter (holdS its v)
/-! facts -/
def linkRow (L : Str → Str → Bool) (i : It4) : List (List Key × D) := if needS i.kd = true then i.os.map fun o => ([.inr i.nm, .inr o], .bl (L i.nm o)) else []
def trialRow (T : Str → Bool) (i : It4) : List (Key × D) := if i.kd = ("trial" : Str) then [(.inr i.nm, .bl (T i.nm))] else []
def linksOf (L : Str → Str → Bool) (its : List It4) : List (List Key × D) := its.flatMap (linkRow L)
def trialsOf (T : Str → Bool) (its : List It4) : List (Key × D) := its.flatMap (trialRow T)
def factsD (its : List It4) (L : Str → Str → Bool) (T : Str → Bool) : D := .tup [.dT (linksOf L its), .dK (trialsOf T its)]
theorem links_len (L : Str → Str → Bool) (its : List It4) (h : ∀ i ∈ its, i.Good) : (linksOf L its).length ≤ 4 * its.length := flat_len its fun i hi => by
  unfold linkRow
  split
  · rw [List.length_map]; exact (h i hi).o
  · exact Nat.zero_le _
theorem trials_len (T : Str → Bool) (its : List It4) : (trialsOf T its).length ≤ 1 * its.length := flat_len its fun i _ => by
  unfold trialRow
  split
  · exact Nat.le_refl _
  · exact Nat.zero_le _
theorem links_mem {L : Str → Str → Bool} {its : List It4} {k : List Key} {d : D} (h : (k, d) ∈ linksOf L its) : ∃ i ∈ its, needS i.kd = true ∧ ∃ o ∈ i.os, k = [.inr i.nm, .inr o] ∧ d = .bl (L i.nm o) := by
  obtain ⟨i, hi, h⟩ := List.mem_flatMap.mp h
  unfold linkRow at h
  split at h
  · rename_i hn
    obtain ⟨o, ho, e⟩ := List.mem_map.mp h
    cases e
    exact ⟨i, hi, hn, o, ho, rfl, rfl⟩
  · simp at h
theorem trials_mem {T : Str → Bool} {its : List It4} {k : Key} {d : D} (h : (k, d) ∈ trialsOf T its) : ∃ i ∈ its, i.kd = "trial" ∧ k = .inr i.nm ∧ d = .bl (T i.nm) := by
  obtain ⟨i, hi, h⟩ := List.mem_flatMap.mp h
  unfold trialRow at h
  split at h
  · rename_i hn
    simp only [List.mem_cons, List.not_mem_nil, or_false] at h
    cases h
    exact ⟨i, hi, hn, rfl, rfl⟩
  · simp at h
theorem val_fun {κ : Type} [DecidableEq κ] {l : List (κ × D)} {k : κ} {v : D} (h1 : (k, v) ∈ l) (h2 : ∀ d, (k, d) ∈ l → d = v) : valD l k = some v := by
  unfold valD
  cases e : l.find? fun kv => decide (kv.1 = k) with
  | none => exact absurd (List.find?_eq_none.mp e _ h1) (by simp)
  | some kv =>
    have hk := List.find?_some e
    have hm := List.mem_of_find?_eq_some e
    obtain ⟨k', d⟩ := kv
    have : k' = k := of_decide_eq_true hk
    subst this
    rw [h2 d hm]; rfl
theorem val_none {κ : Type} [DecidableEq κ] {l : List (κ × D)} {k : κ} (h : ∀ d, (k, d) ∉ l) : valD l k = none := by
  unfold valD
  rw [List.find?_eq_none.mpr]
  · rfl
  · rintro ⟨k', d⟩ hm e
    have : k' = k := of_decide_eq_true e
    subst this
    exact h d hm
theorem ix_links {its : List It4} (w : WebOk its) {L : Str → Str → Bool} {n o : Str} (hn : n ∈ its.map (·.nm)) (hN : n ∈ N5) (ho : o ∈ osOf its n) : gIx (.dT (linksOf L its)) (.tup [.str n, .str o]) = some (.v (.bl (L n o))) := by
  obtain ⟨i, hi, rfl⟩ := its_of hn
  rw [osOf_self w.nm hi] at ho
  have e : valD (linksOf L its) [.inr i.nm, .inr o] = some (.bl (L i.nm o)) := val_fun (List.mem_flatMap.mpr ⟨i, hi, by rw [linkRow, if_pos ((w.loc i hi).isN.mpr hN)]; exact List.mem_map.mpr ⟨o, ho, rfl⟩⟩) fun d hd => by
    obtain ⟨j, hj, _, o', _, ek, ed⟩ := links_mem hd
    simp only [List.cons.injEq, Sum.inr.injEq, and_true] at ek
    rw [ed, ek.1, ek.2]
  show (match some (valD (linksOf L its) [.inr i.nm, .inr o]) with | some (some r) => some (Pl.v r) | _ => none) = _
  rw [e]
theorem val_trials {its : List It4} (w : WebOk its) {T : Str → Bool} {i : It4} (hi : i ∈ its) (hT : i.nm ∈ T4) : valD (trialsOf T its) (.inr i.nm) = some (.bl (T i.nm)) :=
  val_fun (List.mem_flatMap.mpr ⟨i, hi, by rw [trialRow, if_pos ((w.loc i hi).isT.mpr hT)]; simp⟩) fun d hd => by
    obtain ⟨j, hj, _, ek, ed⟩ := trials_mem hd
    rw [ed, (Sum.inr.inj ek : i.nm = j.nm)]
theorem in_trials {its : List It4} (w : WebOk its) {T : Str → Bool} {x : Str} (h : x ∈ its.map (·.nm)) : gIn (.str x) (.dK (trialsOf T its)) = some (decide (x ∈ T4)) := by
  show some (valD (trialsOf T its) (.inr x)).isSome = _
  obtain ⟨i, hi, rfl⟩ := its_of h
  by_cases hT : i.nm ∈ T4
  · rw [val_trials w hi hT]
    simp [hT]
  · have e : valD (trialsOf T its) (.inr i.nm) = none := val_none fun d hd => by
      obtain ⟨j, hj, hk, ek, ed⟩ := trials_mem hd
      have := (w.loc j hj).isT.mp hk
      rw [← (Sum.inr.inj ek : i.nm = j.nm)] at this
      exact hT this
    rw [e]
    simp [hT]
theorem ix_trials {its : List It4} (w : WebOk its) {T : Str → Bool} {x : Str} (h : x ∈ its.map (·.nm)) (hT : x ∈ T4) : gIx (.dK (trialsOf T its)) (.str x) = some (.v (.bl (T x))) := by
  obtain ⟨i, hi, rfl⟩ := its_of h
  show (match some (valD (trialsOf T its) (.inr i.nm)) with | some (some r) => some (Pl.v r) | _ => none) = _
  rw [val_trials w hi hT]
/-- a new link's key -/
theorem put_link {L : Str → Str → Bool} {pre : List It4} {l : List (List Key × D)} {n o : Str} {d : D} (h1 : ∀ d, (([.inr n, .inr o] : List Key), d) ∉ l) (hl : l.length ≤ 1000) : putO (.dT l) (.tup [.str n, .str o]) d = some (.dT (l ++ [([.inr n, .inr o], d)])) := by
  show (if l.length < sizeLine then some (O.dT (putD l [.inr n, .inr o] d)) else none) = _
  rw [if_pos (by rw [sizeLine_eq]; omega), putD_new fun hm => by
    obtain ⟨⟨k, d'⟩, hk, e⟩ := List.mem_map.mp hm
    simp only at e
    subst e
    exact h1 d' hk]
theorem put_trial {l : List (Key × D)} {n : Str} {d : D} (h1 : ∀ d, ((.inr n : Key), d) ∉ l) (hl : l.length ≤ 1000) : putO (.dK l) (.str n) d = some (.dK (l ++ [(.inr n, d)])) := by
  show (if l.length < sizeLine then some (O.dK (putD l (.inr n) d)) else none) = _
  rw [if_pos (by rw [sizeLine_eq]; omega), putD_new fun hm => by
    obtain ⟨⟨k, d'⟩, hk, e⟩ := List.mem_map.mp hm
    simp only at e
    subst e
    exact h1 d' hk]
theorem linksOf_app (L : Str → Str → Bool) (a b : List It4) : linksOf L (a ++ b) = linksOf L a ++ linksOf L b := by unfold linksOf; rw [List.flatMap_append]
theorem trialsOf_app (T : Str → Bool) (a b : List It4) : trialsOf T (a ++ b) = trialsOf T a ++ trialsOf T b := by unfold trialsOf; rw [List.flatMap_append]
theorem nd_split {its pre post : List It4} {i : It4} (nd : (its.map (·.nm)).Nodup) (e : its = pre ++ i :: post) : i.nm ∉ pre.map (·.nm) := fun h => by
  rw [e, List.map_append, List.map_cons, List.nodup_append] at nd
  exact nd.2.2 _ h _ List.mem_cons_self rfl
theorem ris_nd {l : List Str} (h : RisS l) : l.Nodup := h.imp fun {a b} hab e => by
  subst e
  rw [ltS_irr] at hab; cases hab
end NT

set_option Elab.async false
set_option linter.all false
set_option maxRecDepth 100000
set_option maxHeartbeats 4000000
namespace NT
open PySem PySem.Spec PyProof.Rows L2 PySem.W
/-! what is met -/
section
variable (its : List It4) (v : List Str) (L : Str → Str → Bool) (T : Str → Bool)
def soS : Nat → Str → Bool
  | 0, _ => false
  | k + 1, x => if x ∈ T4 then T x else if sortS its x = "all" then (holdL its v x).all fun o => L x o && soS k o else (holdL its v x).any fun o => L x o && soS k o
def so (x : Str) : Bool := soS its v L T 13 x
end
section
variable {its : List It4} {v : List Str} {L : Str → Str → Bool} {T : Str → Bool}
theorem hold_sub {x o : Str} (h : o ∈ holdL its v x) : o ∈ osOf its x := (List.mem_filter.mp h).1
theorem rk_os (w : WebOk its) {rk : Str → Nat} (hr : ∀ i ∈ its, ∀ o ∈ i.os, rk o < rk i.nm) {x o : Str} (hx : x ∈ its.map (·.nm)) (ho : o ∈ osOf its x) : rk o < rk x := by
  obtain ⟨i, hi, rfl⟩ := its_of hx
  rw [osOf_self w.nm hi] at ho
  exact hr i hi o ho
theorem all_cong {α : Type} {f g : α → Bool} : ∀ {l : List α}, (∀ x ∈ l, f x = g x) → l.all f = l.all g
  | [], _ => rfl
  | a :: l, h => by rw [List.all_cons, List.all_cons, h a List.mem_cons_self, all_cong fun x hx => h x (List.mem_cons_of_mem _ hx)]
theorem any_cong {α : Type} {f g : α → Bool} : ∀ {l : List α}, (∀ x ∈ l, f x = g x) → l.any f = l.any g
  | [], _ => rfl
  | a :: l, h => by rw [List.any_cons, List.any_cons, h a List.mem_cons_self, any_cong fun x hx => h x (List.mem_cons_of_mem _ hx)]
theorem soS_stable (w : WebOk its) {rk : Str → Nat} (hr : ∀ i ∈ its, ∀ o ∈ i.os, rk o < rk i.nm) : ∀ (k m : Nat) (x : Str), x ∈ its.map (·.nm) → rk x < k → rk x < m → soS its v L T k x = soS its v L T m x
  | 0, _, _, _, h, _ => by omega
  | _ + 1, 0, _, _, _, h => by omega
  | k + 1, m + 1, x, hx, h1, h2 => by
    have step : ∀ o ∈ holdL its v x, soS its v L T k o = soS its v L T m o := fun o ho => by
      have hl := rk_os w hr hx (hold_sub ho)
      exact soS_stable w hr k m o ((osOf_ok w.c hx).1 o (hold_sub ho)) (by omega) (by omega)
    unfold soS
    rw [all_cong (g := fun o => L x o && soS its v L T m o) fun o ho => by rw [step o ho], any_cong (g := fun o => L x o && soS its v L T m o) fun o ho => by rw [step o ho]]
theorem so_eq (w : WebOk its) {x : Str} (hx : x ∈ its.map (·.nm)) : so its v L T x = if x ∈ T4 then T x else if sortS its x = "all" then (holdL its v x).all fun o => L x o && so its v L T o else (holdL its v x).any fun o => L x o && so its v L T o := by
  obtain ⟨rk, r12, hr⟩ := w.rank
  unfold so
  rw [soS_stable w hr 13 14 x hx (by have := r12 x; omega) (by have := r12 x; omega)]
  rfl
end
theorem sort_all {its : List It4} (w : WebOk its) (x z : Str) (hz : KSb.Asc z) : gEq (.str (sortS its x)) (.str z) = some (decide (sortS its x = z)) := gEq_str (sortS_asc w.c.good x) hz
theorem asc_all : KSb.Asc "all" := asc_kinds _ (by decide +kernel)
theorem asc_any : KSb.Asc "any" := asc_kinds _ (by decide +kernel)
theorem asc_trial : KSb.Asc "trial" := asc_kinds _ (by decide +kernel)
/-! met, open -/
/-- whether a need is met in a state -/
def metS (its : List It4) (s : State) (v : List Str) (x : Str) : Bool := so its v (linkS its s) (passS its s) x
section
variable (its : List It4) (v : List Str) (L : Str → Str → Bool) (T : Str → Bool)
/-- which others a tree that x is met goes on with -/
def metB (x : Str) : List Str := if sortS its x = "any" then ((holdL its v x).filter fun o => L x o && so its v L T o).take 1 else holdL its v x
def metT : Nat → Str → D
  | 0, x => .tup [.str x, .tup []]
  | k + 1, x => if x ∈ T4 then .tup [.str x, .tup []] else .tup [.str x, .tup ((metB its v L T x).map (metT k))]
def openB (x : Str) : List Str := if sortS its x = "all" then ((holdL its v x).filter fun o => !L x o || !so its v L T o).take 1 else holdL its v x
def openT : Nat → Str → D
  | 0, x => .tup [.str x, .tup []]
  | k + 1, x => if x ∈ T4 then .tup [.str x, .tup []] else .tup [.str x, .tup ((openB its v L T x).map fun o => if L x o = true then openT k o else .tup [.str "link", .str o])]
end
theorem gSl_1 (l : List Str) : gSl (.lst (l.map D.str)) none (some 1) = some (.n (.lst ((l.take 1).map D.str))) := by
  show some (Pl.n (O.lst (cutD (l.map D.str) none (some ((1 : Nat) : Int))))) = _
  rw [cutD_to, List.map_take]
def toldS (its : List It4) (s : State) (v : List Str) (x : Str) : D := if metS its s v x = true then .tup [.str "met", metT its v (linkS its s) (passS its s) 13 x] else .tup [.str "open", openT its v (linkS its s) (passS its s) 13 x]
end NT

set_option Elab.async false
set_option linter.all false
set_option maxRecDepth 100000
set_option maxHeartbeats 4000000
namespace NT
open PySem PySem.Spec PyProof.Rows L2 PySem.W
/-! comprehensions that draw -/
theorem compL_inv {α : Type} {enc : α → D} {vs : List Nat} {g : D → M Unit} {tt : M Bool} {te : M D} (I : List α → List D → En → Prop) : ∀ (post pre : List α) (acc : List D) (r : En), I pre acc r →
    (∀ pre' x post' acc r, pre ++ post = pre' ++ x :: post' → I pre' acc r → ∃ d r', turnC vs g tt te r (enc x) = .ok (some d) r' ∧ I (pre' ++ [x]) (acc ++ [d]) r') →
    ∃ ds r', compL vs g tt te (post.map enc) r = .ok ds r' ∧ I (pre ++ post) (acc ++ ds) r'
  | [], pre, acc, r, h, _ => ⟨[], r, rfl, by rw [List.append_nil, List.append_nil]; exact h⟩
  | x :: post, pre, acc, r, h, hs => by
    obtain ⟨d, r', e, h'⟩ := hs pre x post acc r rfl h
    obtain ⟨ds, r2, e2, h2⟩ := compL_inv I post (pre ++ [x]) (acc ++ [d]) r' h' (by rw [List.append_assoc]; exact hs)
    refine ⟨d :: ds, r2, ?_, by rw [List.append_assoc, List.append_assoc] at h2; exact h2⟩
    rw [List.map_cons]
    unfold compL
    unfold turnC at e
    cases hg : g (enc x) r with
    | ex a b => rw [hg] at e; simp at e
    | st => rw [hg] at e; simp at e
    | ok u r1 =>
      rw [hg] at e
      simp only [R.b_ok, tc1_eq] at e ⊢
      cases ht : tt r1 with
      | ex a b => rw [ht] at e; simp at e
      | st => rw [ht] at e; simp at e
      | ok b r3 =>
        rw [ht] at e
        simp only [R.b_ok, tc2_eq] at e ⊢
        cases b with
        | false => simp at e
        | true =>
          simp only [if_true] at e ⊢
          cases he : te r3 with
          | ex a b => rw [he] at e; simp at e
          | st => rw [he] at e; simp at e
          | ok y r4 =>
            rw [he] at e
            simp only [R.b_ok, tc3_eq, R.ok.injEq, Option.some.injEq] at e ⊢
            rw [e.2, e2, ← e.1]
theorem comp_draw {α : Type} {enc : α → D} {xs : List α} {vs : List Nat} {it : M (List D)} {g : D → M Unit} {tt : M Bool} {te : M D} {r r0 : En} {X : R Pl} (hX : mComp vs it g tt te r = X) (I : List α → List D → En → Prop) (hi : it r = .ok (xs.map enc) r0) (h0 : I [] [] (wipeE r0 vs))
    (h : ∀ pre x post acc r, xs = pre ++ x :: post → I pre acc r → ∃ d r', turnC vs g tt te r (enc x) = .ok (some d) r' ∧ I (pre ++ [x]) (acc ++ [d]) r') (hl : ∀ ds r, I xs ds r → ds.length ≤ sizeLine) :
    ∃ ds r', X = .ok (.n (.lst ds)) (restE r0 r' vs) ∧ I xs ds r' := by
  subst hX
  obtain ⟨ds, r', e, hI⟩ := compL_inv (enc := enc) (vs := vs) (g := g) (tt := tt) (te := te) I xs [] [] (wipeE r0 vs) h0 h
  refine ⟨ds, r', ?_, hI⟩
  unfold mComp
  rw [hi]
  simp only
  unfold mCompA
  rw [e]
  simp only
  rw [List.nil_append] at hI
  rw [if_pos (hl ds r' hI)]
/-! the law's own: sorts, needs, versions -/
theorem filt_self {its : List It4} (nd : (its.map (·.nm)).Nodup) {x : Str} (hx : x ∈ its.map (·.nm)) : ∃ i, itOf its x = some i ∧ ∃ r, its.filter (fun j => decide (j.nm = x)) = i :: r := by
  obtain ⟨i, e⟩ := itOf_of hx
  exact ⟨i, e, filt_head e⟩
def needsL (its : List It4) : List Str := (its.filter fun i => needS i.kd).map (·.nm)
theorem needs_mem {its : List It4} (w : WebOk its) {n : Str} : n ∈ needsL its ↔ n ∈ its.map (·.nm) ∧ n ∈ N5 := by
  unfold needsL
  constructor
  · intro h
    obtain ⟨i, hi, rfl⟩ := List.mem_map.mp h
    obtain ⟨h1, h2⟩ := List.mem_filter.mp hi
    exact ⟨List.mem_map.mpr ⟨i, h1, rfl⟩, (w.loc i h1).isN.mp h2⟩
  · rintro ⟨h, hN⟩
    obtain ⟨i, hi, rfl⟩ := its_of h
    exact List.mem_map.mpr ⟨i, List.mem_filter.mpr ⟨hi, (w.loc i hi).isN.mpr hN⟩, rfl⟩
theorem needs_ne {its : List It4} (w : WebOk its) : needsL its ≠ [] := by
  obtain ⟨i, hi, hN⟩ := w.need
  exact List.ne_nil_of_mem ((needs_mem w).mpr ⟨List.mem_map.mpr ⟨i, hi, rfl⟩, hN⟩)
theorem sub_nd_len {l m : List Str} (h : l.Nodup) (hs : ∀ x ∈ l, x ∈ m) : l.length ≤ m.length := nodup_le h hs
theorem needs_len {its : List It4} (w : WebOk its) : (needsL its).length ≤ 5 := by
  have nd : (needsL its).Nodup := w.nm.sublist (List.Sublist.map _ List.filter_sublist)
  exact sub_nd_len nd (m := N5) fun x hx => ((needs_mem w).mp hx).2
theorem in_needs (z : Str) (hz : KSb.Asc z) : gIn (.str z) (.lst [.str "all", .str "any"]) = some (needS z) := by
  have q := gIn_strs (z := z) (cs := ["all", "any"]) hz (fun x hx => by
    simp only [List.mem_cons, List.not_mem_nil, or_false] at hx
    rcases hx with rfl | rfl
    · exact asc_all
    · exact asc_any)
  have e : needS z = decide (z ∈ (["all", "any"] : List Str)) := by
    rw [Bool.eq_iff_iff, needS_iff, decide_eq_true_eq]; simp
  rw [e]; exact q
def m__law_needs : Fn := fnOf 1 0 b__law_needs
theorem law_needs_ok {its : List It4} (w : WebOk its) : m__law_needs [.fz (webD its)] = .ok (.n (.lst ((needsL its).map D.str))) [] := by
  have few := w.few
  have z2 := sz2
  simp only [m__law_needs, b__law_needs, fnOf_eq, List.cons_append, List.nil_append, List.replicate, sRet_eq]
  rw [compP (enc := itD) (xs := its) (fun i => needS i.kd) (fun i => .str i.nm) (by simp [itemsOf]) (sz_of (by omega)) (fun i hi => by
    have e0 : gIx (itD i) (.int 0) = some (.v (.str i.nm)) := rfl
    have e1 : gIx (itD i) (.int 1) = some (.v (.str i.kd)) := rfl
    have q1 := in_needs i.kd (asc_kinds _ (w.c.good i hi).k)
    generalize needS i.kd = b at q1 ⊢
    cases b <;> simp [turnC, e0, e1, q1, z2])]
  simp [needsL, List.map_map, Function.comp_def]
/-! spots: names' places -/
def spotsK (its : List It4) : List (Key × D) := its.zipIdx.map fun p => (.inr p.1.nm, .int (p.2 : Nat))
theorem dPairs_zi : ∀ l : List (It4 × Nat), dPairs (l.map fun p => D.tup [.str p.1.nm, .int (p.2 : Nat)]) = some (l.map fun p => ((.inr p.1.nm : Key), .int (p.2 : Nat)))
  | [] => rfl
  | p :: l => by
    have ih := dPairs_zi l
    rw [List.map_cons, List.map_cons]
    unfold dPairs
    simp [ih, keyK]
theorem spots_dict {its : List It4} (nd : (its.map (·.nm)).Nodup) : gDictP [.lst (its.zipIdx.map fun p => D.tup [.str p.1.nm, .int (p.2 : Nat)])] = some (.n (.dK (spotsK its))) := by
  have e : ((its.zipIdx.map fun p => ((.inr p.1.nm : Key), D.int (p.2 : Nat))).map (·.1)).Nodup := by
    rw [List.map_map]
    have e2 : its.zipIdx.map ((fun x : Key × D => x.1) ∘ fun p => ((.inr p.1.nm : Key), D.int (p.2 : Nat))) = (its.map (·.nm)).map (Sum.inr : Str → Key) := by
      have : its.map (·.nm) = its.zipIdx.map fun p => p.1.nm := by
        conv => lhs; rw [← List.zipIdx_map_fst 0 its]
        rw [List.map_map]; rfl
      rw [this, List.map_map]; rfl
    rw [e2]
    exact List.pairwise_map.mpr (nd.imp fun hne e => hne (Sum.inr.inj e))
  have q := mergeD_new (l := []) (kvs := its.zipIdx.map fun p => ((.inr p.1.nm : Key), D.int (p.2 : Nat))) (by rw [List.nil_append]; exact e)
  simp only [gDictP, dPairs_zi, q, List.nil_append]
  rfl
/-- the place of an item -/
def posOf (its : List It4) (x : Str) : Nat := (its.map (·.nm)).idxOf x
theorem pos_lt {its : List It4} {x : Str} (h : x ∈ its.map (·.nm)) : posOf its x < its.length := by
  have := List.idxOf_lt_length_of_mem h
  rw [List.length_map] at this
  exact this
theorem pos_nm {its : List It4} {x : Str} (h : x ∈ its.map (·.nm)) : (its[posOf its x]'(pos_lt h)).nm = x := by
  have := List.getElem_idxOf (List.idxOf_lt_length_of_mem h)
  rw [List.getElem_map] at this
  exact this
theorem ix_spots {its : List It4} (nd : (its.map (·.nm)).Nodup) {x : Str} (h : x ∈ its.map (·.nm)) : gIx (.dK (spotsK its)) (.str x) = some (.v (.int (posOf its x : Nat))) := by
  have e : valD (spotsK its) (.inr x) = some (.int (posOf its x : Nat)) := val_fun (by
      refine List.mem_map.mpr ⟨(its[posOf its x]'(pos_lt h), posOf its x), ?_, by rw [pos_nm h]⟩
      rw [List.mem_iff_getElem]
      exact ⟨posOf its x, by rw [List.length_zipIdx]; exact pos_lt h, by rw [List.getElem_zipIdx]; simp⟩) fun d hd => by
    obtain ⟨p, hp, e⟩ := List.mem_map.mp hd
    cases e
    obtain ⟨k, hk, e⟩ := List.mem_iff_getElem.mp hp
    rw [List.length_zipIdx] at hk
    rw [List.getElem_zipIdx] at e
    subst e
    simp only [Nat.zero_add]
    have hk2 : k < (its.map (·.nm)).length := by rw [List.length_map]; exact hk
    have : (its.map (·.nm)).idxOf ((its.map (·.nm))[k]) = k := nd.idxOf_getElem k hk2
    rw [List.getElem_map] at this
    unfold posOf
    rw [this]
  show (match some (valD (spotsK its) (.inr x)) with | some (some r) => some (Pl.v r) | _ => none) = _
  rw [e]
theorem ver_pos {its : List It4} (nd : (its.map (·.nm)).Nodup) {vs : List Int} (hl : vs.length = its.length) {x : Str} (h : x ∈ its.map (·.nm)) : verOf its vs x = vs[posOf its x]'(by have := pos_lt h; omega) := by
  have hp := pos_lt h
  have hm : (its[posOf its x], vs[posOf its x]'(by omega)) ∈ its.zip vs := by
    rw [List.mem_iff_getElem]
    exact ⟨posOf its x, by rw [List.length_zip]; omega, by rw [List.getElem_zip]⟩
  have uniq : ∀ p ∈ its.zip vs, p.1.nm = x → p.2 = vs[posOf its x]'(by omega) := fun p hp e => by
    obtain ⟨k, hk, e2⟩ := List.mem_iff_getElem.mp hp
    rw [List.length_zip] at hk
    rw [List.getElem_zip] at e2
    subst e2
    have hk2 : k < (its.map (·.nm)).length := by rw [List.length_map]; omega
    have q : (its.map (·.nm)).idxOf ((its.map (·.nm))[k]) = k := nd.idxOf_getElem k hk2
    rw [List.getElem_map] at q
    simp only at e
    rw [e] at q
    have : posOf its x = k := q
    simp only [this]
  unfold verOf
  have hin : (its[posOf its x], vs[posOf its x]'(by omega)) ∈ (its.zip vs).filter fun p => decide (p.1.nm = x) := List.mem_filter.mpr ⟨hm, by simp [pos_nm h]⟩
  cases hf : (its.zip vs).filter (fun p => decide (p.1.nm = x)) with
  | nil => rw [hf] at hin; simp at hin
  | cons p ps =>
    have hp2 := List.mem_filter.mp (show p ∈ (its.zip vs).filter (fun p => decide (p.1.nm = x)) by rw [hf]; exact List.mem_cons_self)
    simp only [List.map_cons, List.headD_cons]
    exact uniq p hp2.1 (of_decide_eq_true hp2.2)
theorem ix_ver {its : List It4} (nd : (its.map (·.nm)).Nodup) {vs : List Int} (hl : vs.length = its.length) {x : Str} (h : x ∈ its.map (·.nm)) : gIx (vsD vs) (.int (posOf its x : Nat)) = some (.v (.int (verOf its vs x))) := by
  rw [ver_pos nd hl h]
  exact ix_nat (by have := pos_lt h; omega)
/-- the comprehension behind spots -/
theorem comp_spots {its : List It4} (few : its.length ≤ 12) {vs : List Nat} {it : M (List D)} {a b : Nat} {r : En} (hi : it r = .ok (its.zipIdx.map ziE) r)
    (h : ∀ p : It4 × Nat, turnC vs (gT 2 (gsCons (gN a) (gsCons (gN b) gsNil))) (M.pure true) (frz (eTup (lCons (frz (mBin gIx (eV b) (eC (.int 0)))) (lCons (frz (eV a)) lNil)))) (wipeE r vs) (ziE p) = .ok (some (.tup [.str p.1.nm, .int (p.2 : Nat)])) (wipeE r vs)) :
    mComp vs it (gT 2 (gsCons (gN a) (gsCons (gN b) gsNil))) (M.pure true) (frz (eTup (lCons (frz (mBin gIx (eV b) (eC (.int 0)))) (lCons (frz (eV a)) lNil)))) r = .ok (.n (.lst (its.zipIdx.map fun p => D.tup [.str p.1.nm, .int (p.2 : Nat)]))) (restE r (wipeE r vs) vs) :=
  compT (enc := ziE) (xs := its.zipIdx) (fun p => .tup [.str p.1.nm, .int (p.2 : Nat)]) hi (sz_of (by rw [List.length_zipIdx]; omega)) fun p _ => h p
/-! a drawn state -/
structure StDr (its : List It4) (s : State) : Prop where
  ok : StOk its s
  vr : ∀ x ∈ s.vs, 1 ≤ x ∧ x ≤ 3
  lk : ∀ l ∈ s.looks, (l.n ∈ its.map (·.nm) ∧ l.n ∈ N5 ∧ l.o ∈ osOf its l.n) ∧ (1 ≤ l.v ∧ l.v ≤ 3) ∧ (1 ≤ l.w ∧ l.w ≤ 3)
  ln : s.looks.length ≤ 20
  rn : s.res.length ≤ 8
  rs : ∀ r ∈ s.res, (r.t ∈ its.map (·.nm) ∧ r.t ∈ T4) ∧ ∀ x ∈ r.vs, 1 ≤ x ∧ x ≤ 3
def lookP (l : Look) : PyData := .tuple [.str l.n, .str l.o, .int l.v, .int l.w]
theorem toPs_looks : ∀ l : List Look, toPs (l.map lookD) = some (l.map lookP)
  | [] => by simp [toPs]
  | x :: l => by simp [toPs, toP, lookD, lookP, toPs_looks l]
theorem canSort_looks (l : List Look) : canSort (l.map lookP) = true := by
  unfold canSort
  simp [lookP, nonEmptyTup, PyData.depth, PyData.depthAll, PySem.W.alike, PySem.W.alikeAll]
theorem sorted_looks (l : List Look) : ∃ m : List Look, m.Perm l ∧ gSorted [.lst (l.map lookD)] = some (.n (.lst (m.map lookD))) := by
  have e : sortD (l.map lookD) = (l.mergeSort fun a b => leD (lookD a) (lookD b)).map lookD := (List.map_mergeSort (r := fun a b : Look => leD (lookD a) (lookD b)) (s := leD) (f := lookD) (fun a _ b _ => rfl)).symm
  exact ⟨l.mergeSort fun a b => leD (lookD a) (lookD b), List.mergeSort_perm _ _, by simp [gSorted, sortL, toPs_looks, canSort_looks, e]⟩
def trialsL (its : List It4) : List Str := (its.filter fun i => decide (i.kd = ("trial" : Str))).map (·.nm)
theorem trialsL_mem {its : List It4} (w : WebOk its) {t : Str} : t ∈ trialsL its ↔ t ∈ its.map (·.nm) ∧ t ∈ T4 := by
  unfold trialsL
  constructor
  · intro h
    obtain ⟨i, hi, rfl⟩ := List.mem_map.mp h
    obtain ⟨h1, h2⟩ := List.mem_filter.mp hi
    exact ⟨List.mem_map.mpr ⟨i, h1, rfl⟩, (w.loc i h1).isT.mp (of_decide_eq_true h2)⟩
  · rintro ⟨h, hN⟩
    obtain ⟨i, hi, rfl⟩ := its_of h
    exact List.mem_map.mpr ⟨i, List.mem_filter.mpr ⟨hi, decide_eq_true ((w.loc i hi).isT.mpr hN)⟩, rfl⟩
theorem trialsL_len {its : List It4} : (trialsL its).length ≤ its.length := by
  unfold trialsL
  rw [List.length_map]
  exact List.length_filter_le _ _
theorem trialsL_ne {its : List It4} (w : WebOk its) : trialsL its ≠ [] := by
  obtain ⟨i, hi, hN⟩ := w.trial
  exact List.ne_nil_of_mem ((trialsL_mem w).mpr ⟨List.mem_map.mpr ⟨i, hi, rfl⟩, hN⟩)
theorem gGt_i (i j : Int) : gGt (.int i) (.int j) = some (decide (j < i)) := rfl
/-- a look as it is drawn -/
def LookOk (its : List It4) (l : Look) : Prop := (l.n ∈ its.map (·.nm) ∧ l.n ∈ N5 ∧ l.o ∈ osOf its l.n) ∧ (1 ≤ l.v ∧ l.v ≤ 3) ∧ (1 ≤ l.w ∧ l.w ≤ 3)
def ResOk (its : List It4) (r : Res) : Prop := r.vs.length = its.length ∧ (r.t ∈ its.map (·.nm) ∧ r.t ∈ T4) ∧ ∀ x ∈ r.vs, 1 ≤ x ∧ x ≤ 3
structure LI (its : List It4) (now : List Int) (s5 : Sl) (k : Nat) (r : En) : Prop where
  ex : ∃ (bg : List D) (looks : List Look) (s6 s7 : Sl), r = [.own (.lst bg), .fz (webD its), .fz (vsD now), .own (.dK (spotsK its)), .own (.lst (looks.map lookD)), s5, s6, s7, .un, .un, .un, .un, .un] ∧ BagOk bg ∧ (∀ l ∈ looks, LookOk its l) ∧ looks.length ≤ k
structure RI (its : List It4) (now : List Int) (looks : List Look) (s5 s6 : Sl) (k : Nat) (r : En) : Prop where
  ex : ∃ (bg : List D) (res : List Res) (s7 s9 s10 : Sl), r = [.own (.lst bg), .fz (webD its), .fz (vsD now), .own (.dK (spotsK its)), .own (.lst (looks.map lookD)), s5, s6, s7, .own (.lst (res.map resD)), s9, s10, .un, .un] ∧ BagOk bg ∧ (∀ r ∈ res, ResOk its r) ∧ res.length ≤ k
theorem state_core {its : List It4} (w : WebOk its) {now had : List Int} {n o : Str} (hn1 : n ∈ its.map (·.nm)) (hN : n ∈ N5) (ho : o ∈ osOf its n) {bg : List D} {looks : List Look} {k : Nat} (hk : looks.length ≤ k) (k100 : k ≤ 100) (hlk : ∀ l ∈ looks, LookOk its l) (hl : had.length = its.length) (hv : ∀ x ∈ had, 1 ≤ x ∧ x ≤ 3) (hb : BagOk bg) :
    ∃ r', (sExpr (eMeth 4 gAppend (lCons (frz (eTup (lCons (frz (eV 5)) (lCons (frz (eV 6)) (lCons (frz (mBin gIx (eV 7) (mBin gIx (eV 3) (eV 5)))) (lCons (frz (mBin gIx (eV 7) (mBin gIx (eV 3) (eV 6)))) lNil)))))) lNil))) [.own (.lst bg), .fz (webD its), .fz (vsD now), .own (.dK (spotsK its)), .own (.lst (looks.map lookD)), .fz (.str n), .fz (.str o), .fz (vsD had), .un, .un, .un, .un, .un] = .nx r' ∧ LI its now (.fz (.str n)) (k + 1) r' := by
  have ho1 := (osOf_ok w.c hn1).1 o ho
  have z4 : (4 : Nat) ≤ sizeLine := sz_of (by decide)
  have i1 := ix_spots w.nm hn1
  have i2 := ix_spots w.nm ho1
  have j1 := ix_ver w.nm hl hn1
  have j2 := ix_ver w.nm hl ho1
  have rg : ∀ x, x ∈ its.map (·.nm) → 1 ≤ verOf its had x ∧ verOf its had x ≤ 3 := fun x hx => by
    rw [ver_pos w.nm hl hx]
    exact hv _ (List.getElem_mem _)
  have ap : gAppend (looks.map lookD) [.tup [.str n, .str o, .int (verOf its had n), .int (verOf its had o)]] = some (.non, (looks ++ [(⟨n, o, verOf its had n, verOf its had o⟩ : Look)]).map lookD) := by
    rw [app_ok (by rw [List.length_map]; omega), List.map_append]; rfl
  refine ⟨[.own (.lst bg), .fz (webD its), .fz (vsD now), .own (.dK (spotsK its)), .own (.lst ((looks ++ [(⟨n, o, verOf its had n, verOf its had o⟩ : Look)]).map lookD)), .fz (.str n), .fz (.str o), .fz (vsD had), .un, .un, .un, .un, .un], ?_, ⟨bg, looks ++ [(⟨n, o, verOf its had n, verOf its had o⟩ : Look)], _, _, rfl, hb, fun l hl => ?_, by rw [List.length_append]; simp only [List.length_cons, List.length_nil]; omega⟩⟩
  · generalize (looks ++ [(⟨n, o, verOf its had n, verOf its had o⟩ : Look)]).map lookD = L2 at ap ⊢
    simp [i1, i2, j1, j2, z4, ap]
  · rcases List.mem_append.mp hl with q | q
    · exact hlk l q
    · rw [List.mem_singleton.mp q]
      exact ⟨⟨hn1, hN, ho⟩, rg n hn1, rg o ho1⟩
theorem state_r_core {its : List It4} (w : WebOk its) {now had : List Int} {looks : List Look} {s5 s6 s9 s10 : Sl} {bg : List D} {res : List Res} {k : Nat} (hk : res.length ≤ k) (k100 : k ≤ 100) (hrs : ∀ r ∈ res, ResOk its r) (hl : had.length = its.length) (hv : ∀ x ∈ had, 1 ≤ x ∧ x ≤ 3) (hb : BagOk bg) :
    ∃ r', (sSeq (sSet 10 (mApp [0] m__law_of (lCons (frz (mComp [12] (mIter (frz (eV 1))) (gN 12) (tst (mBin (bo gEq) (mBin gIx (eV 12) (eC (.int 1))) (eC (.str "trial")))) (frz (mBin gIx (eV 12) (eC (.int 0)))))) lNil)))
    (sExpr (eMeth 8 gAppend (lCons (frz (eTup (lCons (frz (eV 10)) (lCons (frz (mBin (bo gGt) (mApp [0] m__law_take (lCons (frz (eC (.int 3))) lNil)) (eC (.int 0)))) (lCons (frz (eV 7)) lNil))))) lNil)))) [.own (.lst bg), .fz (webD its), .fz (vsD now), .own (.dK (spotsK its)), .own (.lst (looks.map lookD)), s5, s6, .fz (vsD had), .own (.lst (res.map resD)), s9, s10, .un, .un] = .nx r' ∧ RI its now looks s5 s6 (k + 1) r' := by
  have few := w.few
  have ltr := trialsL_len (its := its)
  have z3 : (3 : Nat) ≤ sizeLine := sz_of (by decide)
  obtain ⟨d, c3, f3, hc3, hd⟩ := of_ok hb (ds := (trialsL its).map D.str) (by simpa using trialsL_ne w) (by rw [List.length_map]; omega)
  obtain ⟨t, ht, rfl⟩ := List.mem_map.mp hd
  obtain ⟨y3, c4, f4, hc4, y30, y31⟩ := take_ok hc3 (n := 3) (by decide) (by decide)
  have ap : gAppend (res.map resD) [.tup [.str t, .bl (decide (0 < y3)), vsD had]] = some (.non, (res ++ [(⟨t, decide (0 < y3), had⟩ : Res)]).map resD) := by
    rw [app_ok (by rw [List.length_map]; omega), List.map_append]; rfl
  refine ⟨[.own (.lst c4), .fz (webD its), .fz (vsD now), .own (.dK (spotsK its)), .own (.lst (looks.map lookD)), s5, s6, .fz (vsD had), .own (.lst ((res ++ [(⟨t, decide (0 < y3), had⟩ : Res)]).map resD)), s9, .fz (.str t), .un, .un], ?_, ⟨c4, res ++ [(⟨t, decide (0 < y3), had⟩ : Res)], _, _, _, rfl, hc4, fun r hr => ?_, by rw [List.length_append]; simp only [List.length_cons, List.length_nil]; omega⟩⟩
  · generalize (res ++ [(⟨t, decide (0 < y3), had⟩ : Res)]).map resD = R2 at ap ⊢
    simp only [sSeq_eq, sSet_eq, mApp_eq, List.all_cons, List.all_nil, List.getElem?_cons_zero, hasSl_own, Bool.and_true, if_true, lCons_eq, frz_eq]
    rw [compP (enc := itD) (xs := its) (fun i => decide (i.kd = ("trial" : Str))) (fun i => .str i.nm) (by simp [itemsOf]) (sz_of (by omega)) (fun i hi => by
      have e0 : gIx (itD i) (.int 0) = some (.v (.str i.nm)) := rfl
      have e1 : gIx (itD i) (.int 1) = some (.v (.str i.kd)) := rfl
      have q1 := gEq_str (asc_kinds _ (w.c.good i hi).k) asc_trial
      generalize decide (i.kd = ("trial" : Str)) = b at q1 ⊢
      cases b <;> simp [turnC, e0, e1, q1])]
    have et : (its.filter fun i => decide (i.kd = ("trial" : Str))).map (fun i => D.str i.nm) = (trialsL its).map D.str := by unfold trialsL; rw [List.map_map]; rfl
    rw [et]
    generalize (trialsL its).map D.str = TL at f3 ⊢
    simp [f3, f4, gGt, gCmpI, z3, ap]
  · rcases List.mem_append.mp hr with q | q
    · exact hrs r q
    · rw [List.mem_singleton.mp q]
      exact ⟨hl, (trialsL_mem w).mp ht, hv⟩
end NT

set_option Elab.async false
set_option linter.all false
set_option maxRecDepth 100000
set_option maxHeartbeats 4000000
namespace NT
open PySem PySem.Spec PyProof.Rows L2 PySem.W
/-! the law's own walks: variants, holding, links, trials, facts -/
def m__law_variant : Fn := fnOf 0 1 (b__law_variant m__law_some)
def zooL : List Str := ["eu", "pro", "zoo"]
theorem asc_zoo : ∀ x ∈ zooL, KSb.Asc x := fun x hx => KSb.asc_of (List.all_eq_true.mp (show zooL.all (fun x => x.cps.toList.all fun c => decide (c < 128)) = true by decide +kernel) x hx)
theorem law_variant_ok {bg : List D} (hb : BagOk bg) : ∃ (bg' : List D) (v : List Str), m__law_variant [.own (.lst bg)] = .ok (.v (namesT v)) [.own (.lst bg')] ∧ BagOk bg' ∧ ∀ s ∈ v, KSb.Asc s := by
  have z3 : (3 : Nat) ≤ sizeLine := sz_of (by decide)
  obtain ⟨b1, o1, e1, hb1, p1, _, _⟩ := some_ok (ss := zooL) (by decide) hb (least := 0) (most := 2) (by decide) (by decide) (by decide)
  have e1' : m__law_some [.own (.lst bg), .fz (.lst [.str "eu", .str "pro", .str "zoo"]), .fz (.int 0), .fz (.int 2)] = .ok (.v (.tup ((sortStr o1).map D.str))) [.own (.lst b1)] := e1
  exact ⟨b1, sortStr o1, by simp [m__law_variant, b__law_variant, z3, e1'], hb1, fun s hs => asc_zoo s (some_mem p1 s hs)⟩
theorem gInL_bl (c : Bool) (bs : List Bool) : gInL (.bl c) (bs.map D.bl) = some (decide (c ∈ bs)) := by
  have tp : ∀ bs : List Bool, toPs (bs.map D.bl) = some (bs.map PyData.bool) := fun bs => by
    induction bs with
    | nil => simp [toPs]
    | cons b bs ih => rw [List.map_cons, List.map_cons, toPs_cons (p := .bool b) (by simp [toP]) ih]
  have s1 : SeqAt.shaped (.bool c) = true := by simp [SeqAt.shaped, PyData.canLay0, PyData.depth]
  have s2 : SeqAt.shaped (.list (bs.map PyData.bool)) = true := by
    refine shaped_of (n := 1) (by simp [PyData.canLay0, layAll_of (ps := bs.map PyData.bool) fun p hp => by obtain ⟨b, _, rfl⟩ := List.mem_map.mp hp; simp [PyData.canLay0]]) ?_ (by decide)
    have := depthAll_of (n := 0) (ps := bs.map PyData.bool) fun p hp => by obtain ⟨b, _, rfl⟩ := List.mem_map.mp hp; simp [PyData.depth]
    simp [PyData.depth]; omega
  have e : ((bs.map PyData.bool).any fun z => PyData.eqv z (.bool c)) = decide (c ∈ bs) := by
    rw [List.any_map]
    induction bs with
    | nil => simp
    | cons b bs ih =>
      have ih' := ih (by
        refine shaped_of (n := 1) (by simp [PyData.canLay0, layAll_of (ps := bs.map PyData.bool) fun p hp => by obtain ⟨b, _, rfl⟩ := List.mem_map.mp hp; simp [PyData.canLay0]]) ?_ (by decide)
        have := depthAll_of (n := 0) (ps := bs.map PyData.bool) fun p hp => by obtain ⟨b, _, rfl⟩ := List.mem_map.mp hp; simp [PyData.depth]
        simp [PyData.depth]; omega)
      rw [List.any_cons, ih']
      cases b <;> cases c <;> simp [PyData.eqv]
  simp [gInL, toP, tp, s1, s2, e]
theorem notIn_false (bs : List Bool) : gNotIn (.bl false) (.lst (bs.map D.bl)) = some (bs.all id) := by
  show (match gInL (.bl false) (bs.map D.bl) with | some b => some (!b) | none => none) = _
  rw [gInL_bl]
  show some (!decide (false ∈ bs)) = _
  congr 1
  rw [Bool.eq_iff_iff, Bool.not_eq_true', decide_eq_false_iff_not, List.all_eq_true]
  exact ⟨fun h b hb => by cases b with | true => rfl | false => exact (h hb).elim, fun h hb => by have := h false hb; cases this⟩
theorem in_true (bs : List Bool) : gIn (.bl true) (.lst (bs.map D.bl)) = some (bs.any id) := by
  show gInL (.bl true) (bs.map D.bl) = _
  rw [gInL_bl]
  congr 1
  rw [Bool.eq_iff_iff, decide_eq_true_eq, List.any_eq_true]
  exact ⟨fun h => ⟨true, h, rfl⟩, fun ⟨b, hb, e⟩ => by cases b with | true => exact hb | false => cases e⟩
/-- an item by its name -/
theorem filt_one {its : List It4} (nd : (its.map (·.nm)).Nodup) {i : It4} (hi : i ∈ its) : its.filter (fun j => decide (j.nm = i.nm)) = [i] := by
  induction its with
  | nil => simp at hi
  | cons a l ih =>
    rw [List.map_cons, List.nodup_cons] at nd
    rcases List.mem_cons.mp hi with h | h
    · subst h
      rw [List.filter_cons_of_pos (by simp), List.filter_eq_nil_iff.mpr]
      intro j hj e
      exact nd.1 (List.mem_map.mpr ⟨j, hj, of_decide_eq_true e⟩)
    · have : ¬ a.nm = i.nm := fun e => nd.1 (e ▸ List.mem_map.mpr ⟨i, h, rfl⟩)
      rw [List.filter_cons_of_neg (by simpa using this), ih nd.2 h]
theorem holdS_it {its : List It4} (nd : (its.map (·.nm)).Nodup) {i : It4} (hi : i ∈ its) (v : List Str) : holdS its v i.nm = i.ss.all fun s => decide (s ∈ v) := by
  unfold holdS
  have inj : ∀ j ∈ its, j.nm = i.nm → j = i := fun j hj e => by
    have := filt_one nd hi
    have hm : j ∈ its.filter (fun j => decide (j.nm = i.nm)) := List.mem_filter.mpr ⟨hj, by simpa using e⟩
    rw [this] at hm
    exact List.mem_singleton.mp hm
  rw [Bool.eq_iff_iff, List.all_eq_true]
  constructor
  · intro h
    have := h i hi
    simpa using this
  · intro h j hj
    by_cases e : j.nm = i.nm
    · rw [inj j hj e]; simp only [Bool.or_eq_true]; exact .inr h
    · simp [e]
/-! links and trials by the law -/
theorem spots_law {its : List It4} (t : Str) : (its.zipIdx.filter fun p => decide (p.1.nm ∈ t :: sortStr (undS its t))).map (·.2) = spots its t := by
  unfold spots
  congr 1
  apply List.filter_congr
  intro p _
  rw [Bool.eq_iff_iff, decide_eq_true_eq, List.mem_cons, (sortStr_perm (undS its t)).mem_iff, Bool.or_eq_true, decide_eq_true_eq, decide_eq_true_eq]
end NT

set_option Elab.async false
set_option linter.all false
set_option maxRecDepth 100000
set_option maxHeartbeats 4000000
namespace NT
open PySem PySem.Spec PyProof.Rows L2 PySem.W
/-! what a tree shows -/
def nodeB : D → Bool
  | .tup [.str x, .tup _] => nameS x
  | _ => false
def isTupD : D → Bool
  | .tup _ => true
  | _ => false
def namedO : D → Option Str
  | .tup [.str x, .str y] => if nameS x = true then (if x = "link" then some y else none) else none
  | .tup [.str x, _] => if nameS x = true then some x else none
  | _ => none
def endB : D → Bool
  | .tup [_, .str _] => true
  | _ => false
def optD : Option Str → D
  | none => .non
  | some x => .str x
theorem opt_inj (x y : Option Str) (h : optD x = optD y) : x = y := by
  cases x <;> cases y <;> simp [optD] at h ⊢
  exact h
theorem opts_inj (x y : List (Option Str)) (h : D.lst (x.map optD) = D.lst (y.map optD)) : x = y := by
  have e : x.map optD = y.map optD := D.lst.inj h
  induction x generalizing y with
  | nil => cases y with
    | nil => rfl
    | cons b y => simp at e
  | cons a x ih => cases y with
    | nil => simp at e
    | cons b y =>
      simp only [List.map_cons, List.cons.injEq] at e
      rw [opt_inj a b e.1, ih y (by rw [e.2]) e.2]
section
variable (its : List It4) (v : List Str) (L : Str → Str → Bool) (T : Str → Bool)
def fitsB (x : Str) (met : Bool) (os : List (Option Str)) : Bool := if (decide (sortS its x = "all") == met) = true then decide (os = (holdL its v x).map some) else (holdL its v x).any fun z => decide (os = [some z])
def showB : Nat → Str → Bool → D → Bool
  | k + 1, x, met, .tup [.str y, .tup ps] => nameS y && decide (y = x) && (if x ∈ T4 then ps.isEmpty && (T x == met) else
      fitsB its v x met (ps.map namedO) && ps.all fun p => match namedO p with
        | none => false
        | some o => if endB p = true then !met && !L x o else L x o && showB k o met p)
  | _, _, _, _ => false
end
theorem nodeB_iff {d : D} : nodeB d = true ↔ ∃ y ps, d = .tup [.str y, .tup ps] ∧ nameS y = true := by
  constructor
  · intro h
    unfold nodeB at h
    split at h
    · exact ⟨_, _, rfl, h⟩
    · cases h
  · rintro ⟨y, ps, rfl, h⟩
    exact h
theorem len2 {l : List D} (h : l.length = 2) : ∃ a b, l = [a, b] := by
  match l, h with
  | [a, b], _ => exact ⟨a, b, rfl⟩
theorem ix2 (a b : D) : gIx (.tup [a, b]) (.int 0) = some (.v a) ∧ gIx (.tup [a, b]) (.int 1) = some (.v b) := ⟨rfl, rfl⟩
theorem no2 {l : List D} (h : ¬ l.length = 2) : nodeB (.tup l) = false ∧ namedO (.tup l) = none ∧ endB (.tup l) = false := by
  refine ⟨?_, ?_, ?_⟩
  · unfold nodeB; split
    · rename_i e; cases e; simp at h
    · rfl
  · unfold namedO; split
    · rename_i e; cases e; simp at h
    · rename_i e; cases e; simp at h
    · rfl
  · unfold endB; split
    · rename_i e; cases e; simp at h
    · rfl
theorem asc_link : KSb.Asc "link" := nameS_asc (by decide +kernel)
theorem named_asc {t n : Nat} {d : D} (h : Pd t n d) {o : Str} (e : namedO d = some o) : KSb.Asc o := by
  unfold namedO at e
  split at e
  · rename_i x y
    split at e
    · split at e
      · cases e
        cases h with
        | tup l hl ha => cases ha (.str o) (by simp) with | str _ _ a => exact a
      · cases e
    · cases e
  · split at e
    · rename_i hx
      cases e
      exact nameS_asc hx
    · cases e
  · cases e
theorem Pd.endB {t n : Nat} {a b : D} (h : Pd t n b) : isTy b "str" = some (endB (.tup [a, b])) := by cases h <;> rfl
theorem named_end {t n : Nat} {d : D} (h : Pd t n d) {o : Str} (e : namedO d = some o) : ∃ a b, d = .tup [a, b] ∧ isTy b "str" = some (endB d) := by
  obtain ⟨a, b, rfl⟩ : ∃ a b, d = .tup [a, b] := by
    unfold namedO at e
    split at e
    · exact ⟨_, _, rfl⟩
    · exact ⟨_, _, rfl⟩
    · cases e
  refine ⟨a, b, rfl, ?_⟩
  cases h with
  | tup l hl ha => exact (ha b (by simp)).endB
theorem opt_pn {t n : Nat} {d : D} (h : Pd t n d) : Pn 0 (optD (namedO d)) := by
  cases e : namedO d with
  | none => exact .non
  | some o => exact .str _ (named_asc h e)
theorem gNe_of {a b : D} {c : Bool} (h : gEq a b = some c) : gNe a b = some (!c) := by simp [gNe, h]
theorem gEq_bl (a b : Bool) : gEq (.bl a) (.bl b) = some (a == b) := by
  cases a <;> cases b <;> simp [gEq, toP, SeqAt.shaped, PyData.canLay0, PyData.depth, PyData.eqv]
theorem zip_opt : ∀ l : List D, zipD (l.map fun d => optD (namedO d)) l = l.map fun d => D.tup [optD (namedO d), d]
  | [] => rfl
  | d :: l => by rw [List.map_cons, zipD, zip_opt l, List.map_cons]
theorem fits_mem {its : List It4} {v : List Str} {x : Str} {met : Bool} {os : List (Option Str)} (h : fitsB its v x met os = true) : ∀ o ∈ os, ∃ z ∈ holdL its v x, o = some z := by
  unfold fitsB at h
  split at h
  · rw [of_decide_eq_true h]
    intro o ho
    obtain ⟨z, hz, rfl⟩ := List.mem_map.mp ho
    exact ⟨z, hz, rfl⟩
  · obtain ⟨z, hz, e⟩ := List.any_eq_true.mp h
    rw [of_decide_eq_true e]
    intro o ho
    exact ⟨z, hz, List.mem_singleton.mp ho⟩
end NT

set_option Elab.async false
set_option linter.all false
set_option maxRecDepth 100000
set_option maxHeartbeats 4000000
namespace NT
open PySem PySem.Spec PyProof.Rows L2 PySem.W
/-! what leads where; the last result that counts -/
theorem compL_J {α : Type} {enc : α → D} {vs : List Nat} {g : D → M Unit} {tt : M Bool} {te : M D} (q : α → Option D) (J : En → Prop) : ∀ (xs : List α) (r : En), J r →
    (∀ x ∈ xs, ∀ r, J r → ∃ r', turnC vs g tt te r (enc x) = .ok (q x) r' ∧ J r') →
    ∃ r', compL vs g tt te (xs.map enc) r = .ok (xs.filterMap q) r' ∧ J r'
  | [], r, h, _ => ⟨r, rfl, h⟩
  | x :: xs, r, h, hs => by
    obtain ⟨r', e, h'⟩ := hs x List.mem_cons_self r h
    obtain ⟨r2, e2, h2⟩ := compL_J q J xs r' h' fun y hy => hs y (List.mem_cons_of_mem _ hy)
    refine ⟨r2, ?_, h2⟩
    rw [List.map_cons]
    unfold compL
    unfold turnC at e
    cases hg : g (enc x) r with
    | ex a b => rw [hg] at e; simp at e
    | st => rw [hg] at e; simp at e
    | ok u r1 =>
      rw [hg] at e
      simp only [R.b_ok, tc1_eq] at e ⊢
      cases ht : tt r1 with
      | ex a b => rw [ht] at e; simp at e
      | st => rw [ht] at e; simp at e
      | ok b r3 =>
        rw [ht] at e
        simp only [R.b_ok, tc2_eq] at e ⊢
        cases b with
        | false =>
          simp only [Bool.false_eq_true, if_false, R.ok.injEq] at e ⊢
          rw [e.2, e2, List.filterMap_cons_none e.1.symm]
        | true =>
          simp only [if_true] at e ⊢
          cases he : te r3 with
          | ex a b => rw [he] at e; simp at e
          | st => rw [he] at e; simp at e
          | ok y r4 =>
            rw [he] at e
            simp only [R.b_ok, tc3_eq, R.ok.injEq] at e ⊢
            rw [e.2, e2, List.filterMap_cons_some e.1.symm]
theorem compPJ {α : Type} {enc : α → D} {xs : List α} {vs : List Nat} {it : M (List D)} {g : D → M Unit} {tt : M Bool} {te : M D} {r r0 : En} {X : R Pl} (hX : mComp vs it g tt te r = X) (p : α → Bool) (f : α → D) (J : En → Prop) (hi : it r = .ok (xs.map enc) r0) (h0 : J (wipeE r0 vs)) (hl : xs.length ≤ sizeLine)
    (h : ∀ x ∈ xs, ∀ r, J r → ∃ r', turnC vs g tt te r (enc x) = .ok (if p x = true then some (f x) else none) r' ∧ J r') :
    ∃ r', X = .ok (.n (.lst ((xs.filter p).map f))) (restE r0 r' vs) ∧ J r' := by
  subst hX
  obtain ⟨r', e, hI⟩ := compL_J (enc := enc) (vs := vs) (g := g) (tt := tt) (te := te) (fun x => if p x = true then some (f x) else none) J xs (wipeE r0 vs) h0 h
  refine ⟨r', ?_, hI⟩
  unfold mComp
  rw [hi]
  simp only
  unfold mCompA
  rw [e]
  simp only
  rw [filterMap_ite, if_pos (by rw [List.length_map]; exact Nat.le_trans (List.length_filter_le _ _) hl)]
theorem fold_last (q : Res → Bool) : ∀ (l : List Res) (b : Bool), l.foldl (fun last r => if q r then r.p else last) b = ((l.filter q).map (·.p)).getLastD b
  | [], _ => rfl
  | a :: l, b => by
    rw [List.foldl_cons, fold_last q l, List.filter_cons]
    cases q a with
    | true =>
      rw [if_pos rfl, if_pos rfl, List.map_cons, List.getLastD_cons]
    | false => rfl
theorem sort_K (l : List Str) : sortK l = sortStr l := rfl
def m_leads_to : Fn := fnOf 0 0 (b_leads_to m_need_item m_all_under m_others_of)
theorem und_len {its : List It4} (w : WebOk its) {t : Str} (ht : t ∈ its.map (·.nm)) : (undS its t).length ≤ 12 := by
  have := (under_ok w.c ht).2
  have q := nodup_le this.nd this.hf
  rw [List.length_map] at q
  exact Nat.le_trans q w.few
theorem leads_ok {its : List It4} (w : WebOk its) {t : Str} (ht : t ∈ its.map (·.nm)) : m_leads_to [.fz (webD its), .fz (.str t)] = .ok (.n (.lst ((sortStr (undS its t)).map D.str))) [] := by
  have few := w.few
  have e0 := need_item_ok w ht
  have e1 := others_ok (its := its) (by omega) w.c.nd
  have e2 := (under_ok w.c ht).1
  have ul := und_len w ht
  have ek : (foundK (undS its t)).map (·.1) = (undS its t).map Sum.inr := by unfold foundK; rw [List.map_map]; rfl
  have e3 : gSortedD [.dK (foundK (undS its t))] = some (.n (.lst ((sortStr (undS its t)).map D.str))) := by
    show (match keysS ((foundK (undS its t)).map (·.1)) with | some ks => if ks.length < 64 then some (Pl.n (O.lst ((sortK ks).map D.str))) else none | none => none) = _
    rw [ek, keysS_of]
    simp only [sort_K]
    rw [if_pos (by omega)]
  unfold undS at e3 ⊢
  simp [m_leads_to, b_leads_to, e0, e1, e2, e3]
theorem atI_last {α : Type} {l : List α} (h : l ≠ []) : L2.atI l (-1) = some (l.getLast h) := by
  have hp := List.length_pos_iff.mpr h
  unfold L2.atI L2.ixN
  rw [if_neg (by omega), if_pos (by omega)]
  have e : ((-1 : Int) + (l.length : Int)).toNat = l.length - 1 := by omega
  simp only [Option.bind_some, e]
  rw [List.getLast_eq_getElem, List.getElem?_eq_getElem (by omega)]
/-- the places, as the law lists them -/
def spotsL (its : List It4) (t : Str) : List Nat := (t :: sortStr (undS its t)).map (posOf its)
theorem spots_same {its : List It4} (w : WebOk its) {t : Str} (ht : t ∈ its.map (·.nm)) (k : Nat) : k ∈ spotsL its t ↔ k ∈ spots its t := by
  have hu := undS_fit w.c ht
  have mm : ∀ x, x ∈ t :: sortStr (undS its t) ↔ x = t ∨ x ∈ undS its t := fun x => by rw [List.mem_cons, (sortStr_perm _).mem_iff]
  unfold spotsL spots
  simp only [List.mem_map, List.mem_filter, Bool.or_eq_true, decide_eq_true_eq]
  constructor
  · rintro ⟨x, hx, rfl⟩
    have hxi : x ∈ its.map (·.nm) := by
      rcases (mm x).mp hx with rfl | h
      · exact ht
      · exact hu x h
    refine ⟨(its[posOf its x]'(pos_lt hxi), posOf its x), ⟨?_, ?_⟩, rfl⟩
    · rw [List.mem_iff_getElem]
      exact ⟨posOf its x, by rw [List.length_zipIdx]; exact pos_lt hxi, by rw [List.getElem_zipIdx]; simp⟩
    · rw [pos_nm hxi]
      exact (mm x).mp hx
  · rintro ⟨p, ⟨hp, hq⟩, rfl⟩
    obtain ⟨j, hj, e⟩ := List.mem_iff_getElem.mp hp
    rw [List.length_zipIdx] at hj
    rw [List.getElem_zipIdx] at e
    subst e
    refine ⟨its[j].nm, (mm _).mpr hq, ?_⟩
    have hk2 : j < (its.map (·.nm)).length := by rw [List.length_map]; exact hj
    have q := w.nm.idxOf_getElem j hk2
    rw [List.getElem_map] at q
    simpa [posOf] using q
theorem agree_same {its : List It4} (w : WebOk its) {t : Str} (ht : t ∈ its.map (·.nm)) (vs ws : List Int) : ((spotsL its t).filter fun k => !decide (ws[k]? = vs[k]?)).isEmpty = agreeS (spots its t) vs ws := by
  rw [Bool.eq_iff_iff, List.isEmpty_iff, List.filter_eq_nil_iff]
  unfold agreeS
  rw [List.all_eq_true]
  constructor
  · intro h k hk
    have := h k ((spots_same w ht k).mpr hk)
    simpa using this
  · intro h k hk
    have := h k ((spots_same w ht k).mp hk)
    simpa using this
theorem gEq_lnil {n : Nat} {l : List D} (h : ∀ d ∈ l, Pn n d) (hn : n ≤ 59) : gEq (.lst l) (.lst []) = some l.isEmpty := by
  obtain ⟨c, e, q⟩ := gEq_pn (n := n + 1) (.lst l h) (.lst [] fun d hd => by simp at hd) (by omega)
  rw [e]
  congr 1
  rw [Bool.eq_iff_iff, q, List.isEmpty_iff]
  exact ⟨fun e => D.lst.inj e, fun e => by rw [e]⟩
theorem pos_len {its : List It4} (w : WebOk its) {t : Str} (ht : t ∈ its.map (·.nm)) : (spotsL its t).length ≤ 13 ∧ ∀ k ∈ spotsL its t, k < its.length := by
  refine ⟨?_, fun k hk => spots_lt k ((spots_same w ht k).mp hk)⟩
  have := und_len w ht
  unfold spotsL
  rw [List.length_map, List.length_cons, (sortStr_perm _).length_eq]
  omega
end NT

set_option Elab.async false
set_option linter.all false
set_option maxRecDepth 100000
set_option maxHeartbeats 4000000
namespace NT
open PySem PySem.Spec PyProof.Rows L2 PySem.W
/-! k02: what is refused, what leads where -/
def badL : List Str := ["", "zed", "Na", "na "]
theorem bad_asc : ∀ t ∈ badL, KSb.Asc t := fun t h => by
  have d : ∀ t ∈ badL, t.cps.toList.all (fun c => decide (c < 128)) = true := by decide +kernel
  exact asc_str (d t h)
theorem bad_ok : ∀ t ∈ badL, PyData.strOk t = true := fun t h => strOk_asc (bad_asc t h)
theorem bad_no {its : List It4} (w : WebOk its) {t : Str} (h : t ∈ badL) : t ∉ its.map (·.nm) := fun hm => by
  obtain ⟨i, hi, e⟩ := List.mem_map.mp hm
  have d : ∀ t ∈ badL, t ∉ P3 ∧ t ∉ T4 ∧ t ∉ N5 := by decide +kernel
  obtain ⟨d1, d2, d3⟩ := d t h
  rcases (w.loc i hi).knd with ⟨a, _⟩ | ⟨a, _⟩ | ⟨a, _⟩
  · exact d1 (e ▸ a)
  · exact d2 (e ▸ a)
  · exact d3 (e ▸ a)
theorem bad_len : ∀ t ∈ badL, t.length ≤ 40 * 2 ^ 0 := by decide +kernel
theorem need_item_no {its : List It4} (w : WebOk its) {t : Str} (h : t ∈ badL) : m_need_item [.fz (webD its), .fz (.str t)] = .ex ⟨"NoItem", some (.str t)⟩ [] := by
  have e1 := is_name_any (t := 0) (n := 0) (by decide) (.str t (bad_len t h) (bad_asc t h))
  have e2 := sorts_ok (its := its) (by have := w.few; omega) w.nm
  have e3 : gNotIn (.str t) (.dK (sortsK its)) = some true := by
    show some (!(valD (sortsK its) (.inr t)).isSome) = _
    rw [val_sorts]
    have : itOf its t = none := by
      cases e : itOf its t with
      | none => rfl
      | some i => exact (bad_no w h (List.mem_map.mpr ⟨i, (itOf_mem e).1, (itOf_mem e).2⟩)).elim
    rw [this]; rfl
  have e0 : nameD (.str t) = nameS t := rfl
  rw [e0] at e1
  cases hn : nameS t <;> (rw [hn] at e1; simp [m_need_item, b_need_item, e1, e2, e3])
theorem leads_no {its : List It4} (w : WebOk its) {t : Str} (h : t ∈ badL) : m_leads_to [.fz (webD its), .fz (.str t)] = .ex ⟨"NoItem", some (.str t)⟩ [] := by
  have e0 := need_item_no w h
  simp [m_leads_to, b_leads_to, e0]
def m_needs_of : Fn := fnOf 2 0 (b_needs_of m_need_item m_others_of m_all_under)
theorem needs_of_no {its : List It4} (w : WebOk its) {t : Str} (h : t ∈ badL) : m_needs_of [.fz (webD its), .fz (.str t)] = .ex ⟨"NoItem", some (.str t)⟩ [] := by
  have e0 := need_item_no w h
  simp [m_needs_of, b_needs_of, List.replicate, e0]
theorem holds_no {its : List It4} (w : WebOk its) {t : Str} (h : t ∈ badL) (v : D) : m_holds [.fz (webD its), .fz (.str t), .fz v] = .ex ⟨"NoItem", some (.str t)⟩ [] := by
  have e0 := need_item_no w h
  simp [m_holds, b_holds, List.replicate, e0]
/-- the needs that lead to x -/
def needsTo (its : List It4) (x : Str) : List Str := (its.filter fun i => needS i.kd && decide (x ∈ undS its i.nm)).map (·.nm)
theorem in_needs2 (k : Str) (h : KSb.Asc k) : gInK false ["all", "any"] (.str k) = some (.v (.bl (needS k))) := by
  show some (Pl.v (.bl (if false = true then _ else (["all", "any"] : List Str).any fun c => c == k))) = _
  rfl
theorem needs_of_ok {its : List It4} (w : WebOk its) {x : Str} (hx : x ∈ its.map (·.nm)) : m_needs_of [.fz (webD its), .fz (.str x)] = .ok (.n (.lst ((needsTo its x).map D.str))) [] := by
  have few := w.few
  have e0 := need_item_ok w hx
  have e1 := others_ok (its := its) (by omega) w.c.nd
  simp only [m_needs_of, b_needs_of, fnOf_eq, List.cons_append, List.nil_append, List.replicate]
  simp [e0, e1]
  obtain ⟨OK, hOK⟩ : ∃ l, l = othersK its := ⟨_, rfl⟩
  have ea : ∀ y ∈ its.map (·.nm), m_all_under [.fz (.dK OK), .fz (.str y)] = .ok (.n (.dK (foundK (undS its y)))) [] := fun y hy => by rw [hOK]; exact (under_ok w.c hy).1
  rw [← hOK]
  generalize hX : mComp [3] _ _ _ _ _ = X
  obtain ⟨r', rfl, s2, h2, rfl⟩ := compPJ (enc := itD) (xs := its) (r0 := [.fz (webD its), .fz (.str x), .own (.dK OK), .un]) hX (fun i => needS i.kd && decide (x ∈ undS its i.nm)) (fun i => .str i.nm)
    (fun r => ∃ s2, (s2 = .own (.dK OK) ∨ s2 = .fz (.dK OK)) ∧ r = [.fz (webD its), .fz (.str x), s2, .un]) (by simp [itemsOf]) ⟨_, .inl rfl, rfl⟩ (sz_of (by omega)) (by
    rintro i hi r ⟨s2, h2, rfl⟩
    have hin : i.nm ∈ its.map (·.nm) := List.mem_map.mpr ⟨i, hi, rfl⟩
    have x0 : gIx (itD i) (.int 0) = some (.v (.str i.nm)) := rfl
    have x1 : gIx (itD i) (.int 1) = some (.v (.str i.kd)) := rfl
    have k1 := in_needs2 i.kd (asc_kinds _ (w.c.good i hi).k)
    have e2 := ea i.nm hin
    have k2 := in_found x (undS its i.nm)
    cases hn : needS i.kd with
    | false =>
      rw [hn] at k1
      exact ⟨_, by simp [turnC, x1, k1], s2, h2, rfl⟩
    | true =>
      rw [hn] at k1
      generalize foundK (undS its i.nm) = FK at e2 k2
      generalize decide (x ∈ undS its i.nm) = b2 at k2 ⊢
      refine ⟨[.fz (webD its), .fz (.str x), .fz (.dK OK), .un], ?_, _, .inr rfl, rfl⟩
      rcases h2 with rfl | rfl <;> cases b2 <;> simp [turnC, x0, x1, k1, e2, k2])
  have en : (its.filter fun i => needS i.kd && decide (x ∈ undS its i.nm)).map (fun i => D.str i.nm) = (needsTo its x).map D.str := by unfold needsTo; rw [List.map_map]; rfl
  rw [en]
  rcases h2 with rfl | rfl <;> simp
end NT

set_option Elab.async false
set_option linter.all false
set_option maxRecDepth 100000
set_option maxHeartbeats 4000000
namespace NT
open PySem PySem.Spec PyProof.Rows L2 PySem.W
/-! k02: the law -/
theorem noi {fb : M Pl} {r r' : En} {t : Str} (ht : t ∈ badL) (h1 : r[12]? = some (.fz (.str t))) (h2 : fb (dropO r) = .ex ⟨"NoItem", some (.str t)⟩ r') : sIfNo "NoItem" bf_law_no_item 12 fb (sRet (eC (.bl false))) sNil r = .nx (dropO r) := by
  rw [sIfNo_eq h1 h2 (bad_ok t ht) (bad_ok t ht)]
  have : bf_law_no_item t t = true := by simp [bf_law_no_item]
  rw [this, if_pos rfl]
  rfl
theorem dropS_idem (s : Sl) : dropS (dropS s) = dropS s := by cases s <;> rfl
def m_law_b : En → RS := b_law m__law_bag m__law_variant m__law_web m_leads_to m__law_under m__law_needs m_needs_of m_holds m__law_of
theorem law_plain (ns : List Int) (h63 : ns.length ≤ 63) : ∃ r', m_law_b (.fz (.scr ns) :: List.replicate 14 .un) = .rt (.v (.bl true)) r' := by
  obtain ⟨M, hM, hM0, hM1⟩ : ∃ M : Int, gMin2 [.int ns.length, .int 15] = some (.v (.int M)) ∧ 0 ≤ M ∧ M ≤ 63 := by
    unfold gMin2
    by_cases c : (15 : Int) < ns.length
    · exact ⟨15, by simp [c], by omega, by omega⟩
    · exact ⟨ns.length, by simp [c], by omega, by omega⟩
  have rg : rgD [.int (1 + M)] = some ((List.range (1 + M).toNat).map fun i => .int (i : Nat)) := by
    unfold rgD
    simp only
    rw [if_pos ⟨by omega, by omega⟩]
  have z0 : (0 : Nat) ≤ sizeLine := Nat.zero_le _
  have z2 := sz2
  have z4 : (4 : Nat) ≤ sizeLine := sz_of (by decide)
  simp only [m_law_b, b_law, List.replicate]
  simp [gLen, hM, gAdd, rg]
  generalize hX : forL _ _ _ _ = X
  obtain ⟨r', rfl, hI⟩ := for_all (enc := fun i : Nat => D.int (i : Nat)) hX (List.range (1 + M).toNat) rfl (fun pre r => ∃ s1 s2 s3 s4 s5 s6 s7 s8 s9 s10 s11 s12, r = [.fz (.scr ns), s1, s2, s3, s4, s5, s6, s7, s8, s9, s10, s11, s12, .un, .un]) ⟨_, _, _, _, _, _, _, _, _, _, _, _, rfl⟩ (by
    rintro pre k post ex r ⟨s1, s2, s3, s4, s5, s6, s7, s8, s9, s10, s11, s12, rfl⟩
    obtain ⟨b0, f0, hb0⟩ := bag_ok ns k
    obtain ⟨b1, its, f1, hb1, w⟩ := wb_ok hb0 (n := 5) (by decide) (by decide)
    obtain ⟨b2, v, f2, hb2, hv⟩ := law_variant_ok hb1
    obtain ⟨d3, b3, f3, hb3, hd3⟩ := of_ok hb2 (ds := badL.map D.str) (by simp [badL]) (by simp [badL])
    obtain ⟨t, ht, rfl⟩ := List.mem_map.mp hd3
    have few := w.few
    have nlen := needs_len w
    have e_needs := law_needs_ok w
    have inner : ∀ X : RS, ∀ (bd : En → RS), bd = (sSeq (sIf (tst (mBin (bo gNe) (mApp [] m_leads_to (lCons (frz (eV 3)) (lCons (frz (eV 5)) lNil))) (mApp [] m__law_under (lCons (frz (eV 3)) (lCons (frz (eV 5)) lNil))))) (sRet (eC (.bl false))) sNil)
    (sSeq (sSet 9 (mComp [13] (mIter (frz (mApp [] m__law_needs (lCons (frz (eV 3)) lNil)))) (gN 13) (tst (mBin (bo gIn) (eV 5) (mApp [] m__law_under (lCons (frz (eV 3)) (lCons (frz (eV 13)) lNil))))) (frz (eV 13))))
    (sSeq (sIf (tst (mBin (bo gNe) (mApp [] m_needs_of (lCons (frz (eV 3)) (lCons (frz (eV 5)) lNil))) (eV 9))) (sRet (eC (.bl false))) sNil)
    (sSeq (sSet 10 (mApp [] m_holds (lCons (frz (eV 3)) (lCons (frz (eV 5)) (lCons (frz (eV 4)) lNil)))))
    (sSeq (sSet 11 (mComp [14] (mIter (frz (eV 8))) (gN 14) (tst (mBin (bo gNotIn) (eV 14) (eV 4))) (frz (eV 14))))
    (sIf (mOr (mNot (tst (mIsi "bool" (eV 10)))) (tst (mBin (bo gNe) (eV 10) (mBin (bo gEq) (eV 11) (eLst lNil))))) (sRet (eC (.bl false))) sNil)))))) →
        ∀ s5 s6 s7 s8 s9 s10 s11, forL (gT 4 (gsCons (gN 5) (gsCons (gN 6) (gsCons (gN 7) (gsCons (gN 8) gsNil))))) bd (its.map itD) [.fz (.scr ns), .fz (.int (k : Nat)), .own (.lst b2), .fz (webD its), .fz (namesT v), s5, s6, s7, s8, s9, s10, s11, s12, .un, .un] = X → ∃ r', X = .nx r' ∧ ∃ s5 s6 s7 s8 s9 s10 s11, r' = [.fz (.scr ns), .fz (.int (k : Nat)), .own (.lst b2), .fz (webD its), .fz (namesT v), s5, s6, s7, s8, s9, s10, s11, s12, .un, .un] := by
      intro X bd hbd s5 s6 s7 s8 s9 s10 s11 hX
      refine for_all (enc := itD) hX its rfl (fun pre r => ∃ s5 s6 s7 s8 s9 s10 s11, r = [.fz (.scr ns), .fz (.int (k : Nat)), .own (.lst b2), .fz (webD its), .fz (namesT v), s5, s6, s7, s8, s9, s10, s11, s12, .un, .un]) ⟨_, _, _, _, _, _, _, rfl⟩ (by
        rintro pre i post ex r ⟨s5, s6, s7, s8, s9, s10, s11, rfl⟩
        have hi : i ∈ its := by rw [ex]; simp
        have hin : i.nm ∈ its.map (·.nm) := List.mem_map.mpr ⟨i, hi, rfl⟩
        have e1 := leads_ok w hin
        have e2 := law_under_ok w.c hin
        have e3 := needs_of_ok w hin
        have e4 := holds_ok w hv hin
        have hu := undS_fit w.c hin
        have aA : ∀ y ∈ sortStr (undS its i.nm), KSb.Asc y := fun y hy => w.asc (hu y ((sortStr_perm _).mem_iff.mp hy))
        have q1 := gNe_of (gEq_strs aA aA)
        have aN : ∀ y ∈ needsTo its i.nm, KSb.Asc y := fun y hy => by
          obtain ⟨j, hj, rfl⟩ := List.mem_map.mp hy
          exact w.asc (List.mem_map.mpr ⟨j, (List.mem_filter.mp hj).1, rfl⟩)
        have q2 := gNe_of (gEq_strs aN aN)
        rw [decide_eq_true rfl] at q1 q2
        have q3 : gEq (.lst ((i.ss.filter fun s => !decide (s ∈ v)).map D.str)) (.lst []) = some (holdS its v i.nm) := by
          have q := gEq_strs (a := i.ss.filter fun s => !decide (s ∈ v)) (b := []) (fun y hy => sgn_asc ((w.loc i hi).sgn y (List.mem_filter.mp hy).1)) (fun y hy => by simp at hy)
          rw [List.map_nil] at q
          rw [q, holdS_it w.nm hi, filt_all]
        have q4 := gNe_of (gEq_bl (holdS its v i.nm) (holdS its v i.nm))
        rw [beq_self_eq_true] at q4
        subst hbd
        unfold turnF
        rw [show itD i = D.tup [.str i.nm, .str i.kd, namesT i.os, namesT i.ss] from rfl]
        unfold undS at e1 q1
        generalize (sortStr (und its 4096 (osOf its i.nm) [])).map D.str = UN at e1 e2 q1
        have few1 : (needsL its).length ≤ sizeLine := sz_of (by omega)
        have nmA := w.asc hin
        have sl3 := (w.c.good i hi).s
        have sA : ∀ s ∈ i.ss, KSb.Asc s := fun s hs => sgn_asc ((w.loc i hi).sgn s hs)
        have z0' : (0 : Nat) ≤ sizeLine := Nat.zero_le _
        have eTo : ((needsL its).filter fun n => decide (i.nm ∈ undS its n)).map D.str = (needsTo its i.nm).map D.str := by
          unfold needsL needsTo
          rw [List.filter_map, List.filter_filter]
          congr 2
          refine List.filter_congr fun j hj => ?_
          show (decide (i.nm ∈ undS its j.nm) && needS j.kd) = _
          rw [Bool.and_comm]
        simp [e1, e2, q1]
        rw [compP (enc := D.str) (xs := needsL its) (fun n => decide (i.nm ∈ undS its n)) D.str (by simp [e_needs, itemsOf]) few1 (fun n hn => by
          have e5 := law_under_ok w.c ((needs_mem w).mp hn).1
          have hu2 := undS_fit w.c ((needs_mem w).mp hn).1
          have q5 : gIn (.str i.nm) (.lst ((sortStr (undS its n)).map D.str)) = some (decide (i.nm ∈ undS its n)) := by
            show gInL _ _ = _
            rw [gIn_strs nmA fun y hy => w.asc (hu2 y ((sortStr_perm _).mem_iff.mp hy))]
            exact congrArg some (decide_eq_decide.mpr (sortStr_perm _).mem_iff)
          unfold undS at q5 ⊢
          generalize (sortStr (und its 4096 (osOf its n) [])).map D.str = UX at e5 q5
          generalize decide (i.nm ∈ und its 4096 (osOf its n) []) = b at q5 ⊢
          cases b <;> simp [turnC, e5, q5])]
        rw [eTo]
        generalize (needsTo its i.nm).map D.str = NTo at e3 q2
        simp [e3, q2, e4]
        rw [compP (enc := D.str) (xs := i.ss) (fun s => !decide (s ∈ v)) D.str (by simp [itemsOf]) (sz_of (by omega)) (fun s hs => by
          have q6 : gNotIn (.str s) (namesT v) = some (!decide (s ∈ v)) := by
            show (match gInL (.str s) (v.map D.str) with | some b => some (!b) | none => none) = _
            rw [gIn_strs (sA s hs) hv]
          generalize (!decide (s ∈ v)) = b at q6 ⊢
          cases b <;> simp [turnC, q6])]
        generalize (i.ss.filter fun s => !decide (s ∈ v)).map D.str = FL at q3
        generalize holdS its v i.nm = hb at q3 q4
        simp [isTy, tyD, q3, q4, z0'])
    obtain ⟨r2, e, t5, t6, t7, t8, t9, t10, t11, rfl⟩ := inner _ _ rfl s5 s6 s7 s8 s9 s10 s11 rfl
    have i1 := noi (fb := mApp [] m_leads_to (lCons (frz (eV 3)) (lCons (frz (eV 12)) lNil))) (r := [.fz (.scr ns), .fz (.int (k : Nat)), .own (.lst b3), .fz (webD its), .fz (namesT v), t5, t6, t7, t8, t9, t10, t11, .fz (.str t), .un, .un]) ht rfl (r' := [.fz (.scr ns), .fz (.int (k : Nat)), .un, .fz (webD its), .fz (namesT v), dropS t5, dropS t6, dropS t7, dropS t8, dropS t9, dropS t10, dropS t11, .fz (.str t), .un, .un]) (by simp [leads_no w ht])
    have i2 := noi (fb := mApp [] m_needs_of (lCons (frz (eV 3)) (lCons (frz (eV 12)) lNil))) (r := [.fz (.scr ns), .fz (.int (k : Nat)), .un, .fz (webD its), .fz (namesT v), dropS t5, dropS t6, dropS t7, dropS t8, dropS t9, dropS t10, dropS t11, .fz (.str t), .un, .un]) ht rfl (r' := [.fz (.scr ns), .fz (.int (k : Nat)), .un, .fz (webD its), .fz (namesT v), dropS t5, dropS t6, dropS t7, dropS t8, dropS t9, dropS t10, dropS t11, .fz (.str t), .un, .un]) (by simp [needs_of_no w ht, dropS_idem])
    have i3 := noi (fb := mApp [] m_holds (lCons (frz (eV 3)) (lCons (frz (eV 12)) (lCons (frz (eTup lNil)) lNil)))) (r := [.fz (.scr ns), .fz (.int (k : Nat)), .un, .fz (webD its), .fz (namesT v), dropS t5, dropS t6, dropS t7, dropS t8, dropS t9, dropS t10, dropS t11, .fz (.str t), .un, .un]) ht rfl (r' := [.fz (.scr ns), .fz (.int (k : Nat)), .un, .fz (webD its), .fz (namesT v), dropS t5, dropS t6, dropS t7, dropS t8, dropS t9, dropS t10, dropS t11, .fz (.str t), .un, .un]) (by simp [holds_no w ht, dropS_idem, z0])
    simp only [dropO_cons, dropO_nil, dropS_fz, dropS_un, dropS_own, dropS_idem] at i1 i2 i3
    refine ⟨[.fz (.scr ns), .fz (.int (k : Nat)), .un, .fz (webD its), .fz (namesT v), dropS t5, dropS t6, dropS t7, dropS t8, dropS t9, dropS t10, dropS t11, .fz (.str t), .un, .un], ?_, _, _, _, _, _, _, _, _, _, _, _, _, rfl⟩
    unfold turnF
    have ebad : badL.map D.str = [.str "", .str "zed", .str "Na", .str "na "] := rfl
    rw [ebad] at f3
    simp [f0, f1, f2, f3, itemsOf, z2, z4, e, i1, i2, i3])
  obtain ⟨s1, s2, s3, s4, s5, s6, s7, s8, s9, s10, s11, s12, rfl⟩ := hI
  simp
end NT

set_option Elab.async false
set_option linter.all false
set_option maxRecDepth 100000
set_option maxHeartbeats 4000000
namespace NT
open PySem PySem.Spec PyProof.Rows L2
section
variable {P : Program} {w : World} {K : PySem.W.Frag} {mg : Str → Option Value} {base : Heap}
theorem c__law_bag (T : Txt K mg) {C : Addr} (h : TxtX K mg C) : Cal P w K mg base 1 "_law_bag" ["script", "k"] 0 m__law_bag := d__law_bag T
theorem c__law_take (T : Txt K mg) {C : Addr} (h : TxtX K mg C) : Cal P w K mg base 1 "_law_take" ["bag", "many"] 1 m__law_take := d__law_take T
theorem c__law_some (T : Txt K mg) {C : Addr} (h : TxtX K mg C) : Cal P w K mg base 2 "_law_some" ["bag", "names", "least", "most"] 1 m__law_some := d__law_some T ((c__law_take T h).mono (by decide)) 
theorem c__law_variant (T : Txt K mg) {C : Addr} (h : TxtX K mg C) : Cal P w K mg base 3 "_law_variant" ["bag"] 1 m__law_variant := d__law_variant T ((c__law_some T h).mono (by decide)) 
theorem c__law_some_2 (T : Txt K mg) {C : Addr} (h : TxtX K mg C) : Cal P w K mg base 2 "_law_some" ["bag", "names", "least", "most"] 2 m__law_some_2 := d__law_some_2 T ((c__law_take T h).mono (by decide)) 
theorem c__law_of (T : Txt K mg) {C : Addr} (h : TxtX K mg C) : Cal P w K mg base 2 "_law_of" ["bag", "some"] 1 m__law_of := d__law_of T ((c__law_take T h).mono (by decide)) 
theorem c__law_web (T : Txt K mg) {C : Addr} (h : TxtX K mg C) : Cal P w K mg base 3 "_law_web" ["bag", "needs_so"] 1 m__law_web := d__law_web T ((c__law_take T h).mono (by decide)) ((c__law_some T h).mono (by decide)) ((c__law_some_2 T h).mono (by decide)) ((c__law_of T h).mono (by decide)) 
theorem c_is_name (T : Txt K mg) {C : Addr} (h : TxtX K mg C) : Cal P w K mg base 1 "is_name" ["thing"] 0 m_is_name := d_is_name T
theorem c_sorts_of (T : Txt K mg) {C : Addr} (h : TxtX K mg C) : Cal P w K mg base 1 "sorts_of" ["web"] 0 m_sorts_of := d_sorts_of T
theorem c_need_item (T : Txt K mg) {C : Addr} (h : TxtX K mg C) : Cal P w K mg base 3 "need_item" ["web", "name"] 0 m_need_item := d_need_item T ((c_is_name T h).mono (by decide)) ((c_sorts_of T h).mono (by decide)) ((xc_NoItem h).mono (by first | decide | omega))
theorem c_all_under (T : Txt K mg) {C : Addr} (h : TxtX K mg C) : Cal P w K mg base 1 "all_under" ["others", "name"] 0 m_all_under := d_all_under T
theorem c_others_of (T : Txt K mg) {C : Addr} (h : TxtX K mg C) : Cal P w K mg base 1 "others_of" ["web"] 0 m_others_of := d_others_of T
theorem c_leads_to (T : Txt K mg) {C : Addr} (h : TxtX K mg C) : Cal P w K mg base 4 "leads_to" ["web", "item"] 0 m_leads_to := d_leads_to T ((c_need_item T h).mono (by decide)) ((c_all_under T h).mono (by decide)) ((c_others_of T h).mono (by decide)) 
theorem c__law_others (T : Txt K mg) {C : Addr} (h : TxtX K mg C) : Cal P w K mg base 1 "_law_others" ["web", "name"] 0 m__law_others := d__law_others T
theorem c__law_under (T : Txt K mg) {C : Addr} (h : TxtX K mg C) : Cal P w K mg base 2 "_law_under" ["web", "name"] 0 m__law_under := d__law_under T ((c__law_others T h).mono (by decide)) 
theorem c__law_needs (T : Txt K mg) {C : Addr} (h : TxtX K mg C) : Cal P w K mg base 1 "_law_needs" ["web"] 0 m__law_needs := d__law_needs T
theorem c_needs_of (T : Txt K mg) {C : Addr} (h : TxtX K mg C) : Cal P w K mg base 4 "needs_of" ["web", "item"] 0 m_needs_of := d_needs_of T ((c_need_item T h).mono (by decide)) ((c_others_of T h).mono (by decide)) ((c_all_under T h).mono (by decide)) 
theorem c_holds (T : Txt K mg) {C : Addr} (h : TxtX K mg C) : Cal P w K mg base 4 "holds" ["web", "item", "variant"] 0 m_holds := d_holds T ((c_need_item T h).mono (by decide)) 
theorem f_all (T : Txt K mg) {C : Addr} (h : TxtX K mg C) {c Pt : Addr} (TB : LamX.TabB base mg c Pt) {f : Addr} {oc kV doc pm ct : Value} {od an : Option Addr} {osl : Array (Option Value)}
    (lf : K.lookup f = some ⟨oc, od, .func (PySem.W.fnOf "law" "law" (defArgs s_law) (defBody s_law) (defScope s_law) .none kV doc pm an (.ref c) ct), osl⟩) (hcd : PySem.W.codeIn K (.ref c) "law" = true) :
    FnOk P w K mg base (L2.CX P w) 60 f (PySem.W.fnOf "law" "law" (defArgs s_law) (defBody s_law) (defScope s_law) .none kV doc pm an (.ref c) ct) ["script"] (spLawT K Pt) :=
  f_law T h TB (k := 57) ((c__law_bag T h).mono (by decide)) ((c__law_variant T h).mono (by decide)) ((c__law_web T h).mono (by decide)) ((c_leads_to T h).mono (by decide)) ((c__law_under T h).mono (by decide)) ((c__law_needs T h).mono (by decide)) ((c_needs_of T h).mono (by decide)) ((c_holds T h).mono (by decide)) ((c__law_of T h).mono (by decide)) lf hcd law_plain
end
theorem cx_no {P : Program} {w : World} {H : Hp} {s s' : Shared} {e : Value} (h : L2.CX P w [] H s (fun _ _ _ => False) e s') : False := by
  obtain ⟨_, _, _, _, _, _, _, _, _, _, _, _, z⟩ := h
  exact z
theorem txt_mk {K : PySem.W.Frag} {h : Heap} {mg : Str → Option Value} (X : K.In h) (G : h.Ns mainGlobals mg) {f0 f1 f2 f3 f4 f5 f6 f7 f8 f9 f10 f11 f12 f13 f14 f15 f16 f17 f18 : Addr} {od0 an0 od1 an1 od2 an2 od3 an3 od4 an4 od5 an5 od6 an6 od7 an7 od8 an8 od9 an9 od10 an10 od11 an11 od12 an12 od13 an13 od14 an14 od15 an15 od16 an16 od17 an17 od18 an18 : Option Addr} {sl0 sl1 sl2 sl3 sl4 sl5 sl6 sl7 sl8 sl9 sl10 sl11 sl12 sl13 sl14 sl15 sl16 sl17 sl18 : Array (Option Value)} {oc0 kV0 dc0 pm0 cd0 ct0 oc1 kV1 dc1 pm1 cd1 ct1 oc2 kV2 dc2 pm2 cd2 ct2 oc3 kV3 dc3 pm3 cd3 ct3 oc4 kV4 dc4 pm4 cd4 ct4 oc5 kV5 dc5 pm5 cd5 ct5 oc6 kV6 dc6 pm6 cd6 ct6 oc7 kV7 dc7 pm7 cd7 ct7 oc8 kV8 dc8 pm8 cd8 ct8 oc9 kV9 dc9 pm9 cd9 ct9 oc10 kV10 dc10 pm10 cd10 ct10 oc11 kV11 dc11 pm11 cd11 ct11 oc12 kV12 dc12 pm12 cd12 ct12 oc13 kV13 dc13 pm13 cd13 ct13 oc14 kV14 dc14 pm14 cd14 ct14 oc15 kV15 dc15 pm15 cd15 ct15 oc16 kV16 dc16 pm16 cd16 ct16 oc17 kV17 dc17 pm17 cd17 ct17 oc18 kV18 dc18 pm18 cd18 ct18 : Value} {gt0 gt1x0 gt1x1 : Tok}
    (a0 : PySem.W.nsIn K mainGlobals "is_name" = some (some (.ref f0))) (l0 : K.lookup f0 = some ⟨oc0, od0, .func (PySem.W.fnOf "is_name" "is_name" (defArgs s_is_name) (defBody s_is_name) (defScope s_is_name) .none kV0 dc0 pm0 an0 cd0 ct0), sl0⟩) (c0 : PySem.W.codeIn K cd0 "is_name" = true) (k0 : PySem.W.keepIn K (.ref f0) = true)
    (a1 : PySem.W.nsIn K mainGlobals "sorts_of" = some (some (.ref f1))) (l1 : K.lookup f1 = some ⟨oc1, od1, .func (PySem.W.fnOf "sorts_of" "sorts_of" (defArgs s_sorts_of) (defBody s_sorts_of) (defScope s_sorts_of) .none kV1 dc1 pm1 an1 cd1 ct1), sl1⟩) (c1 : PySem.W.codeIn K cd1 "sorts_of" = true) (k1 : PySem.W.keepIn K (.ref f1) = true)
    (a2 : PySem.W.nsIn K mainGlobals "others_of" = some (some (.ref f2))) (l2 : K.lookup f2 = some ⟨oc2, od2, .func (PySem.W.fnOf "others_of" "others_of" (defArgs s_others_of) (defBody s_others_of) (defScope s_others_of) .none kV2 dc2 pm2 an2 cd2 ct2), sl2⟩) (c2 : PySem.W.codeIn K cd2 "others_of" = true) (k2 : PySem.W.keepIn K (.ref f2) = true)
    (a3 : PySem.W.nsIn K mainGlobals "all_under" = some (some (.ref f3))) (l3 : K.lookup f3 = some ⟨oc3, od3, .func (PySem.W.fnOf "all_under" "all_under" (defArgs s_all_under) (defBody s_all_under) (defScope s_all_under) .none kV3 dc3 pm3 an3 cd3 ct3), sl3⟩) (c3 : PySem.W.codeIn K cd3 "all_under" = true) (k3 : PySem.W.keepIn K (.ref f3) = true)
    (a4 : PySem.W.nsIn K mainGlobals "need_item" = some (some (.ref f4))) (l4 : K.lookup f4 = some ⟨oc4, od4, .func (PySem.W.fnOf "need_item" "need_item" (defArgs s_need_item) (defBody s_need_item) (defScope s_need_item) .none kV4 dc4 pm4 an4 cd4 ct4), sl4⟩) (c4 : PySem.W.codeIn K cd4 "need_item" = true) (k4 : PySem.W.keepIn K (.ref f4) = true)
    (a5 : PySem.W.nsIn K mainGlobals "leads_to" = some (some (.ref f5))) (l5 : K.lookup f5 = some ⟨oc5, od5, .func (PySem.W.fnOf "leads_to" "leads_to" (defArgs s_leads_to) (defBody s_leads_to) (defScope s_leads_to) .none kV5 dc5 pm5 an5 cd5 ct5), sl5⟩) (c5 : PySem.W.codeIn K cd5 "leads_to" = true) (k5 : PySem.W.keepIn K (.ref f5) = true)
    (a6 : PySem.W.nsIn K mainGlobals "needs_of" = some (some (.ref f6))) (l6 : K.lookup f6 = some ⟨oc6, od6, .func (PySem.W.fnOf "needs_of" "needs_of" (defArgs s_needs_of) (defBody s_needs_of) (defScope s_needs_of) .none kV6 dc6 pm6 an6 cd6 ct6), sl6⟩) (c6 : PySem.W.codeIn K cd6 "needs_of" = true) (k6 : PySem.W.keepIn K (.ref f6) = true)
    (a7 : PySem.W.nsIn K mainGlobals "holds" = some (some (.ref f7))) (l7 : K.lookup f7 = some ⟨oc7, od7, .func (PySem.W.fnOf "holds" "holds" (defArgs s_holds) (defBody s_holds) (defScope s_holds) .none kV7 dc7 pm7 an7 cd7 ct7), sl7⟩) (c7 : PySem.W.codeIn K cd7 "holds" = true) (k7 : PySem.W.keepIn K (.ref f7) = true)
    (a8 : PySem.W.nsIn K mainGlobals "_law_bag" = some (some (.ref f8))) (l8 : K.lookup f8 = some ⟨oc8, od8, .func (PySem.W.fnOf "_law_bag" "_law_bag" (defArgs s__law_bag) (defBody s__law_bag) (defScope s__law_bag) .none kV8 dc8 pm8 an8 cd8 ct8), sl8⟩) (c8 : PySem.W.codeIn K cd8 "_law_bag" = true) (k8 : PySem.W.keepIn K (.ref f8) = true)
    (a9 : PySem.W.nsIn K mainGlobals "_law_take" = some (some (.ref f9))) (l9 : K.lookup f9 = some ⟨oc9, od9, .func (PySem.W.fnOf "_law_take" "_law_take" (defArgs s__law_take) (defBody s__law_take) (defScope s__law_take) .none kV9 dc9 pm9 an9 cd9 ct9), sl9⟩) (c9 : PySem.W.codeIn K cd9 "_law_take" = true) (k9 : PySem.W.keepIn K (.ref f9) = true)
    (a10 : PySem.W.nsIn K mainGlobals "_law_of" = some (some (.ref f10))) (l10 : K.lookup f10 = some ⟨oc10, od10, .func (PySem.W.fnOf "_law_of" "_law_of" (defArgs s__law_of) (defBody s__law_of) (defScope s__law_of) .none kV10 dc10 pm10 an10 cd10 ct10), sl10⟩) (c10 : PySem.W.codeIn K cd10 "_law_of" = true) (k10 : PySem.W.keepIn K (.ref f10) = true)
    (a11 : PySem.W.nsIn K mainGlobals "_law_some" = some (some (.ref f11))) (l11 : K.lookup f11 = some ⟨oc11, od11, .func (PySem.W.fnOf "_law_some" "_law_some" (defArgs s__law_some) (defBody s__law_some) (defScope s__law_some) .none kV11 dc11 pm11 an11 cd11 ct11), sl11⟩) (c11 : PySem.W.codeIn K cd11 "_law_some" = true) (k11 : PySem.W.keepIn K (.ref f11) = true)
    (a12 : PySem.W.nsIn K mainGlobals "_law_web" = some (some (.ref f12))) (l12 : K.lookup f12 = some ⟨oc12, od12, .func (PySem.W.fnOf "_law_web" "_law_web" (defArgs s__law_web) (defBody s__law_web) (defScope s__law_web) .none kV12 dc12 pm12 an12 cd12 ct12), sl12⟩) (c12 : PySem.W.codeIn K cd12 "_law_web" = true) (k12 : PySem.W.keepIn K (.ref f12) = true)
    (a13 : PySem.W.nsIn K mainGlobals "_law_others" = some (some (.ref f13))) (l13 : K.lookup f13 = some ⟨oc13, od13, .func (PySem.W.fnOf "_law_others" "_law_others" (defArgs s__law_others) (defBody s__law_others) (defScope s__law_others) .none kV13 dc13 pm13 an13 cd13 ct13), sl13⟩) (c13 : PySem.W.codeIn K cd13 "_law_others" = true) (k13 : PySem.W.keepIn K (.ref f13) = true)
    (a14 : PySem.W.nsIn K mainGlobals "_law_needs" = some (some (.ref f14))) (l14 : K.lookup f14 = some ⟨oc14, od14, .func (PySem.W.fnOf "_law_needs" "_law_needs" (defArgs s__law_needs) (defBody s__law_needs) (defScope s__law_needs) .none kV14 dc14 pm14 an14 cd14 ct14), sl14⟩) (c14 : PySem.W.codeIn K cd14 "_law_needs" = true) (k14 : PySem.W.keepIn K (.ref f14) = true)
    (a15 : PySem.W.nsIn K mainGlobals "_law_under" = some (some (.ref f15))) (l15 : K.lookup f15 = some ⟨oc15, od15, .func (PySem.W.fnOf "_law_under" "_law_under" (defArgs s__law_under) (defBody s__law_under) (defScope s__law_under) .none kV15 dc15 pm15 an15 cd15 ct15), sl15⟩) (c15 : PySem.W.codeIn K cd15 "_law_under" = true) (k15 : PySem.W.keepIn K (.ref f15) = true)
    (a16 : PySem.W.nsIn K mainGlobals "_law_variant" = some (some (.ref f16))) (l16 : K.lookup f16 = some ⟨oc16, od16, .func (PySem.W.fnOf "_law_variant" "_law_variant" (defArgs s__law_variant) (defBody s__law_variant) (defScope s__law_variant) .none kV16 dc16 pm16 an16 cd16 ct16), sl16⟩) (c16 : PySem.W.codeIn K cd16 "_law_variant" = true) (k16 : PySem.W.keepIn K (.ref f16) = true)
    (a17 : PySem.W.nsIn K mainGlobals "_law_no_item" = some (some (.ref f17))) (l17 : K.lookup f17 = some ⟨oc17, od17, .func (PySem.W.fnOf "_law_no_item" "_law_no_item" (defArgs s__law_no_item) (defBody s__law_no_item) (defScope s__law_no_item) .none kV17 dc17 pm17 an17 cd17 ct17), sl17⟩) (c17 : PySem.W.codeIn K cd17 "_law_no_item" = true) (k17 : PySem.W.keepIn K (.ref f17) = true)
    (a18 : PySem.W.nsIn K mainGlobals "law" = some (some (.ref f18))) (l18 : K.lookup f18 = some ⟨oc18, od18, .func (PySem.W.fnOf "law" "law" (defArgs s_law) (defBody s_law) (defScope s_law) .none kV18 dc18 pm18 an18 cd18 ct18), sl18⟩) (c18 : PySem.W.codeIn K cd18 "law" = true) (k18 : PySem.W.keepIn K (.ref f18) = true)
    (g0 : PySem.W.nsIn K mainGlobals "LETTERS" = some (some (.str "abcdefghijklmnopqrstuvwxyz" gt0)))
    {ga1 : Addr} {gd1 : Option Addr} {gn1 : Nat} {gs1 : Array (Option Value)} (g1 : PySem.W.nsIn K mainGlobals "NEEDS" = some (some (.ref ga1))) (h1 : K.lookup ga1 = some ⟨.type "tuple", gd1, .seq #[.str "all" gt1x0, .str "any" gt1x1] gn1, gs1⟩)
    (z0 : PySem.W.nsIn K mainGlobals "abs" = some none)
    (z1 : PySem.W.nsIn K mainGlobals "all" = some none)
    (z2 : PySem.W.nsIn K mainGlobals "bool" = some none)
    (z3 : PySem.W.nsIn K mainGlobals "enumerate" = some none)
    (z4 : PySem.W.nsIn K mainGlobals "isinstance" = some none)
    (z5 : PySem.W.nsIn K mainGlobals "len" = some none)
    (z6 : PySem.W.nsIn K mainGlobals "list" = some none)
    (z7 : PySem.W.nsIn K mainGlobals "min" = some none)
    (z8 : PySem.W.nsIn K mainGlobals "range" = some none)
    (z9 : PySem.W.nsIn K mainGlobals "sorted" = some none)
    (z10 : PySem.W.nsIn K mainGlobals "str" = some none)
    (z11 : PySem.W.nsIn K mainGlobals "tuple" = some none)
    : Txt K mg where
  d_is_name := ⟨f0, _, PySem.W.mg_of X G a0, fun_mk (st := s_is_name) l0 c0 k0, (fun_mk (st := s_is_name) l0 c0 k0).binds (ps := ["thing"]) fun _ _ _ _ _ _ us hl => match us, hl with | [_], _ => rfl⟩
  d_sorts_of := ⟨f1, _, PySem.W.mg_of X G a1, fun_mk (st := s_sorts_of) l1 c1 k1, (fun_mk (st := s_sorts_of) l1 c1 k1).binds (ps := ["web"]) fun _ _ _ _ _ _ us hl => match us, hl with | [_], _ => rfl⟩
  d_others_of := ⟨f2, _, PySem.W.mg_of X G a2, fun_mk (st := s_others_of) l2 c2 k2, (fun_mk (st := s_others_of) l2 c2 k2).binds (ps := ["web"]) fun _ _ _ _ _ _ us hl => match us, hl with | [_], _ => rfl⟩
  d_all_under := ⟨f3, _, PySem.W.mg_of X G a3, fun_mk (st := s_all_under) l3 c3 k3, (fun_mk (st := s_all_under) l3 c3 k3).binds (ps := ["others", "name"]) fun _ _ _ _ _ _ us hl => match us, hl with | [_, _], _ => rfl⟩
  d_need_item := ⟨f4, _, PySem.W.mg_of X G a4, fun_mk (st := s_need_item) l4 c4 k4, (fun_mk (st := s_need_item) l4 c4 k4).binds (ps := ["web", "name"]) fun _ _ _ _ _ _ us hl => match us, hl with | [_, _], _ => rfl⟩
  d_leads_to := ⟨f5, _, PySem.W.mg_of X G a5, fun_mk (st := s_leads_to) l5 c5 k5, (fun_mk (st := s_leads_to) l5 c5 k5).binds (ps := ["web", "item"]) fun _ _ _ _ _ _ us hl => match us, hl with | [_, _], _ => rfl⟩
  d_needs_of := ⟨f6, _, PySem.W.mg_of X G a6, fun_mk (st := s_needs_of) l6 c6 k6, (fun_mk (st := s_needs_of) l6 c6 k6).binds (ps := ["web", "item"]) fun _ _ _ _ _ _ us hl => match us, hl with | [_, _], _ => rfl⟩
  d_holds := ⟨f7, _, PySem.W.mg_of X G a7, fun_mk (st := s_holds) l7 c7 k7, (fun_mk (st := s_holds) l7 c7 k7).binds (ps := ["web", "item", "variant"]) fun _ _ _ _ _ _ us hl => match us, hl with | [_, _, _], _ => rfl⟩
  d__law_bag := ⟨f8, _, PySem.W.mg_of X G a8, fun_mk (st := s__law_bag) l8 c8 k8, (fun_mk (st := s__law_bag) l8 c8 k8).binds (ps := ["script", "k"]) fun _ _ _ _ _ _ us hl => match us, hl with | [_, _], _ => rfl⟩
  d__law_take := ⟨f9, _, PySem.W.mg_of X G a9, fun_mk (st := s__law_take) l9 c9 k9, (fun_mk (st := s__law_take) l9 c9 k9).binds (ps := ["bag", "many"]) fun _ _ _ _ _ _ us hl => match us, hl with | [_, _], _ => rfl⟩
  d__law_of := ⟨f10, _, PySem.W.mg_of X G a10, fun_mk (st := s__law_of) l10 c10 k10, (fun_mk (st := s__law_of) l10 c10 k10).binds (ps := ["bag", "some"]) fun _ _ _ _ _ _ us hl => match us, hl with | [_, _], _ => rfl⟩
  d__law_some := ⟨f11, _, PySem.W.mg_of X G a11, fun_mk (st := s__law_some) l11 c11 k11, (fun_mk (st := s__law_some) l11 c11 k11).binds (ps := ["bag", "names", "least", "most"]) fun _ _ _ _ _ _ us hl => match us, hl with | [_, _, _, _], _ => rfl⟩
  d__law_web := ⟨f12, _, PySem.W.mg_of X G a12, fun_mk (st := s__law_web) l12 c12 k12, (fun_mk (st := s__law_web) l12 c12 k12).binds (ps := ["bag", "needs_so"]) fun _ _ _ _ _ _ us hl => match us, hl with | [_, _], _ => rfl⟩
  d__law_others := ⟨f13, _, PySem.W.mg_of X G a13, fun_mk (st := s__law_others) l13 c13 k13, (fun_mk (st := s__law_others) l13 c13 k13).binds (ps := ["web", "name"]) fun _ _ _ _ _ _ us hl => match us, hl with | [_, _], _ => rfl⟩
  d__law_needs := ⟨f14, _, PySem.W.mg_of X G a14, fun_mk (st := s__law_needs) l14 c14 k14, (fun_mk (st := s__law_needs) l14 c14 k14).binds (ps := ["web"]) fun _ _ _ _ _ _ us hl => match us, hl with | [_], _ => rfl⟩
  d__law_under := ⟨f15, _, PySem.W.mg_of X G a15, fun_mk (st := s__law_under) l15 c15 k15, (fun_mk (st := s__law_under) l15 c15 k15).binds (ps := ["web", "name"]) fun _ _ _ _ _ _ us hl => match us, hl with | [_, _], _ => rfl⟩
  d__law_variant := ⟨f16, _, PySem.W.mg_of X G a16, fun_mk (st := s__law_variant) l16 c16 k16, (fun_mk (st := s__law_variant) l16 c16 k16).binds (ps := ["bag"]) fun _ _ _ _ _ _ us hl => match us, hl with | [_], _ => rfl⟩
  d__law_no_item := ⟨f17, _, PySem.W.mg_of X G a17, fun_mk (st := s__law_no_item) l17 c17 k17, (fun_mk (st := s__law_no_item) l17 c17 k17).binds (ps := ["call", "name"]) fun _ _ _ _ _ _ us hl => match us, hl with | [_, _], _ => rfl⟩
  d_law := ⟨f18, _, PySem.W.mg_of X G a18, fun_mk (st := s_law) l18 c18 k18, (fun_mk (st := s_law) l18 c18 k18).binds (ps := ["script"]) fun _ _ _ _ _ _ us hl => match us, hl with | [_], _ => rfl⟩
  g_LETTERS := ⟨_, PySem.W.mg_of X G g0⟩
  g_NEEDS := ⟨ga1, PySem.W.mg_of X G g1, .inr ⟨_, _, _, h1, rfl, rfl, (by show (2 : Nat) ≤ sizeLine; exact sz_of (by decide)), (.cons ⟨_, rfl⟩ (.cons ⟨_, rfl⟩ .nil))⟩⟩
  z_abs := PySem.W.mg_none_of X G z0
  z_all := PySem.W.mg_none_of X G z1
  z_bool := PySem.W.mg_none_of X G z2
  z_enumerate := PySem.W.mg_none_of X G z3
  z_isinstance := PySem.W.mg_none_of X G z4
  z_len := PySem.W.mg_none_of X G z5
  z_list := PySem.W.mg_none_of X G z6
  z_min := PySem.W.mg_none_of X G z7
  z_range := PySem.W.mg_none_of X G z8
  z_sorted := PySem.W.mg_none_of X G z9
  z_str := PySem.W.mg_none_of X G z10
  z_tuple := PySem.W.mg_none_of X G z11
theorem exc_mk {K : PySem.W.Frag} {h : Heap} {mg : Str → Option Value} (X : K.In h) (G : h.Ns mainGlobals mg) {xn xq : Str} {xN : Addr} {xbs xbm xsub : List Value} {xsn : List Str} {xab : Bool} {xcol : Option Bool} {xdd : Option Addr} {xk0 xk1 xk2 xk3 xk5 : Option Value} {xC xB xI : Addr} {xoc xkV xdc xpm xcd xct : Value} {xod xan : Option Addr} {xsl : Array (Option Value)} {xo0 : Addr} 
    (qaC : PySem.W.nsIn K mainGlobals "NoItem" = some (some (.ref xC)))
    (qaB : PySem.W.nsIn K mainGlobals "AskedError" = some (some (.ref xB)))
    (qo0 : PySem.W.nsIn K mainGlobals "TraceError" = some (some (.ref xo0)))
    (qxL : K.lookup xC = some (excClassObj xn xq xC xN xbs xbm true xsn xsub xab xcol xdd xk0 xk1 xk2 xk3 xk5 "ValueError.__new__"))
    (qrv : PySem.HandSPX.refsVE xbm = true)
    (qsa : PySem.W.findIn K (.ref xC) "__setattr__" = some (some (.builtin "object.__setattr__")))
    (qeC : PySem.W.subIn K (.ref xC) (.type "BaseException") = some true)
    (qtC : PySem.W.typeIn K (.ref xC) = some (.type "type"))
    (qkC : PySem.W.keepIn K (.ref xC) = true)
    (qiC : PySem.W.findIn K (.ref xC) "__init__" = some (some (.ref xI)))
    (qtI : PySem.W.typeIn K (.ref xI) = some (.type "function"))
    (qnm : PySem.W.findIn K (.ref xC) "name" = some none)
    (qgB : PySem.W.specialIn K (.ref xB) "__getattribute__" = some (some (.builtin "type.__getattribute__")))
    (qrB : PySem.W.readsIn K xB (.type "type") = true)
    (qvB : PySem.W.findCls K (.ref xB) (.type "type") "__init__" = some (.val (.builtin "ValueError.__init__")))
    (qlI : K.lookup xI = some ⟨xoc, xod, .func (PySem.W.fnOf "__init__" "NoItem.__init__" (defArgs s_NoItem_init) (defBody s_NoItem_init) (defScope s_NoItem_init) .none xkV xdc xpm xan xcd xct), xsl⟩)
    (qcI : PySem.W.codeIn K xcd "NoItem.__init__" = true)
    (qkI : PySem.W.keepIn K (.ref xI) = true)
    (qga : PySem.W.findIn K (.ref xC) "__getattribute__" = some (some (.builtin "BaseException.__getattribute__")))
    (qgg : PySem.W.findIn K (.ref xC) "__getattr__" = some none)
    (qhd : PySem.W.hasDictIn K xC = true)
    (qha : PySem.W.findIn K (.ref xC) "__class__" = some (some (.builtin "object.__class__")))
    (qhn : PySem.W.specialIn K (.builtin "object.__class__") "__get__" = some (some (.builtin "getset_descriptor.__get__")))
    (qht : PySem.W.takesIn K (.builtin "object.__class__") = some true)
    (qhm : PySem.W.mroIn K xC (.type "object") = some true)
    (qem : PySem.W.exmOne K (.ref xC) (.ref xC) = some true)
    (qi0 : PySem.W.kitOne K (.ref xC) (.ref xB) = some true)
    (qi1 : PySem.W.kitOne K (.ref xC) (.ref xo0) = some true)
    (qi2 : PySem.W.kitOne K (.ref xC) (.type "ValueError") = some true)
    (qz2 : PySem.W.nsIn K mainGlobals "ValueError" = some none)
    : TxtX K mg xC where
  x := ⟨PySem.W.mg_of X G qaC, ⟨xB, xI, _, PySem.W.mg_of X G qaB, ⟨⟨⟨_, _, _, _, _, _, _, _, _, _, _, _, _, _, _, qxL, qrv⟩, qsa, qeC, qtC, qkC⟩, qiC, qtI, qnm, qgB, qrB, qvB⟩, fun_mk (st := s_NoItem_init) qlI qcI qkI, (fun_mk (st := s_NoItem_init) qlI qcI qkI).binds (ps := ["self", "name"]) fun _ _ _ _ _ _ us hl => match us, hl with | [_, _], _ => rfl⟩, ⟨qga, qgg, qeC, qhd, qha, qhn, qht, qhm⟩, ⟨qga, qgg, qeC, qhd⟩, qnm, qem⟩
  i_AskedError := ⟨_, PySem.W.mg_of X G qaB, qi0⟩
  i_TraceError := ⟨_, PySem.W.mg_of X G qo0, qi1⟩
  i_ValueError := qi2
  z_ValueError := PySem.W.mg_none_of X G qz2
theorem own_mk {w : World} {K : PySem.W.Frag} {h : Heap} {mg : Str → Option Value} {fa : Addr} (X : K.In h) (G : h.Ns mainGlobals mg) (hfa : mg "law" = some (.ref fa)) (own : LamX.OwnTab K fa h) (T : Txt K mg) {C : Addr} (hX : TxtX K mg C)
    {f c Pt : Addr} {oc kV doc pm ct ec : Value} {od an ed : Option Addr} {osl es : Array (Option Value)} {vs : Array Value}
    (al : PySem.W.nsIn K mainGlobals "law" = some (some (.ref f))) (ll : K.lookup f = some ⟨oc, od, .func (PySem.W.fnOf "law" "law" (defArgs s_law) (defBody s_law) (defScope s_law) .none kV doc pm an (.ref c) ct), osl⟩) (cl : PySem.W.codeIn K (.ref c) "law" = true)
    (lc : K.lookup c = some ⟨ec, ed, .fields vs, es⟩) (h11 : vs[11]? = some (.ref Pt)) (hh : PySem.W.codeHdIn K c Pt = true) (hn : K.lookup Pt = none) : LamX.LawAtS PySem.Challenge.rw_needtrace_k02_what_leads_where w K (L2.CX PySem.Challenge.pw_needtrace_k02_what_leads_where w) 60 63 "script" mg fa h := by
  have e := hfa.symm.trans (PySem.W.mg_of X G al)
  cases e
  have tab := own c Pt _ _ _ _ _ _ ll rfl rfl lc h11
  refine ⟨_, [(c, Pt)], spLawT K Pt, fun p hp => ?_, fun p hp => ?_, fun p hp => ?_, fun s u => .of_eq rfl, fun H a ns hl _ hH hS => ⟨a, ns, rfl, hS, hl, hH (c, Pt) (by simp), fun _ => rfl⟩, fun base KB GB hT => f_all T hX (hT (c, Pt) (by simp)) ll cl⟩
  · rw [List.mem_singleton.mp hp]; exact tab
  · rw [List.mem_singleton.mp hp]; exact hn
  · rw [List.mem_singleton.mp hp]; exact PySem.W.codeHd_of_K X hh
end NT
open PySem PySem.W PyProof.Rows
set_option maxHeartbeats 0 in
theorem PySem.Challenge.cw_needtrace_k02_what_leads_where_holds : PySem.Challenge.rw_needtrace_k02_what_leads_where.Holds := by
  w_on; o_law; k_head; (case hw => w_witness2)
  k_fill
  refine LamX.walk_ofOwn (l := PySem.Challenge.rw_needtrace_k02_what_leads_where) (n := 63) (k := 60) (x := "script") (CX := fun w => L2.CX PySem.Challenge.pw_needtrace_k02_what_leads_where w) rfl (by decide) rfl ⟨rfl, by decide, by decide⟩ (by kernel_rfl) (fun w h Y => PySem.W.km_in_of Y) ?F ?C
  case C => exact fun _ _ _ _ _ h => NT.cx_no h
  case F =>
    intro w mg fa h Y KX G hmg own
    refine' NT.own_mk KX G hmg own ?T ?X ?al ?ll ?cl ?lc ?h11 ?hh ?hn
    (case al => k_is); (case ll => k_is); (case cl => k_is); (case lc => k_is); (case h11 => rfl); (case hh => kernel_rfl); (case hn => kernel_rfl)
    case T =>
      refine' NT.txt_mk KX G ?xa0 ?xl0 ?xc0 ?xk0 ?xa1 ?xl1 ?xc1 ?xk1 ?xa2 ?xl2 ?xc2 ?xk2 ?xa3 ?xl3 ?xc3 ?xk3 ?xa4 ?xl4 ?xc4 ?xk4 ?xa5 ?xl5 ?xc5 ?xk5 ?xa6 ?xl6 ?xc6 ?xk6 ?xa7 ?xl7 ?xc7 ?xk7 ?xa8 ?xl8 ?xc8 ?xk8 ?xa9 ?xl9 ?xc9 ?xk9 ?xa10 ?xl10 ?xc10 ?xk10 ?xa11 ?xl11 ?xc11 ?xk11 ?xa12 ?xl12 ?xc12 ?xk12 ?xa13 ?xl13 ?xc13 ?xk13 ?xa14 ?xl14 ?xc14 ?xk14 ?xa15 ?xl15 ?xc15 ?xk15 ?xa16 ?xl16 ?xc16 ?xk16 ?xa17 ?xl17 ?xc17 ?xk17 ?xa18 ?xl18 ?xc18 ?xk18 ?xg0 ?xg1 ?xh1 ?xz0 ?xz1 ?xz2 ?xz3 ?xz4 ?xz5 ?xz6 ?xz7 ?xz8 ?xz9 ?xz10 ?xz11
      (case xa0 => k_is); (case xl0 => k_is); (case xc0 => k_is); (case xk0 => k_is); (case xa1 => k_is); (case xl1 => k_is); (case xc1 => k_is); (case xk1 => k_is); (case xa2 => k_is); (case xl2 => k_is); (case xc2 => k_is); (case xk2 => k_is); (case xa3 => k_is); (case xl3 => k_is); (case xc3 => k_is); (case xk3 => k_is); (case xa4 => k_is); (case xl4 => k_is); (case xc4 => k_is); (case xk4 => k_is); (case xa5 => k_is); (case xl5 => k_is); (case xc5 => k_is); (case xk5 => k_is); (case xa6 => k_is); (case xl6 => k_is); (case xc6 => k_is); (case xk6 => k_is); (case xa7 => k_is); (case xl7 => k_is); (case xc7 => k_is); (case xk7 => k_is); (case xa8 => k_is); (case xl8 => k_is); (case xc8 => k_is); (case xk8 => k_is); (case xa9 => k_is); (case xl9 => k_is); (case xc9 => k_is); (case xk9 => k_is); (case xa10 => k_is); (case xl10 => k_is); (case xc10 => k_is); (case xk10 => k_is); (case xa11 => k_is); (case xl11 => k_is); (case xc11 => k_is); (case xk11 => k_is); (case xa12 => k_is); (case xl12 => k_is); (case xc12 => k_is); (case xk12 => k_is); (case xa13 => k_is); (case xl13 => k_is); (case xc13 => k_is); (case xk13 => k_is); (case xa14 => k_is); (case xl14 => k_is); (case xc14 => k_is); (case xk14 => k_is); (case xa15 => k_is); (case xl15 => k_is); (case xc15 => k_is); (case xk15 => k_is); (case xa16 => k_is); (case xl16 => k_is); (case xc16 => k_is); (case xk16 => k_is); (case xa17 => k_is); (case xl17 => k_is); (case xc17 => k_is); (case xk17 => k_is); (case xa18 => k_is); (case xl18 => k_is); (case xc18 => k_is); (case xk18 => k_is); (case xg0 => k_is); (case xg1 => k_is); (case xh1 => k_is); (case xz0 => k_is); (case xz1 => k_is); (case xz2 => k_is); (case xz3 => k_is); (case xz4 => k_is); (case xz5 => k_is); (case xz6 => k_is); (case xz7 => k_is); (case xz8 => k_is); (case xz9 => k_is); (case xz10 => k_is); (case xz11 => k_is)
    case X =>
      refine' NT.exc_mk KX G ?qaC ?qaB ?qo0 ?qxL ?qrv ?qsa ?qeC ?qtC ?qkC ?qiC ?qtI ?qnm ?qgB ?qrB ?qvB ?qlI ?qcI ?qkI ?qga ?qgg ?qhd ?qha ?qhn ?qht ?qhm ?qem ?qi0 ?qi1 ?qi2 ?qz2
      (case qaC => first | k_is | kernel_rfl | rfl); (case qaB => first | k_is | kernel_rfl | rfl); (case qo0 => first | k_is | kernel_rfl | rfl); (case qxL => first | k_is | kernel_rfl | rfl); (case qrv => first | k_is | kernel_rfl | rfl); (case qsa => first | k_is | kernel_rfl | rfl); (case qeC => first | k_is | kernel_rfl | rfl); (case qtC => first | k_is | kernel_rfl | rfl); (case qkC => first | k_is | kernel_rfl | rfl); (case qiC => first | k_is | kernel_rfl | rfl); (case qtI => first | k_is | kernel_rfl | rfl); (case qnm => first | k_is | kernel_rfl | rfl); (case qgB => first | k_is | kernel_rfl | rfl); (case qrB => first | k_is | kernel_rfl | rfl); (case qvB => first | k_is | kernel_rfl | rfl); (case qlI => first | k_is | kernel_rfl | rfl); (case qcI => first | k_is | kernel_rfl | rfl); (case qkI => first | k_is | kernel_rfl | rfl); (case qga => first | k_is | kernel_rfl | rfl); (case qgg => first | k_is | kernel_rfl | rfl); (case qhd => first | k_is | kernel_rfl | rfl); (case qha => first | k_is | kernel_rfl | rfl); (case qhn => first | k_is | kernel_rfl | rfl); (case qht => first | k_is | kernel_rfl | rfl); (case qhm => first | k_is | kernel_rfl | rfl); (case qem => first | k_is | kernel_rfl | rfl); (case qi0 => first | k_is | kernel_rfl | rfl); (case qi1 => first | k_is | kernel_rfl | rfl); (case qi2 => first | k_is | kernel_rfl | rfl); (case qz2 => first | k_is | kernel_rfl | rfl)

