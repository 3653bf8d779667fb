import PyProof.Rows.All
import Wide.All
import OpenK.AllK
import Wide.FinOn
import PySem.Challenge.RW_wallsaswished_k01_names_and_directions
import HandS.Base
import HandS.Call
import HandS.List
import HandS.Comp
import HandS.Dict
import HandS.Iter
import HandS.Walk
import HandS.Words
import HandS.Text
import HandS.TupAny
import HandS.Style
import HandS.IsInst
import HandS.More
import HandS.Flow
import HandS.Replace
import PyProof.StrOps2
import KE.GoesMore
import KE.GoesEnum
import HandS.Defaults
import HandS.Exc
import HandS.ExcOwn
import HandS.ExcInit
import HandS.ExcIs
import HandS.ExcField
import HandS.WordsExc
import KE.KStateDown
import HandS.Head0
import HandS.Head1
import HandS.Head2
import HandS.HeadEnd
import HandS.HeadHook1
import HandS.HeadHook2
import HandS.EndBits
set_option Elab.async false
set_option linter.all false
set_option maxRecDepth 100000
/-! DL1: data as values of the abstract heap: Dq, the frozen part G of a heap H, what a step may do (Ext), slots (En). -/
namespace DL
open PySem L2

abbrev D := PyData
def kD : Key → D
  | .inl i => .int i
  | .inr x => .str x

mutual
inductive Dq (K : PySem.W.Frag) (G : Hp) : V → D → Prop
  | non : Dq K G .non .none
  | bl (b : Bool) : Dq K G (.bl b) (.bool b)
  | int (i : Int) : Dq K G (.int i) (.int i)
  | str (x : Str) : Dq K G (.str x) (.str x)
  | lst {a : Addr} {xs : List V} {ds : List D} : G a = some (.lst xs) → DqA K G xs ds → Dq K G (.ref a) (.list ds)
  /-- the script: read alone -/
  | scr {a : Addr} {ns : List Int} : SqL K G a (ns.map V.int) → Dq K G (.ref a) (.dict [(.none, .list (ns.map PyData.int))])
  | tup {a : Addr} {xs : List V} {ds : List D} : SqT K G a xs → DqA K G xs ds → Dq K G (.ref a) (.tuple ds)
  | dK {a : Addr} {es : List (Key × V)} {kvs : List (D × D)} : Rd G a (.dK es) → DqK K G es kvs → Dq K G (.ref a) (.dict kvs)
  | dT {a : Addr} {es : List (List Key × V)} {kvs : List (D × D)} : Rd G a (.dT es) → DqT K G es kvs → Dq K G (.ref a) (.dict kvs)
inductive DqA (K : PySem.W.Frag) (G : Hp) : List V → List D → Prop
  | nil : DqA K G [] []
  | cons {v : V} {vs : List V} {d : D} {ds : List D} : Dq K G v d → DqA K G vs ds → DqA K G (v :: vs) (d :: ds)
inductive DqK (K : PySem.W.Frag) (G : Hp) : List (Key × V) → List (D × D) → Prop
  | nil : DqK K G [] []
  | cons {k : Key} {v : V} {es : List (Key × V)} {d : D} {kvs : List (D × D)} : Dq K G v d → DqK K G es kvs → DqK K G ((k, v) :: es) ((kD k, d) :: kvs)
inductive DqT (K : PySem.W.Frag) (G : Hp) : List (List Key × V) → List (D × D) → Prop
  | nil : DqT K G [] []
  | cons {k : List Key} {v : V} {es : List (List Key × V)} {d : D} {kvs : List (D × D)} : Dq K G v d → DqT K G es kvs → DqT K G ((k, v) :: es) ((.tuple (k.map kD), d) :: kvs)
end

/-- what stands in G stands in H (a dict may be locked there) -/
def isDic : HO → Bool
  | .dK _ => true
  | .dT _ => true
  | _ => false
def GH (G H : Hp) : Prop := ∀ a u, G a = some u → H a = some u ∨ (isDic u = true ∧ ∃ o, H a = some (.frz o u))
theorem GH.refl (H : Hp) : GH H H := fun _ _ h => .inl h
theorem GH.of {A B : Hp} (x : ∀ a o, A a = some o → B a = some o) : GH A B := fun a u h => .inl (x a u h)
theorem GH.trans {A B C : Hp} (x : GH A B) (y : GH B C) : GH A C := fun a u h => by
  rcases x a u h with h | ⟨d, o, h⟩
  · exact y a u h
  · rcases y a _ h with h | ⟨d', _⟩
    · exact .inr ⟨d, o, h⟩
    · cases d'
theorem GH.rd {A B : Hp} (x : GH A B) {a : Addr} {u : HO} (h : Rd A a u) : Rd B a u := by
  rcases h with h | ⟨o, h⟩
  · rcases x a u h with h | ⟨_, o, h⟩
    · exact .inl h
    · exact .inr ⟨o, h⟩
  · rcases x a _ h with h | ⟨d, _⟩
    · exact .inr ⟨o, h⟩
    · cases d
theorem GH.lst {A B : Hp} (x : GH A B) {a : Addr} {xs : List V} (h : A a = some (.lst xs)) : B a = some (.lst xs) := by
  rcases x a _ h with h | ⟨d, _⟩
  · exact h
  · cases d
theorem GH.l {K : PySem.W.Frag} {A B : Hp} {a : Addr} {xs : List V} (x : GH A B) (h : SqL K A a xs) : SqL K B a xs := by
  rcases h with h | h
  · exact .inl (x.rd h)
  · exact .inr h
theorem GH.t {K : PySem.W.Frag} {A B : Hp} {a : Addr} {xs : List V} (x : GH A B) (h : SqT K A a xs) : SqT K B a xs := by
  rcases h with h | h
  · exact .inl (x.rd h)
  · exact .inr h
theorem GH.none {A B : Hp} {a : Addr} (x : GH A B) (h : B a = none) : A a = none := by
  cases e : A a with
  | none => rfl
  | some o =>
    rcases x a o e with q | ⟨_, _, q⟩ <;> rw [h] at q <;> cases q

mutual
theorem Dq.mono {K : PySem.W.Frag} {A B : Hp} (x : GH A B) : ∀ {v : V} {d : D}, Dq K A v d → Dq K B v d
  | _, _, .non => .non
  | _, _, .bl b => .bl b
  | _, _, .int i => .int i
  | _, _, .str z => .str z
  | _, _, .lst h t => .lst (x.lst h) (DqA.mono x t)
  | _, _, .scr h => .scr (x.l h)
  | _, _, .tup h t => .tup (x.t h) (DqA.mono x t)
  | _, _, .dK h t => .dK (x.rd h) (DqK.mono x t)
  | _, _, .dT h t => .dT (x.rd h) (DqT.mono x t)
theorem DqA.mono {K : PySem.W.Frag} {A B : Hp} (x : GH A B) : ∀ {vs : List V} {ds : List D}, DqA K A vs ds → DqA K B vs ds
  | _, _, .nil => .nil
  | _, _, .cons h t => .cons (Dq.mono x h) (DqA.mono x t)
theorem DqK.mono {K : PySem.W.Frag} {A B : Hp} (x : GH A B) : ∀ {vs : List (Key × V)} {ds : List (D × D)}, DqK K A vs ds → DqK K B vs ds
  | _, _, .nil => .nil
  | _, _, .cons h t => .cons (Dq.mono x h) (DqK.mono x t)
theorem DqT.mono {K : PySem.W.Frag} {A B : Hp} (x : GH A B) : ∀ {vs : List (List Key × V)} {ds : List (D × D)}, DqT K A vs ds → DqT K B vs ds
  | _, _, .nil => .nil
  | _, _, .cons h t => .cons (Dq.mono x h) (DqT.mono x t)
end

section
variable {K : PySem.W.Frag} {G : Hp}
theorem DqA.length : ∀ {ds : List D} {vs : List V}, DqA K G vs ds → vs.length = ds.length
  | [], _, h => by cases h; rfl
  | _ :: ds, _, h => by
    cases h with
    | cons _ t => exact congrArg Nat.succ (DqA.length t)
theorem DqA.get : ∀ {ds : List D} {vs : List V} {i : Nat} {d : D}, DqA K G vs ds → ds[i]? = some d → ∃ v, vs[i]? = some v ∧ Dq K G v d
  | [], _, _, _, _, e => by simp at e
  | _ :: ds, _, i, d, h, e => by
    cases h with
    | cons x t =>
      cases i with
      | zero => simp at e; subst e; exact ⟨_, rfl, x⟩
      | succ i =>
        obtain ⟨v, h1, h2⟩ := DqA.get (i := i) (d := d) t (by simpa using e)
        exact ⟨v, by simpa using h1, h2⟩
theorem DqA.got {ds : List D} {vs : List V} {i : Nat} {v : V} (h : DqA K G vs ds) (e : vs[i]? = some v) : ∃ d, ds[i]? = some d ∧ Dq K G v d := by
  have hl := h.length
  have hi : i < vs.length := (List.getElem?_eq_some_iff.mp e).1
  obtain ⟨u, h1, h2⟩ := h.get (i := i) (d := ds[i]'(by omega)) (by simp [show i < ds.length by omega])
  rw [e] at h1
  cases h1
  exact ⟨_, by simp [show i < ds.length by omega], h2⟩
theorem DqA.append : ∀ {ds es : List D} {vs us : List V}, DqA K G vs ds → DqA K G us es → DqA K G (vs ++ us) (ds ++ es)
  | [], _, _, _, h, t => by cases h; exact t
  | _ :: ds, _, _, _, h, t => by
    cases h with
    | cons x r => exact .cons x (DqA.append r t)
theorem DqA.take : ∀ {ds : List D} {vs : List V} (n : Nat), DqA K G vs ds → DqA K G (vs.take n) (ds.take n)
  | [], _, n, h => by cases h; simpa using DqA.nil
  | _ :: ds, _, 0, h => by simpa using DqA.nil
  | _ :: ds, _, n + 1, h => by
    cases h with
    | cons x r => exact .cons x (DqA.take n r)
theorem DqA.drop : ∀ {ds : List D} {vs : List V} (n : Nat), DqA K G vs ds → DqA K G (vs.drop n) (ds.drop n)
  | [], _, n, h => by cases h; simpa using DqA.nil
  | _ :: ds, _, 0, h => h
  | _ :: ds, _, n + 1, h => by
    cases h with
    | cons x r => exact DqA.drop n r
theorem DqA.set : ∀ {ds : List D} {vs : List V} (i : Nat) {v : V} {d : D}, DqA K G vs ds → Dq K G v d → DqA K G (vs.set i v) (ds.set i d)
  | [], _, i, _, _, h, _ => by cases h; simpa using DqA.nil
  | _ :: ds, _, 0, _, _, h, x => by
    cases h with
    | cons _ r => exact .cons x r
  | _ :: ds, _, i + 1, _, _, h, x => by
    cases h with
    | cons y r => exact .cons y (DqA.set i r x)
theorem DqA.one {v : V} {d : D} (h : Dq K G v d) : DqA K G [v] [d] := .cons h .nil
theorem DqA.rev : ∀ {ds : List D} {vs : List V}, DqA K G vs ds → DqA K G vs.reverse ds.reverse
  | [], _, h => by cases h; exact .nil
  | _ :: ds, _, h => by
    cases h with
    | cons x r =>
      rw [List.reverse_cons, List.reverse_cons]
      exact (DqA.rev r).append (.one x)
end

/-- from (G, H) to (G', H'): nothing that stood was changed; what was owned stays out of the frozen part -/
structure Ext (G H G' H' : Hp) : Prop where
  gg : ∀ a o, G a = some o → G' a = some o
  hh : ∀ a o, H a = some o → H' a = some o
  gh : GH G' H'
  own : ∀ a o, H a = some o → G a = none → G' a = none
theorem Ext.refl {G H : Hp} (g : GH G H) : Ext G H G H := ⟨fun _ _ h => h, fun _ _ h => h, g, fun _ _ _ h => h⟩
theorem Ext.trans {G H G1 H1 G2 H2 : Hp} (x : Ext G H G1 H1) (y : Ext G1 H1 G2 H2) : Ext G H G2 H2 :=
  ⟨fun a o h => y.gg a o (x.gg a o h), fun a o h => y.hh a o (x.hh a o h), y.gh, fun a o h n => y.own a o (x.hh a o h) (x.own a o h n)⟩
theorem Ext.g {G H G' H' : Hp} (x : Ext G H G' H') : GH G G' := GH.of x.gg
theorem Ext.h {G H G' H' : Hp} (x : Ext G H G' H') : GH H H' := GH.of x.hh
/-- a new object is laid and frozen -/
theorem Ext.new {G H : Hp} {p : Addr} {o : HO} (g : GH G H) (h : H p = none) : Ext G H (upd G p o) (upd H p o) := by
  refine ⟨fun a u e => ?_, fun a u e => ?_, fun a u r => ?_, fun a u e n => ?_⟩
  · rw [upd_ne (ne_of_none e (g.none h))]; exact e
  · rw [upd_ne (ne_of_none e h)]; exact e
  · by_cases ha : a = p
    · subst ha
      rw [upd_same] at r
      exact .inl (by rw [upd_same]; exact r)
    · rw [upd_ne ha] at r
      rw [upd_ne ha]
      exact g a u r
  · rw [upd_ne (ne_of_none e h)]; exact n
/-- a new object is laid and owned -/
theorem Ext.fresh {G H : Hp} {p : Addr} {o : HO} (g : GH G H) (h : H p = none) : Ext G H G (upd H p o) := by
  refine ⟨fun a u e => e, fun a u e => ?_, fun a u r => ?_, fun a u e n => n⟩
  · rw [upd_ne (ne_of_none e h)]; exact e
  · have hp : a ≠ p := by
      rintro rfl
      rw [g.none h] at r; cases r
    rw [upd_ne hp]
    exact g a u r

/-- a slot: not told, a frozen datum, an owned one -/
inductive Sl where
  | no
  | fr (d : D)
  | ow (d : D)
  /-- a caught exception at a, its dict at dd -/
  | ex (a dd : Addr) (fl : List (Str × D))
/-- the fields of an exception -/
def DqF (K : PySem.W.Frag) (G : Hp) (fs : List (Str × V)) (fl : List (Str × D)) : Prop := fs.map (·.1) = fl.map (·.1) ∧ DqA K G (fs.map (·.2)) (fl.map (·.2))
theorem DqF.mono {K : PySem.W.Frag} {A B : Hp} (x : GH A B) {fs : List (Str × V)} {fl : List (Str × D)} (h : DqF K A fs fl) : DqF K B fs fl := ⟨h.1, h.2.mono x⟩
theorem DqF.get {K : PySem.W.Frag} {G : Hp} {f : Str} {d : D} : ∀ {fl : List (Str × D)} {fs : List (Str × V)}, DqF K G fs fl → fl.lookup f = some d → ∃ v, fs.lookup f = some v ∧ Dq K G v d
  | [], _, _, e => by simp at e
  | (g, d') :: fl, [], h, _ => by
    have := h.1
    simp at this
  | (g, d') :: fl, (g', v') :: fs, h, e => by
    obtain ⟨h1, h2⟩ := h
    simp only [List.map_cons] at h1 h2
    injection h1 with e1 h1
    cases h2 with
    | cons a b =>
      subst e1
      by_cases q : f = g'
      · subst q
        rw [List.lookup_cons_self] at e
        cases e
        exact ⟨v', List.lookup_cons_self, a⟩
      · have q2 : (f == g') = false := by simpa using q
        rw [List.lookup_cons, q2] at e
        rw [List.lookup_cons, q2]
        exact DqF.get ⟨h1, b⟩ e
/-- what stands at an owned address -/
inductive OwnC (K : PySem.W.Frag) (G H : Hp) (l : Addr) : D → Prop
  | lst {vs : List V} {ds : List D} : H l = some (.lst vs) → DqA K G vs ds → OwnC K G H l (.list ds)
  | dK {es : List (Key × V)} {kvs : List (D × D)} : H l = some (.dK es) → DqK K G es kvs → OwnC K G H l (.dict kvs)
  | dT {es : List (List Key × V)} {kvs : List (D × D)} : H l = some (.dT es) → DqT K G es kvs → OwnC K G H l (.dict kvs)
theorem OwnC.there {K : PySem.W.Frag} {G H : Hp} {l : Addr} {d : D} (x : OwnC K G H l d) : ∃ o, H l = some o := by
  cases x with
  | lst h _ => exact ⟨_, h⟩
  | dK h _ => exact ⟨_, h⟩
  | dT h _ => exact ⟨_, h⟩
theorem OwnC.ext {K : PySem.W.Frag} {G H G' H' : Hp} {l : Addr} {d : D} (x : OwnC K G H l d) (g : GH G G') (h : H' l = H l) : OwnC K G' H' l d := by
  cases x with
  | lst e r => exact .lst (h.trans e) (r.mono g)
  | dK e r => exact .dK (h.trans e) (r.mono g)
  | dT e r => exact .dT (h.trans e) (r.mono g)
/-- an owned object read as a frozen one, over the whole heap -/
theorem OwnC.dq {K : PySem.W.Frag} {G H B : Hp} {l : Addr} {d : D} (x : OwnC K G H l d) (g : GH G B) (h : ∀ o, H l = some o → B l = some o) : Dq K B (.ref l) d := by
  cases x with
  | lst e r => exact .lst (h _ e) (r.mono g)
  | dK e r => exact .dK (.inl (h _ e)) (r.mono g)
  | dT e r => exact .dT (.inl (h _ e)) (r.mono g)

structure En (K : PySem.W.Frag) (G0 H0 G H : Hp) (σ : St) (ρ : List Sl) : Prop where
  len : σ.length = ρ.length
  ext : Ext G0 H0 G H
  fr : ∀ (i : Nat) (d : D), ρ[i]? = some (Sl.fr d) → ∃ v, σ[i]? = some (some v) ∧ Dq K G v d
  ow : ∀ (i : Nat) (d : D), ρ[i]? = some (Sl.ow d) → ∃ l, σ[i]? = some (some (V.ref l)) ∧ H0 l = none ∧ G l = none ∧ OwnC K G H l d
  ex : ∀ (i : Nat) (a dd : Addr) (fl : List (Str × D)), ρ[i]? = some (Sl.ex a dd fl) → σ[i]? = some (some (V.ref a)) ∧ ∃ fs, G dd = some (.xd fs) ∧ DqF K G fs fl
  dis : ∀ (i j : Nat) (d e : D) (l : Addr), ρ[i]? = some (Sl.ow d) → ρ[j]? = some (Sl.ow e) → σ[i]? = some (some (V.ref l)) → σ[j]? = some (some (V.ref l)) → i = j
section
variable {K : PySem.W.Frag} {G0 H0 G H G' H' : Hp} {σ : St} {ρ : List Sl}
theorem En.go (E : En K G0 H0 G H σ ρ) (x : Ext G H G' H') : En K G0 H0 G' H' σ ρ := by
  refine ⟨E.len, E.ext.trans x, fun i d e => ?_, fun i d e => ?_, fun i a dd fl e => ?_, E.dis⟩
  · obtain ⟨v, h1, h2⟩ := E.fr i d e
    exact ⟨v, h1, h2.mono x.g⟩
  · obtain ⟨l, h1, h2, h3, h4⟩ := E.ow i d e
    obtain ⟨o, ho⟩ := h4.there
    exact ⟨l, h1, h2, x.own l o ho h3, h4.ext x.g ((x.hh l o ho).trans ho.symm)⟩
  · obtain ⟨h1, fs, h2, h3⟩ := E.ex i a dd fl e
    exact ⟨h1, fs, x.gg _ _ h2, h3.mono x.g⟩
theorem En.gh (E : En K G0 H0 G H σ ρ) : GH G H := E.ext.gh
theorem set_get? {α : Type} {xs : List α} {i j : Nat} {a b : α} (h : (xs.set i a)[j]? = some b) : (j = i ∧ i < xs.length ∧ a = b) ∨ (j ≠ i ∧ xs[j]? = some b) := by
  by_cases e : j = i
  · subst e
    have hi : j < (xs.set j a).length := (List.getElem?_eq_some_iff.mp h).1
    rw [List.length_set] at hi
    rw [List.getElem?_set_self hi] at h
    exact .inl ⟨rfl, hi, Option.some.inj h⟩
  · rw [List.getElem?_set_ne (Ne.symm e)] at h
    exact .inr ⟨e, h⟩
theorem En.setF (E : En K G0 H0 G H σ ρ) {v : V} {d : D} (i : Nat) (h : Dq K G v d) : En K G0 H0 G H (σ.set i (some v)) (ρ.set i (Sl.fr d)) := by
  refine ⟨by rw [List.length_set, List.length_set, E.len], E.ext, fun j e q => ?_, fun j e q => ?_, fun j a dd fl q => ?_, fun j k e e' l q q' r r' => ?_⟩
  · rcases set_get? q with ⟨rfl, hi, x⟩ | ⟨ne, q⟩
    · cases x
      exact ⟨v, by rw [List.getElem?_set_self (by rw [E.len]; exact hi)], h⟩
    · obtain ⟨u, h1, h2⟩ := E.fr j e q
      exact ⟨u, by rw [List.getElem?_set_ne (Ne.symm ne)]; exact h1, h2⟩
  · rcases set_get? q with ⟨_, _, x⟩ | ⟨ne, q⟩
    · cases x
    · obtain ⟨l, h1, h2⟩ := E.ow j e q
      exact ⟨l, by rw [List.getElem?_set_ne (Ne.symm ne)]; exact h1, h2⟩
  · rcases set_get? q with ⟨_, _, x⟩ | ⟨ne, q⟩
    · cases x
    · obtain ⟨h1, h2⟩ := E.ex j a dd fl q
      exact ⟨by rw [List.getElem?_set_ne (Ne.symm ne)]; exact h1, h2⟩
  · rcases set_get? q with ⟨_, _, x⟩ | ⟨ne, q⟩
    · cases x
    · rcases set_get? q' with ⟨_, _, x⟩ | ⟨ne', q'⟩
      · cases x
      · rw [List.getElem?_set_ne (Ne.symm ne)] at r
        rw [List.getElem?_set_ne (Ne.symm ne')] at r'
        exact E.dis j k e e' l q q' r r'
/-- an owned object comes into slot i -/
theorem En.setO (E : En K G0 H0 G H σ ρ) {l : Addr} {d : D} (i : Nat) (h0 : H0 l = none) (hG : G l = none) (h : OwnC K G H l d) (hd : ∀ (j : Nat) (e : D), j ≠ i → ρ[j]? = some (Sl.ow e) → σ[j]? ≠ some (some (V.ref l))) :
    En K G0 H0 G H (σ.set i (some (.ref l))) (ρ.set i (Sl.ow d)) := by
  refine ⟨by rw [List.length_set, List.length_set, E.len], E.ext, fun j e q => ?_, fun j e q => ?_, fun j a dd fl q => ?_, fun j k e e' a q q' r r' => ?_⟩
  · rcases set_get? q with ⟨_, _, x⟩ | ⟨ne, q⟩
    · cases x
    · obtain ⟨u, h1, h2⟩ := E.fr j e q
      exact ⟨u, by rw [List.getElem?_set_ne (Ne.symm ne)]; exact h1, h2⟩
  · rcases set_get? q with ⟨rfl, hi, x⟩ | ⟨ne, q⟩
    · cases x
      exact ⟨l, by rw [List.getElem?_set_self (by rw [E.len]; exact hi)], h0, hG, h⟩
    · obtain ⟨l, h1, h2⟩ := E.ow j e q
      exact ⟨l, by rw [List.getElem?_set_ne (Ne.symm ne)]; exact h1, h2⟩
  · rcases set_get? q with ⟨_, _, x⟩ | ⟨ne, q⟩
    · cases x
    · obtain ⟨h1, h2⟩ := E.ex j a dd fl q
      exact ⟨by rw [List.getElem?_set_ne (Ne.symm ne)]; exact h1, h2⟩
  · rcases set_get? q with ⟨rfl, hi, x⟩ | ⟨ne, q⟩
    · rcases set_get? q' with ⟨rfl, _, x⟩ | ⟨ne', q'⟩
      · rfl
      · rw [List.getElem?_set_self (by rw [E.len]; exact hi)] at r
        rw [List.getElem?_set_ne (Ne.symm ne')] at r'
        cases r
        exact absurd r' (hd k e' ne' q')
    · rcases set_get? q' with ⟨rfl, hi, x⟩ | ⟨ne', q'⟩
      · rw [List.getElem?_set_self (by rw [E.len]; exact hi)] at r'
        rw [List.getElem?_set_ne (Ne.symm ne)] at r
        cases r'
        exact absurd r (hd j e ne (by assumption))
      · rw [List.getElem?_set_ne (Ne.symm ne)] at r
        rw [List.getElem?_set_ne (Ne.symm ne')] at r'
        exact E.dis j k e e' a q q' r r'
/-- a new owned object -/
theorem En.setN (E : En K G0 H0 G H σ ρ) {l : Addr} {d : D} (i : Nat) (x : Ext G H G' H') (hH : H l = none) (hG : G' l = none) (h : OwnC K G' H' l d) : En K G0 H0 G' H' (σ.set i (some (.ref l))) (ρ.set i (Sl.ow d)) := by
  refine (E.go x).setO i ?_ hG h fun j e ne q r => ?_
  · cases q : H0 l with
    | none => rfl
    | some o =>
      have := E.ext.hh l o q
      rw [hH] at this; cases this
  · obtain ⟨l', h1, _, _, h4⟩ := E.ow j e q
    obtain ⟨o, ho⟩ := h4.there
    rw [h1] at r
    cases r
    rw [hH] at ho; cases ho
/-- an owned object is frozen from now on -/
theorem En.freeze (E : En K G0 H0 G H σ ρ) {i : Nat} {d : D} (hi : ρ[i]? = some (Sl.ow d)) : ∃ G', En K G0 H0 G' H σ (ρ.set i (Sl.fr d)) := by
  obtain ⟨l, h1, h2, h3, h4⟩ := E.ow i d hi
  obtain ⟨o, ho⟩ := h4.there
  have gg : ∀ a u, G a = some u → upd G l o a = some u := fun a u e => by
    rw [upd_ne (ne_of_none e h3)]; exact e
  have gh' : GH (upd G l o) H := fun a u r => by
    by_cases ha : a = l
    · subst ha
      rw [upd_same] at r
      cases r
      exact .inl ho
    · rw [upd_ne ha] at r
      exact E.gh a u r
  have hil : i < ρ.length := (List.getElem?_eq_some_iff.mp hi).1
  refine ⟨upd G l o, by rw [List.length_set, E.len], ⟨fun a u e => gg a u (E.ext.gg a u e), E.ext.hh, gh', fun a u e n => ?_⟩, fun j e q => ?_, fun j e q => ?_, fun j a dd fl q => ?_, fun j k e e' a q q' r r' => ?_⟩
  · rw [upd_ne (ne_of_none e h2)]; exact E.ext.own a u e n
  · rcases set_get? q with ⟨rfl, _, x⟩ | ⟨ne, q⟩
    · cases x
      exact ⟨_, h1, h4.dq (GH.of gg) fun u hu => by rw [upd_same]; rw [ho] at hu; exact hu⟩
    · obtain ⟨v, a1, a2⟩ := E.fr j e q
      exact ⟨v, a1, a2.mono (GH.of gg)⟩
  · rcases set_get? q with ⟨_, _, x⟩ | ⟨ne, q⟩
    · cases x
    · obtain ⟨b, a1, a2, a3, a4⟩ := E.ow j e q
      have hb : b ≠ l := by
        rintro rfl
        exact ne (E.dis j i e d b q hi a1 h1)
      exact ⟨b, a1, a2, by rw [upd_ne hb]; exact a3, a4.ext (GH.of gg) rfl⟩
  · rcases set_get? q with ⟨_, _, x⟩ | ⟨ne, q⟩
    · cases x
    · obtain ⟨a1, fs, a2, a3⟩ := E.ex j a dd fl q
      exact ⟨a1, fs, gg _ _ a2, a3.mono (GH.of gg)⟩
  · rcases set_get? q with ⟨_, _, x⟩ | ⟨ne, q⟩
    · cases x
    · rcases set_get? q' with ⟨_, _, x⟩ | ⟨ne', q'⟩
      · cases x
      · exact E.dis j k e e' a q q' r r'
/-- the owned object of slot i is changed -/
theorem En.write (E : En K G0 H0 G H σ ρ) {i : Nat} {d d' : D} {l : Addr} {o : HO} (hi : ρ[i]? = some (Sl.ow d)) (hl : σ[i]? = some (some (V.ref l))) (h : OwnC K G (upd H l o) l d') : En K G0 H0 G (upd H l o) σ (ρ.set i (Sl.ow d')) := by
  obtain ⟨l', h1, h2, h3, h4⟩ := E.ow i d hi
  rw [hl] at h1
  cases h1
  have hil : i < ρ.length := (List.getElem?_eq_some_iff.mp hi).1
  have ghn : GH G (upd H l o) := fun a u r => by
    have ne : a ≠ l := by
      rintro rfl
      rw [h3] at r; cases r
    rw [upd_ne ne]
    exact E.gh a u r
  refine ⟨by rw [List.length_set, E.len], ⟨E.ext.gg, fun a u e => by rw [upd_ne (ne_of_none e h2)]; exact E.ext.hh a u e, ghn, E.ext.own⟩, fun j e q => ?_, fun j e q => ?_, fun j a dd fl q => ?_, fun j k e e' a q q' r r' => ?_⟩
  · rcases set_get? q with ⟨_, _, x⟩ | ⟨ne, q⟩
    · cases x
    · exact E.fr j e q
  · rcases set_get? q with ⟨rfl, _, x⟩ | ⟨ne, q⟩
    · cases x
      exact ⟨l, hl, h2, h3, h⟩
    · obtain ⟨b, a1, a2, a3, a4⟩ := E.ow j e q
      have hb : b ≠ l := by
        rintro rfl
        exact ne (E.dis j i e d b q hi a1 hl)
      exact ⟨b, a1, a2, a3, a4.ext (GH.refl G) (upd_ne hb)⟩
  · rcases set_get? q with ⟨_, _, x⟩ | ⟨ne, q⟩
    · cases x
    · exact E.ex j a dd fl q
  · have hx : ∀ {j : Nat} {e : D}, (ρ.set i (Sl.ow d'))[j]? = some (Sl.ow e) → ∃ e', ρ[j]? = some (Sl.ow e') := fun {j e} z => by
      rcases set_get? z with ⟨rfl, _, x⟩ | ⟨ne, z⟩
      · exact ⟨d, hi⟩
      · exact ⟨e, z⟩
    obtain ⟨f, q⟩ := hx q
    obtain ⟨f', q'⟩ := hx q'
    exact E.dis j k f f' a q q' r r'
/-- a slot is forgotten -/
theorem En.drop (E : En K G0 H0 G H σ ρ) {ρ' : List Sl} (hl : ρ'.length = ρ.length) (h : ∀ (i : Nat) (s : Sl), ρ'[i]? = some s → s = Sl.no ∨ ρ[i]? = some s) : En K G0 H0 G H σ ρ' := by
  have hf : ∀ i d, ρ'[i]? = some (Sl.fr d) → ρ[i]? = some (Sl.fr d) := fun i d e => (h i _ e).elim (fun z => nomatch z) id
  have ho : ∀ i d, ρ'[i]? = some (Sl.ow d) → ρ[i]? = some (Sl.ow d) := fun i d e => (h i _ e).elim (fun z => nomatch z) id
  have hx : ∀ (i : Nat) (a dd : Addr) (fl : List (Str × D)), ρ'[i]? = some (Sl.ex a dd fl) → ρ[i]? = some (Sl.ex a dd fl) := fun i a dd fl e => (h i _ e).elim (fun z => nomatch z) id
  exact ⟨E.len.trans hl.symm, E.ext, fun i d e => E.fr i d (hf i d e), fun i d e => E.ow i d (ho i d e), fun i a dd fl e => E.ex i a dd fl (hx i a dd fl e), fun i j d e l q q' => E.dis i j d e l (ho i d q) (ho j e q')⟩
/-- a slot that is written over without a word -/
theorem En.setX (E : En K G0 H0 G H σ ρ) (i : Nat) (v : Option V) : En K G0 H0 G H (σ.set i v) (ρ.set i Sl.no) := by
  refine ⟨by rw [List.length_set, List.length_set, E.len], E.ext, fun j e q => ?_, fun j e q => ?_, fun j a dd fl q => ?_, fun j k e e' l q q' r r' => ?_⟩
  · rcases set_get? q with ⟨_, _, x⟩ | ⟨ne, q⟩
    · cases x
    · obtain ⟨u, h1, h2⟩ := E.fr j e q
      exact ⟨u, by rw [List.getElem?_set_ne (Ne.symm ne)]; exact h1, h2⟩
  · rcases set_get? q with ⟨_, _, x⟩ | ⟨ne, q⟩
    · cases x
    · obtain ⟨l, h1, h2⟩ := E.ow j e q
      exact ⟨l, by rw [List.getElem?_set_ne (Ne.symm ne)]; exact h1, h2⟩
  · rcases set_get? q with ⟨_, _, x⟩ | ⟨ne, q⟩
    · cases x
    · obtain ⟨h1, h2⟩ := E.ex j a dd fl q
      exact ⟨by rw [List.getElem?_set_ne (Ne.symm ne)]; exact h1, h2⟩
  · rcases set_get? q with ⟨_, _, x⟩ | ⟨ne, q⟩
    · cases x
    · rcases set_get? q' with ⟨_, _, x⟩ | ⟨ne', q'⟩
      · cases x
      · rw [List.getElem?_set_ne (Ne.symm ne)] at r
        rw [List.getElem?_set_ne (Ne.symm ne')] at r'
        exact E.dis j k e e' l q q' r r'
/-- a caught exception comes into slot i -/
theorem En.setE (E : En K G0 H0 G H σ ρ) {a dd : Addr} {fs : List (Str × V)} {fl : List (Str × D)} (i : Nat) (h : G dd = some (.xd fs)) (hf : DqF K G fs fl) : En K G0 H0 G H (σ.set i (some (.ref a))) (ρ.set i (Sl.ex a dd fl)) := by
  have X := E.setX i (some (.ref a))
  refine ⟨by rw [List.length_set, List.length_set, E.len], E.ext, fun j e q => ?_, fun j e q => ?_, fun j b db gl q => ?_, fun j k e e' l q q' r r' => ?_⟩
  · rcases set_get? q with ⟨_, _, x⟩ | ⟨ne, q⟩
    · cases x
    · exact X.fr j e (by rw [List.getElem?_set_ne (Ne.symm ne)]; exact q)
  · rcases set_get? q with ⟨_, _, x⟩ | ⟨ne, q⟩
    · cases x
    · exact X.ow j e (by rw [List.getElem?_set_ne (Ne.symm ne)]; exact q)
  · rcases set_get? q with ⟨rfl, hi, x⟩ | ⟨ne, q⟩
    · cases x
      exact ⟨by rw [List.getElem?_set_self (by rw [E.len]; exact hi)], fs, h, hf⟩
    · exact X.ex j b db gl (by rw [List.getElem?_set_ne (Ne.symm ne)]; exact q)
  · rcases set_get? q with ⟨_, _, x⟩ | ⟨ne, q⟩
    · cases x
    · rcases set_get? q' with ⟨_, _, x⟩ | ⟨ne', q'⟩
      · cases x
      · exact X.dis j k e e' l (by rw [List.getElem?_set_ne (Ne.symm ne)]; exact q) (by rw [List.getElem?_set_ne (Ne.symm ne')]; exact q') r r'
end
end DL

/-! DL2: what a reading evaluates to, by data (EV, EVN, ET, EA), what a statement does by data (ST), loops, comprehensions, calls. -/
namespace DL
open PySem L2

theorem En.re {K : PySem.W.Frag} {G0 H0 G H : Hp} {σ : St} {ρ : List Sl} (E : En K G0 H0 G H σ ρ) : En K G H0 G H σ ρ :=
  ⟨E.len, ⟨fun _ _ h => h, E.ext.hh, E.ext.gh, fun _ _ _ h => h⟩, E.fr, E.ow, E.ex, E.dis⟩
theorem Ext.back {G0 H0 G1 H1 G2 H2 : Hp} (x : Ext G0 H0 G1 H1) (y : Ext G1 H0 G2 H2) : Ext G0 H0 G2 H2 :=
  ⟨fun a o h => y.gg a o (x.gg a o h), y.hh, y.gh, fun a o h n => y.own a o h (x.own a o h n)⟩
theorem En.back {K : PySem.W.Frag} {G0 H0 G1 H1 G H : Hp} {σ : St} {ρ : List Sl} (x : Ext G0 H0 G1 H1) (E : En K G1 H0 G H σ ρ) : En K G0 H0 G H σ ρ :=
  ⟨E.len, x.back E.ext, E.fr, E.ow, E.ex, E.dis⟩

section
variable (K : PySem.W.Frag)
def EV (te : TE) (ρ : List Sl) (d : D) : Prop := ∀ (G0 H0 G H : Hp) (σ : St) (Q : VK), En K G0 H0 G H σ ρ → (∀ v G' H', Ext G H G' H' → Dq K G' v d → Q v H') → te σ H Q
def EVN (te : TE) (ρ : List Sl) (d : D) : Prop := ∀ (G0 H0 G H : Hp) (σ : St) (Q : VK), En K G0 H0 G H σ ρ → (∀ l G' H', Ext G H G' H' → H l = none → G' l = none → OwnC K G' H' l d → Q (.ref l) H') → te σ H Q
def ET (tt : TT) (ρ : List Sl) (b : Bool) : Prop := ∀ (G0 H0 G H : Hp) (σ : St) (Q : Bool → Hp → Prop), En K G0 H0 G H σ ρ → (∀ G' H', Ext G H G' H' → Q b H') → tt σ H Q
def EA (ta : TA) (ρ : List Sl) (ds : List D) : Prop := ∀ (G0 H0 G H : Hp) (σ : St) (Q : List V → Hp → Prop), En K G0 H0 G H σ ρ → (∀ vs G' H', Ext G H G' H' → DqA K G' vs ds → Q vs H') → ta σ H Q
def EO (to : TO) (ρ : List Sl) (o : Option Int) : Prop := ∀ (G0 H0 G H : Hp) (σ : St) (Q : Option Int → Hp → Prop), En K G0 H0 G H σ ρ → (∀ G' H', Ext G H G' H' → Q o H') → to σ H Q
/-- a two-place operation on data; its answer an old or frozen thing | a new object -/
def OD (r : R2) (a b d : D) : Prop := ∀ (x y : V) (G H : Hp) (Q : VK), GH G H → Dq K G x a → Dq K G y b → (∀ v G' H', Ext G H G' H' → Dq K G' v d → Q v H') → r x y H Q
def ON (r : R2) (a b d : D) : Prop := ∀ (x y : V) (G H : Hp) (Q : VK), GH G H → Dq K G x a → Dq K G y b → (∀ l G' H', Ext G H G' H' → H l = none → G' l = none → OwnC K G' H' l d → Q (.ref l) H') → r x y H Q
/-- a call by values -/
def CD (r : List V → Hp → VK → Prop) (ds : List D) (d : D) : Prop := ∀ (xs : List V) (G H : Hp) (Q : VK), GH G H → DqA K G xs ds → (∀ v G' H', Ext G H G' H' → Dq K G' v d → Q v H') → r xs H Q
def CN (r : List V → Hp → VK → Prop) (ds : List D) (d : D) : Prop := ∀ (xs : List V) (G H : Hp) (Q : VK), GH G H → DqA K G xs ds → (∀ l G' H', Ext G H G' H' → H l = none → G' l = none → OwnC K G' H' l d → Q (.ref l) H') → r xs H Q
end

section
variable {K : PySem.W.Frag} {ρ : List Sl} {ta tb te : TE} {tt tu : TT} {d d1 d2 : D}
/-- a new object is frozen at once -/
theorem own_frz {G H G' H' : Hp} {l : Addr} (x : Ext G H G' H') (hH : H l = none) (hG : G' l = none) (h : OwnC K G' H' l d) : ∃ G'', Ext G H G'' H' ∧ Dq K G'' (.ref l) d := by
  obtain ⟨o, ho⟩ := h.there
  have gg : ∀ a u, G' a = some u → upd G' l o a = some u := fun a u e => by rw [upd_ne (ne_of_none e hG)]; exact e
  refine ⟨upd G' l o, ⟨fun a u e => gg a u (x.gg a u e), x.hh, fun a u r => ?_, fun a u e n => ?_⟩, h.dq (GH.of gg) fun u hu => by rw [upd_same]; rw [ho] at hu; exact hu⟩
  · by_cases ha : a = l
    · subst ha
      rw [upd_same] at r
      cases r
      exact .inl ho
    · rw [upd_ne ha] at r
      exact x.gh a u r
  · rw [upd_ne (ne_of_none e hH)]; exact x.own a u e n
theorem ev_N (h : EVN K te ρ d) : EV K te ρ d := fun G0 H0 G H σ Q E q => h G0 H0 G H σ Q E fun l G' H' x hH hG ho => by
  obtain ⟨G'', x', hd⟩ := own_frz x hH hG ho
  exact q _ _ _ x' hd
theorem ev_var {i : Nat} (h : ρ[i]? = some (.fr d)) : EV K (tVar i) ρ d := fun G0 H0 G H σ Q E q => by
  obtain ⟨v, h1, h2⟩ := E.fr i d h
  exact ⟨v, h1, q v G H (.refl E.gh) h2⟩
theorem ev_int {i : Int} : EV K (tC (.int i)) ρ (.int i) := fun _ _ G H _ _ E q => q _ G H (.refl E.gh) (.int i)
theorem ev_str {x : Str} : EV K (tC (.str x)) ρ (.str x) := fun _ _ G H _ _ E q => q _ G H (.refl E.gh) (.str x)
theorem ev_bl {b : Bool} : EV K (tC (.bl b)) ρ (.bool b) := fun _ _ G H _ _ E q => q _ G H (.refl E.gh) (.bl b)
theorem ev_non : EV K (tC .non) ρ .none := fun _ _ G H _ _ E q => q _ G H (.refl E.gh) .non
/-- a constant of the module -/
theorem ev_glob {v : V} (h : ∀ G, Dq K G v d) : EV K (tC v) ρ d := fun _ _ G H _ _ E q => q _ G H (.refl E.gh) (h G)
theorem ev_op {r : R2} (ha : EV K ta ρ d1) (hb : EV K tb ρ d2) (ho : OD K r d1 d2 d) : EV K (tOp r ta tb) ρ d := fun G0 H0 G H σ Q E q =>
  ha G0 H0 G H σ _ E fun x G1 H1 e1 h1 => hb G0 H0 G1 H1 σ _ (E.go e1) fun y G2 H2 e2 h2 => ho x y G2 H2 Q e2.gh (h1.mono e2.g) h2 fun v G3 H3 e3 h3 => q v G3 H3 ((e1.trans e2).trans e3) h3
theorem en_op {r : R2} (ha : EV K ta ρ d1) (hb : EV K tb ρ d2) (ho : ON K r d1 d2 d) : EVN K (tOp r ta tb) ρ d := fun G0 H0 G H σ Q E q =>
  ha G0 H0 G H σ _ E fun x G1 H1 e1 h1 => hb G0 H0 G1 H1 σ _ (E.go e1) fun y G2 H2 e2 h2 => ho x y G2 H2 Q e2.gh (h1.mono e2.g) h2 fun l G3 H3 e3 hH hG h3 => by
    refine q l G3 H3 ((e1.trans e2).trans e3) ?_ hG h3
    cases w : H l with
    | none => rfl
    | some o => have := e2.hh _ _ (e1.hh _ _ w); rw [hH] at this; cases this
theorem ev_un {r : V → Hp → VK → Prop} (ha : EV K ta ρ d1) (ho : ∀ (x : V) (G H : Hp) (Q : VK), GH G H → Dq K G x d1 → (∀ v G' H', Ext G H G' H' → Dq K G' v d → Q v H') → r x H Q) : EV K (tUn r ta) ρ d := fun G0 H0 G H σ Q E q =>
  ha G0 H0 G H σ _ E fun x G1 H1 e1 h1 => ho x G1 H1 Q e1.gh h1 fun v G3 H3 e3 h3 => q v G3 H3 (e1.trans e3) h3
theorem ev_neg {i : Int} (ha : EV K ta ρ (.int i)) : EV K (tUn (rU fun i => .int (-i)) ta) ρ (.int (-i)) := ev_un ha fun x G H Q g hx q => by
  cases hx
  exact ⟨i, rfl, q _ G H (.refl g) (.int _)⟩
theorem ea_nil : EA K tNil ρ [] := fun _ _ G H _ _ E q => q [] G H (.refl E.gh) .nil
theorem ea_cons {tr : TA} {ds : List D} (h : EV K ta ρ d) (hr : EA K tr ρ ds) : EA K (tCons ta tr) ρ (d :: ds) := fun G0 H0 G H σ Q E q =>
  h G0 H0 G H σ _ E fun x G1 H1 e1 h1 => hr G0 H0 G1 H1 σ _ (E.go e1) fun xs G2 H2 e2 h2 => q _ G2 H2 (e1.trans e2) (.cons (h1.mono e2.g) h2)
theorem ev_cb {r : List V → Hp → VK → Prop} {t : TA} {ds : List D} (h : EA K t ρ ds) (hc : CD K r ds d) : EV K (tCB r t) ρ d := fun G0 H0 G H σ Q E q =>
  h G0 H0 G H σ _ E fun xs G1 H1 e1 h1 => hc xs G1 H1 Q e1.gh h1 fun v G2 H2 e2 h2 => q v G2 H2 (e1.trans e2) h2
theorem en_cb {r : List V → Hp → VK → Prop} {t : TA} {ds : List D} (h : EA K t ρ ds) (hc : CN K r ds d) : EVN K (tCB r t) ρ d := fun G0 H0 G H σ Q E q =>
  h G0 H0 G H σ _ E fun xs G1 H1 e1 h1 => hc xs G1 H1 Q e1.gh h1 fun l G2 H2 e2 hH hG h2 => by
    refine q l G2 H2 (e1.trans e2) ?_ hG h2
    cases w : H l with
    | none => rfl
    | some o => have := e1.hh _ _ w; rw [hH] at this; cases this
theorem ev_tup {t : TA} {ds : List D} (h : EA K t ρ ds) (hl : ds.length ≤ sizeLine) : EV K (tTup t) ρ (.tuple ds) := fun G0 H0 G H σ Q E q =>
  h G0 H0 G H σ _ E fun xs G1 H1 e1 h1 => ⟨by rw [h1.length]; exact hl, fun p hp => by
    have x := Ext.new (o := .tup xs) e1.gh hp
    exact q _ _ _ (e1.trans x) (.tup (SqT.of upd_same) (h1.mono x.g))⟩
theorem en_lst {t : TA} {ds : List D} (h : EA K t ρ ds) (hl : ds.length ≤ sizeLine) : EVN K (tLst t) ρ (.list ds) := fun G0 H0 G H σ Q E q =>
  h G0 H0 G H σ _ E fun xs G1 H1 e1 h1 => ⟨by rw [h1.length]; exact hl, fun p hp => by
    have x := Ext.fresh (o := .lst xs) e1.gh hp
    refine q _ _ _ (e1.trans x) ?_ (e1.gh.none hp) (.lst upd_same h1)
    cases w : H p with
    | none => rfl
    | some o => have := e1.hh _ _ w; rw [hp] at this; cases this⟩

/-! ### tests -/
theorem et_test {b : Bool} (h : EV K te ρ (.bool b)) : ET K (tTest te) ρ b := fun G0 H0 G H σ Q E q => h G0 H0 G H σ _ E fun v G1 H1 e1 h1 => by
  cases h1
  exact ⟨b, rfl, q G1 H1 e1⟩
theorem et_B {b : Bool} (h : EV K te ρ (.bool b)) : ET K (tB te) ρ b := fun G0 H0 G H σ Q E q => h G0 H0 G H σ _ E fun v G1 H1 e1 h1 => by
  cases h1
  exact ⟨b, rfl, q G1 H1 e1⟩
theorem et_not {b : Bool} (h : ET K tt ρ b) : ET K (tNot tt) ρ (!b) := fun G0 H0 G H σ Q E q => h G0 H0 G H σ _ E fun G1 H1 e1 => q G1 H1 e1
theorem et_and {a b : Bool} (h : ET K tt ρ a) (h2 : a = true → ET K tu ρ b) : ET K (tAnd tt tu) ρ (a && b) := fun G0 H0 G H σ Q E q => h G0 H0 G H σ _ E fun G1 H1 e1 => by
  cases a with
  | true => exact h2 rfl G0 H0 G1 H1 σ Q (E.go e1) fun G2 H2 e2 => q G2 H2 (e1.trans e2)
  | false => exact q G1 H1 e1
theorem et_or {a b : Bool} (h : ET K tt ρ a) (h2 : a = false → ET K tu ρ b) : ET K (tOr tt tu) ρ (a || b) := fun G0 H0 G H σ Q E q => h G0 H0 G H σ _ E fun G1 H1 e1 => by
  cases a with
  | false => exact h2 rfl G0 H0 G1 H1 σ Q (E.go e1) fun G2 H2 e2 => q G2 H2 (e1.trans e2)
  | true => exact q G1 H1 e1
theorem et_is {a b : Bool} (h : ET K tt ρ a) (e : a = b) : ET K tt ρ b := e ▸ h
theorem ev_is {e : D} (h : EV K te ρ d) (q : d = e) : EV K te ρ e := q ▸ h
theorem en_is {e : D} (h : EVN K te ρ d) (q : d = e) : EVN K te ρ e := q ▸ h
theorem ea_is {ta : TA} {ds es : List D} (h : EA K ta ρ ds) (q : ds = es) : EA K ta ρ es := q ▸ h
theorem ev_andV {a b : Bool} (h1 : EV K ta ρ (.bool a)) (h2 : a = true → EV K tb ρ (.bool b)) : EV K (tAndV ta tb) ρ (.bool (a && b)) := fun G0 H0 G H σ Q E q => h1 G0 H0 G H σ _ E fun v G1 H1 e1 z => by
  cases z
  refine ⟨a, rfl, ?_⟩
  cases a with
  | true => exact h2 rfl G0 H0 G1 H1 σ Q (E.go e1) fun v G2 H2 e2 => q v G2 H2 (e1.trans e2)
  | false => exact q _ G1 H1 e1 (.bl false)
theorem ev_orV {a b : Bool} (h1 : EV K ta ρ (.bool a)) (h2 : a = false → EV K tb ρ (.bool b)) : EV K (tOrV ta tb) ρ (.bool (a || b)) := fun G0 H0 G H σ Q E q => h1 G0 H0 G H σ _ E fun v G1 H1 e1 z => by
  cases z
  refine ⟨a, rfl, ?_⟩
  cases a with
  | false => exact h2 rfl G0 H0 G1 H1 σ Q (E.go e1) fun v G2 H2 e2 => q v G2 H2 (e1.trans e2)
  | true => exact q _ G1 H1 e1 (.bl true)
theorem ev_notV {a : Bool} (h1 : EV K ta ρ (.bool a)) : EV K (tNotV ta) ρ (.bool (!a)) := fun G0 H0 G H σ Q E q => h1 G0 H0 G H σ _ E fun v G1 H1 e1 z => by
  cases z
  exact ⟨a, rfl, q _ G1 H1 e1 (.bl _)⟩
theorem ev_if {b : Bool} (h : ET K tt ρ b) (h1 : b = true → EV K ta ρ d) (h2 : b = false → EV K tb ρ d) : EV K (tIf tt ta tb) ρ d := fun G0 H0 G H σ Q E q => h G0 H0 G H σ _ E fun G1 H1 e1 => by
  cases b with
  | true => exact h1 rfl G0 H0 G1 H1 σ Q (E.go e1) fun v G2 H2 e2 => q v G2 H2 (e1.trans e2)
  | false => exact h2 rfl G0 H0 G1 H1 σ Q (E.go e1) fun v G2 H2 e2 => q v G2 H2 (e1.trans e2)
/-- by cases, the answer told by the test -/
theorem ev_ite {b : Bool} (h : ET K tt ρ b) (h1 : b = true → EV K ta ρ d1) (h2 : b = false → EV K tb ρ d2) : EV K (tIf tt ta tb) ρ (if b = true then d1 else d2) := by
  cases b with
  | true => exact ev_if h (fun _ => h1 rfl) (fun z => nomatch z)
  | false => exact ev_if h (fun z => nomatch z) (fun _ => h2 rfl)
end

/-! ### statements -/
inductive Oc where
  | nx (ρ : List Sl)
  | rt (d : D)
  | bk (ρ : List Sl)
  | ct (ρ : List Sl)
  /-- an exception of the class at C leaves, with these fields -/
  | ex (C : Addr) (fl : List (Str × D))
/-- the ends keep P -/
structure Fin (K : PySem.W.Frag) (Ex : XK) (G0 H0 : Hp) (P : Oc → Prop) (D : Ends) : Prop where
  nx : ∀ ρ' σ' G' H', P (.nx ρ') → En K G0 H0 G' H' σ' ρ' → D.nx σ' H'
  rt : ∀ d v G' H', P (.rt d) → Ext G0 H0 G' H' → Dq K G' v d → D.rt v H'
  bk : ∀ ρ' σ' G' H', P (.bk ρ') → En K G0 H0 G' H' σ' ρ' → D.bk σ' H'
  ct : ∀ ρ' σ' G' H', P (.ct ρ') → En K G0 H0 G' H' σ' ρ' → D.ct σ' H'
  ex : ∀ C fl dd fs G' H', P (.ex C fl) → Ext G0 H0 G' H' → G' dd = some (.xd fs) → DqF K G' fs fl → Ex (.ref C) (some dd) H'
def ST (K : PySem.W.Frag) (Ex : XK) (ts : TS) (ρ : List Sl) (P : Oc → Prop) : Prop := ∀ (G0 H0 G H : Hp) (σ : St) (D : Ends), En K G0 H0 G H σ ρ → Fin K Ex G0 H0 P D → ts D σ H
section
variable {K : PySem.W.Frag} {Ex : XK} {ρ : List Sl} {ta tb te : TE} {tt tu : TT} {d d1 d2 : D} {t u : TS} {P P' : Oc → Prop}
theorem Fin.mono {G0 H0 : Hp} {D : Ends} (f : Fin K Ex G0 H0 P' D) (k : ∀ o, P o → P' o) : Fin K Ex G0 H0 P D :=
  ⟨fun _ _ _ _ p => f.nx _ _ _ _ (k _ p), fun _ _ _ _ p => f.rt _ _ _ _ (k _ p), fun _ _ _ _ p => f.bk _ _ _ _ (k _ p), fun _ _ _ _ p => f.ct _ _ _ _ (k _ p), fun _ _ _ _ _ _ p => f.ex _ _ _ _ _ _ (k _ p)⟩
theorem ST.mono (h : ST K Ex t ρ P) (k : ∀ o, P o → P' o) : ST K Ex t ρ P' := fun G0 H0 G H σ D E f => h G0 H0 G H σ D E (f.mono k)
def seqP (K : PySem.W.Frag) (Ex : XK) (u : TS) (P : Oc → Prop) : Oc → Prop
  | .nx ρ => ST K Ex u ρ P
  | o => P o
theorem st_seq (h : ST K Ex t ρ (seqP K Ex u P)) : ST K Ex (tSeq t u) ρ P := fun G0 H0 G H σ D E f =>
  h G0 H0 G H σ { D with nx := u D } E ⟨fun ρ' σ' G' H' p E' => p G0 H0 G' H' σ' D E' f, f.rt, f.bk, f.ct, f.ex⟩
theorem st_next (h : P (.nx ρ)) : ST K Ex tNext ρ P := fun G0 H0 G H σ D E f => f.nx ρ σ G H h E
theorem st_break (h : P (.bk ρ)) : ST K Ex tBreak ρ P := fun G0 H0 G H σ D E f => f.bk ρ σ G H h E
theorem st_cont (h : P (.ct ρ)) : ST K Ex tCont ρ P := fun G0 H0 G H σ D E f => f.ct ρ σ G H h E
theorem st_asg {i : Nat} (h : EV K te ρ d) (q : P (.nx (ρ.set i (.fr d)))) : ST K Ex (tAsg te (gName i)) ρ P := fun G0 H0 G H σ D E f =>
  h G0 H0 G H σ _ E fun v G' H' x hd => f.nx _ _ G' H' q ((E.go x).setF i hd)
theorem st_asgN {i : Nat} (h : EVN K te ρ d) (q : P (.nx (ρ.set i (.ow d)))) : ST K Ex (tAsg te (gName i)) ρ P := fun G0 H0 G H σ D E f =>
  h G0 H0 G H σ _ E fun l G' H' x hH hG ho => f.nx _ _ G' H' q (E.setN i x hH hG ho)
theorem st_drop (h : EV K te ρ d) (q : P (.nx ρ)) : ST K Ex (tDrop te) ρ P := fun G0 H0 G H σ D E f =>
  h G0 H0 G H σ _ E fun v G' H' x hd => f.nx _ _ G' H' q (E.go x)
theorem st_ret (h : EV K te ρ d) (q : P (.rt d)) : ST K Ex (tRet te) ρ P := fun G0 H0 G H σ D E f =>
  h G0 H0 G H σ _ E fun v G' H' x hd => f.rt d v G' H' q (E.go x).ext hd
theorem st_retN (q : P (.rt .none)) : ST K Ex tRetN ρ P := fun G0 H0 G H σ D E f => f.rt .none .non G H q E.ext .non
theorem st_if {b : Bool} (h : ET K tt ρ b) (h1 : b = true → ST K Ex t ρ P) (h2 : b = false → ST K Ex u ρ P) : ST K Ex (tIfS tt t u) ρ P := fun G0 H0 G H σ D E f =>
  h G0 H0 G H σ _ E fun G' H' x => by
    cases b with
    | true => exact h1 rfl G0 H0 G' H' σ D (E.go x) f
    | false => exact h2 rfl G0 H0 G' H' σ D (E.go x) f
theorem st_yes (h : ET K tt ρ true) (h1 : ST K Ex t ρ P) : ST K Ex (tIfS tt t u) ρ P := st_if h (fun _ => h1) (fun z => nomatch z)
theorem st_no (h : ET K tt ρ false) (h1 : ST K Ex u ρ P) : ST K Ex (tIfS tt t u) ρ P := st_if h (fun z => nomatch z) (fun _ => h1)
/-- the owned list of slot i is frozen from here on -/
theorem st_frz {i : Nat} (hi : ρ[i]? = some (.ow d)) (h : ST K Ex t (ρ.set i (.fr d)) P) : ST K Ex t ρ P := fun G0 H0 G H σ D E f => by
  obtain ⟨G', E'⟩ := E.freeze hi
  exact h G0 H0 G' H σ D E' f
theorem st_forget {ρ' : List Sl} (hl : ρ'.length = ρ.length) (hf : ∀ (i : Nat) (s : Sl), ρ'[i]? = some s → s = Sl.no ∨ ρ[i]? = some s) (h : ST K Ex t ρ' P) : ST K Ex t ρ P := fun G0 H0 G H σ D E f =>
  h G0 H0 G H σ D (E.drop hl hf) f

/-! ### targets -/
/-- the slots ts take what d is made of; ρ' behind it -/
def GT (K : PySem.W.Frag) (g : TG) (ρ : List Sl) (d : D) (ρ' : List Sl) (ts : List Nat) : Prop := ∀ (G0 H0 G H : Hp) (σ : St) (v : V) (Q : St → Hp → Prop), En K G0 H0 G H σ ρ → Dq K G v d →
  (∀ σ', En K G0 H0 G H σ' ρ' → σ'.length = σ.length → (∀ k, k ∉ ts → σ'[k]? = σ[k]?) → Q σ' H) → g v σ H Q
def GTs (K : PySem.W.Frag) (g : TGs) (ρ : List Sl) (ds : List D) (ρ' : List Sl) (ts : List Nat) : Prop := ∀ (G0 H0 G H : Hp) (σ : St) (vs : List V) (Q : St → Hp → Prop), En K G0 H0 G H σ ρ → DqA K G vs ds →
  (∀ σ', En K G0 H0 G H σ' ρ' → σ'.length = σ.length → (∀ k, k ∉ ts → σ'[k]? = σ[k]?) → Q σ' H) → g vs σ H Q
theorem gt_name {i : Nat} : GT K (gName i) ρ d (ρ.set i (.fr d)) [i] := fun G0 H0 G H σ v Q E hd q =>
  q _ (E.setF i hd) (by rw [List.length_set]) fun k hk => List.getElem?_set_ne (by simpa using fun e => hk (by simp [e]))
theorem gts_nil : GTs K gNil ρ [] ρ [] := fun G0 H0 G H σ vs Q E hd q => by
  cases hd
  exact ⟨rfl, q σ E rfl fun _ _ => rfl⟩
theorem gts_cons {g : TG} {gs : TGs} {ρ1 ρ2 : List Sl} {ds : List D} {ts us : List Nat} (h : GT K g ρ d ρ1 ts) (h2 : GTs K gs ρ1 ds ρ2 us) : GTs K (gCons g gs) ρ (d :: ds) ρ2 (ts ++ us) := fun G0 H0 G H σ vs Q E hd q => by
  cases hd with
  | cons a b => exact ⟨_, _, rfl, h G0 H0 G H σ _ _ E a fun σ1 E1 l1 k1 => h2 G0 H0 G H σ1 _ Q E1 b fun σ2 E2 l2 k2 => q σ2 E2 (l2.trans l1) fun k hk => (k2 k fun z => hk (List.mem_append_right _ z)).trans (k1 k fun z => hk (List.mem_append_left _ z))⟩
theorem gt_tup {gs : TGs} {ρ' : List Sl} {ds : List D} {ts : List Nat} {n : Nat} (hn : ds.length = n) (h : GTs K gs ρ ds ρ' ts) : GT K (gTup K n gs) ρ (.tuple ds) ρ' ts := fun G0 H0 G H σ v Q E hd q => by
  cases hd with
  | tup a b => exact ⟨_, _, rfl, E.gh.t a, b.length.trans hn, h G0 H0 G H σ _ Q E b q⟩
theorem st_asgG {g : TG} {ρ' : List Sl} {ts : List Nat} (h : EV K te ρ d) (hg : GT K g ρ d ρ' ts) (q : P (.nx ρ')) : ST K Ex (tAsg te g) ρ P := fun G0 H0 G H σ D E f =>
  h G0 H0 G H σ _ E fun v G' H' x hd => hg G0 H0 G' H' σ v _ (E.go x) hd fun σ' E' _ _ => f.nx _ _ G' H' q E'

/-! ### what is walked -/
def EI (K : PySem.W.Frag) (wi : TI) (ρ : List Sl) (n : Nat) (item : Nat → D) : Prop := ∀ (G0 H0 G H : Hp) (σ : St) (R : It → Hp → Prop), En K G0 H0 G H σ ρ →
  (∀ J G' H' Gd Y, Ext G H G' H' → Walk J n Gd Y → (∀ G2 H2, (∀ a o, G' a = some o → G2 a = some o) → GH G2 H2 → Gd H2) →
    (∀ i G2 H2 x H3, i < n → (∀ a o, G' a = some o → G2 a = some o) → GH G2 H2 → Y i H2 x H3 → ∃ G3, Ext G2 H2 G3 H3 ∧ Dq K G3 x (item i)) → R J H') → wi σ H R
/-- the ends of a loop's turn -/
def loopP (Q : List Sl → Prop) (P : Oc → Prop) : Oc → Prop
  | .nx ρ => Q ρ
  | .ct ρ => Q ρ
  | .bk ρ => P (.nx ρ)
  | .rt d => P (.rt d)
  | .ex C fl => P (.ex C fl)
theorem st_for {wi : TI} {g : TG} {n : Nat} {item : Nat → D} (hi : EI K wi ρ n item) (I : Nat → List Sl → Prop) (h0 : I 0 ρ)
    (hs : ∀ i ρ1, i < n → I i ρ1 → ∃ ρ2 ts, GT K g ρ1 (item i) ρ2 ts ∧ ST K Ex t ρ2 (loopP (I (i + 1)) P))
    (hd : ∀ ρ1, I n ρ1 → P (.nx ρ1)) : ST K Ex (tFor wi g t) ρ P := fun G0 H0 G H σ D E f =>
  hi G0 H0 G H σ _ E fun J G1 H1 Gd Y x w hG hY => by
    have E1 := E.go x
    refine for_it w (fun i σ' H' => ∃ G' ρ', En K G1 H0 G' H' σ' ρ' ∧ I i ρ') ⟨G1, ρ, E1.re, h0⟩ (fun i σ' H' _ ⟨G', ρ', E', _⟩ => hG G' H' E'.ext.gg E'.gh) (fun i y σ' H' H3 hi ⟨G', ρ', E', p⟩ hy => ?_) (fun σ' H' ⟨G', ρ', E', p⟩ => f.nx ρ' σ' G' H' (hd ρ' p) (E'.back E1.ext))
    obtain ⟨G3, x3, hdq⟩ := hY i G' H' y H3 hi E'.ext.gg E'.gh hy
    obtain ⟨ρ2, ts, hg, hb⟩ := hs i ρ' hi p
    exact hg G1 H0 G3 H3 σ' y _ (E'.go x3) hdq fun σ2 E2 _ _ => hb G1 H0 G3 H3 σ2 _ E2 ⟨fun ρ4 σ4 G4 H4 p4 E4 => ⟨G4, ρ4, E4, p4⟩,
      fun d v G4 H4 p4 x4 hd4 => f.rt d v G4 H4 p4 (E1.ext.back x4) hd4, fun ρ4 σ4 G4 H4 p4 E4 => f.nx ρ4 σ4 G4 H4 p4 (E4.back E1.ext), fun ρ4 σ4 G4 H4 p4 E4 => ⟨G4, ρ4, E4, p4⟩,
      fun C fl dd fs G4 H4 p4 x4 h1 h2 => f.ex C fl dd fs G4 H4 p4 (E1.ext.back x4) h1 h2⟩
theorem st_while {I : Nat → List Sl → Prop} (m : Nat) (h0 : I m ρ)
    (hs : ∀ m ρ1, I m ρ1 → ∃ b, ET K tt ρ1 b ∧ (b = true → ST K Ex t ρ1 (loopP (fun ρ3 => ∃ m', m' < m ∧ I m' ρ3) P)) ∧ (b = false → P (.nx ρ1))) : ST K Ex (tWhile tt t) ρ P := fun G0 H0 G H σ D E f => by
  refine ⟨fun m σ' H' => ∃ G' ρ', En K G0 H0 G' H' σ' ρ' ∧ I m ρ', ⟨m, G, ρ, E, h0⟩, fun m σ' H' ⟨G', ρ', E', p⟩ => ?_⟩
  obtain ⟨b, hb, h1, h2⟩ := hs m ρ' p
  refine hb G0 H0 G' H' σ' _ E' fun G2 H2 x => ?_
  cases b with
  | false => exact f.nx ρ' σ' G2 H2 (h2 rfl) (E'.go x)
  | true =>
    refine ⟨fun σ3 H3 => ∃ m', m' < m ∧ ∃ G3 ρ3, En K G0 H0 G3 H3 σ3 ρ3 ∧ I m' ρ3, fun σ3 H3 ⟨m', lt, q⟩ => ⟨m', lt, q⟩, ?_⟩
    exact h1 rfl G0 H0 G2 H2 σ' _ (E'.go x) ⟨fun ρ4 σ4 G4 H4 ⟨m', lt, p4⟩ E4 => ⟨m', lt, G4, ρ4, E4, p4⟩, f.rt, fun ρ4 σ4 G4 H4 p4 E4 => f.nx ρ4 σ4 G4 H4 p4 E4, fun ρ4 σ4 G4 H4 ⟨m', lt, p4⟩ E4 => ⟨m', lt, G4, ρ4, E4, p4⟩, f.ex⟩
end
end DL

/-! DL3: operators, comparisons, subscripts, built-ins, by data. -/
namespace DL
open PySem L2

/-! ### + -/
def rAddU (K : PySem.W.Frag) : R2 := fun x y H Q => rI0 (fun i j => .int (i + j)) x y H Q ∨ (fun x y H Q => (∃ i j, x = .str i ∧ y = .str j ∧ i.length + j.length ≤ sizeLine ∧ Q (.str (i ++ j)) H) ∨ (fun x y H Q => rCat x y H Q ∨ rCatA K x y H Q) x y H Q) x y H Q
theorem op_addU {X : Cx} : OpR X (binaryOp .Add) (rAddU X.K) := op_add.or (op_add_str.or (op_cat.or op_catA))
section
variable {K : PySem.W.Frag} {ρ : List Sl} {ta tb te : TE} {i j : Int}
theorem od_addI : OD K (rAddU K) (.int i) (.int j) (.int (i + j)) := fun x y G H Q g hx hy q => by
  cases hx; cases hy
  exact .inl ⟨i, j, rfl, rfl, q _ G H (.refl g) (.int _)⟩
theorem od_addS {a b : Str} (h : a.length + b.length ≤ sizeLine) : OD K (rAddU K) (.str a) (.str b) (.str (a ++ b)) := fun x y G H Q g hx hy q => by
  cases hx; cases hy
  exact .inr (.inl ⟨a, b, rfl, rfl, h, q _ G H (.refl g) (.str _)⟩)
theorem on_addL {a b : List D} (h : a.length + b.length ≤ sizeLine) : ON K (rAddU K) (.list a) (.list b) (.list (a ++ b)) := fun x y G H Q g hx hy q => by
  cases hx with
  | lst ha ra => cases hy with
    | lst hb rb =>
      refine .inr (.inr (.inl ⟨_, _, _, _, rfl, rfl, g.lst ha, g.lst hb, by rw [ra.length, rb.length]; exact h, fun p hp => ?_⟩))
      exact q p G _ (.fresh g hp) hp (g.none hp) (.lst upd_same (ra.append rb))
theorem od_addT {a b : List D} (h : a.length + b.length ≤ sizeLine) : OD K (rAddU K) (.tuple a) (.tuple b) (.tuple (a ++ b)) := fun x y G H Q g hx hy q => by
  cases hx with
  | tup ha ra => cases hy with
    | tup hb rb =>
      refine .inr (.inr (.inr ⟨_, _, _, _, rfl, rfl, g.t ha, g.t hb, by rw [ra.length, rb.length]; exact h, fun e => ?_, fun n e => ?_, fun n1 n2 p hp => ?_⟩))
      · subst e
        cases ra
        exact q _ G H (.refl g) (.tup hb rb)
      · subst e
        cases rb
        rw [List.append_nil] at q
        exact q _ G H (.refl g) (.tup ha ra)
      · have rr := ra.append rb
        exact q _ _ _ (Ext.new g hp) (.tup (SqT.of upd_same) (rr.mono (Ext.new g hp).g))
/-! ### -, *, //, %, ** -/
abbrev rSubU : R2 := rI0 fun i j => .int (i - j)
theorem od_sub : OD K rSubU (.int i) (.int j) (.int (i - j)) := fun x y G H Q g hx hy q => by
  cases hx; cases hy
  exact ⟨i, j, rfl, rfl, q _ G H (.refl g) (.int _)⟩
abbrev rModU : R2 := rI (fun _ j => 0 < j) fun i j => .int (i % j)
theorem od_mod (h : 0 < j) : OD K rModU (.int i) (.int j) (.int (i % j)) := fun x y G H Q g hx hy q => by
  cases hx; cases hy
  exact ⟨i, j, rfl, rfl, h, q _ G H (.refl g) (.int _)⟩
abbrev rDivU : R2 := rI CDiv fun i j => .int (i / j)
theorem od_div (h : 0 < j ∧ j < 1073741824) : OD K rDivU (.int i) (.int j) (.int (i / j)) := fun x y G H Q g hx hy q => by
  cases hx; cases hy
  exact ⟨i, j, rfl, rfl, h, q _ G H (.refl g) (.int _)⟩
abbrev rPowU : R2 := rI CPow fun i j => .int (i ^ j.toNat)
theorem od_pow (h : 0 ≤ j ∧ j ≤ 1000000 ∧ i.natAbs < 2 ^ 64) : OD K rPowU (.int i) (.int j) (.int (i ^ j.toNat)) := fun x y G H Q g hx hy q => by
  cases hx; cases hy
  exact ⟨i, j, rfl, rfl, h, q _ G H (.refl g) (.int _)⟩
/-- k times the text -/
def repS (z : Str) (k : Int) : Str := ⟨(List.replicate k.toNat z.cps.toList).flatten.toArray⟩
theorem foldl_reps (a : List Nat) : ∀ (m : Nat) (b : List Nat), List.foldl (fun x1 x2 => x1 ++ x2) b.toArray (List.replicate m a.toArray) = (b ++ (List.replicate m a).flatten).toArray
  | 0, b => by simp
  | m + 1, b => by
    rw [List.replicate_succ, List.foldl_cons]
    have e : b.toArray ++ a.toArray = (b ++ a).toArray := by simp
    rw [e, foldl_reps a m (b ++ a), List.replicate_succ, List.flatten_cons, List.append_assoc]
def rMulS : R2 := fun x y H Q => ∃ z k, x = .str z ∧ y = .int k ∧ -(2 ^ 63) ≤ k ∧ k < 2 ^ 63 ∧ z.length * k.toNat ≤ sizeLine ∧ Q (.str (repS z k)) H
theorem op_mulS {X : Cx} : OpR X (binaryOp .Mult) rMulS := by
  intro pins s σ H x y v u Q I rx ry h
  obtain ⟨z, k, rfl, rfl, h1, h2, h3, q⟩ := h
  obtain ⟨t, rfl⟩ := rx
  obtain ⟨t', rfl⟩ := ry
  have hs : (sizeLine : Nat) = 16777216 := sizeLine_eq
  refine PySem.P.mul_str ?_ ?_ ?_ ?_
  · rw [decide_eq_false (by omega), decide_eq_false (by omega)]; rfl
  · intro a b c
    have hk : 1 ≤ k := by omega
    have hz : z.length ≠ 0 := by
      intro e
      rw [e] at b
      simp at b
    have h4 : (z.length : Int) * k ≤ 16777216 := by
      have : ((z.length * k.toNat : Nat) : Int) ≤ 16777216 := by omega
      rw [Int.natCast_mul] at this
      have e : ((k.toNat : Nat) : Int) = k := by omega
      rw [e] at this
      exact this
    have h5 : (z.length : Int) ≤ (2 ^ 63 - 1) / k := by
      rw [Int.le_ediv_iff_mul_le (by omega)]
      omega
    omega
  · intro a b
    unfold PySem.Builtin.Str.tooLong
    rw [sizeLine_eq] at h3
    simp only [decide_eq_false_iff_not, gt_iff_lt, Nat.not_lt, sizeLine_eq]
    omega
  · by_cases a : k < 1
    · rw [if_pos a]
      have e : repS z k = Str.empty := by
        unfold repS
        have : k.toNat = 0 := by omega
        rw [this]
        rfl
      rw [e] at q
      exact ⟨by decide, .str _, H, I.tok _, ⟨_, rfl⟩, q⟩
    · rw [if_neg a]
      by_cases b : (k == 1 || z.length == 0) = true
      · rw [if_pos b]
        have e : repS z k = z := by
          unfold repS
          cases z with
          | mk cps =>
          rcases Bool.or_eq_true_iff.mp b with b | b
          · have : k.toNat = 1 := by
              have := eq_of_beq b
              omega
            rw [this]
            simp
          · have e : cps.size = 0 := eq_of_beq b
            have e2 : cps = #[] := Array.eq_empty_of_size_eq_zero e
            subst e2
            simp
        rw [e] at q
        exact ⟨.str z, H, I, ⟨_, rfl⟩, q⟩
      · rw [if_neg b]
        have e : repS z k = ⟨(List.replicate k.toNat z.cps).foldl (· ++ ·) #[]⟩ := by
          unfold repS
          congr 1
          have := foldl_reps z.cps.toList k.toNat []
          rw [List.nil_append] at this
          rw [← this]
        rw [e] at q
        refine ⟨?_, .str _, H, I.tok _, ⟨_, rfl⟩, q⟩
        have : (repS z k).length ≤ sizeLine := by
          unfold repS Str.length
          rw [List.size_toArray]
          have : ∀ m : Nat, ((List.replicate m z.cps.toList).flatten).length = m * z.cps.toList.length := fun m => by
            induction m with
            | zero => simp
            | succ m ih => rw [List.replicate_succ, List.flatten_cons, List.length_append, ih, Nat.succ_mul]; omega
          rw [this, Nat.mul_comm]
          exact h3
        rw [e] at this
        exact this
end
end DL

/-! DL4: *, comparisons, in, subscripts, slices, len, isinstance, join, index, int, iteration, comprehensions. -/
namespace DL
open PySem L2

def rMulU : R2 := fun x y H Q => rI CMul (fun i j => .int (i * j)) x y H Q ∨ (fun x y H Q => rMulS x y H Q ∨ rRep x y H Q) x y H Q
theorem op_mulU {X : Cx} : OpR X (binaryOp .Mult) rMulU := op_mul.or (op_mulS.or op_rep)
section
variable {K : PySem.W.Frag} {ρ : List Sl} {ta tb te : TE} {i j : Int} {d d1 d2 : D}
theorem od_mulI (h : CMul i j) : OD K rMulU (.int i) (.int j) (.int (i * j)) := fun x y G H Q g hx hy q => by
  cases hx; cases hy
  exact .inl ⟨i, j, rfl, rfl, h, q _ G H (.refl g) (.int _)⟩
theorem od_mulS {z : Str} (h1 : -(2 ^ 63) ≤ j) (h2 : j < 2 ^ 63) (h : z.length * j.toNat ≤ sizeLine) : OD K rMulU (.str z) (.int j) (.str (repS z j)) := fun x y G H Q g hx hy q => by
  cases hx; cases hy
  exact .inr (.inl ⟨z, j, rfl, rfl, h1, h2, h, q _ G H (.refl g) (.str _)⟩)
theorem DqA.rep {G : Hp} {vs : List V} {ds : List D} (h : DqA K G vs ds) : ∀ m : Nat, DqA K G (List.replicate m vs).flatten (List.replicate m ds).flatten
  | 0 => .nil
  | m + 1 => by
    rw [List.replicate_succ, List.replicate_succ, List.flatten_cons, List.flatten_cons]
    exact h.append (DqA.rep h m)
theorem on_mulL {ds : List D} (h1 : -(2 ^ 63) ≤ j) (h2 : j < 2 ^ 63) (h : ds.length * j.toNat ≤ sizeLine) : ON K rMulU (.list ds) (.int j) (.list (List.replicate j.toNat ds).flatten) := fun x y G H Q g hx hy q => by
  cases hy
  cases hx with
  | lst ha ra =>
    refine .inr (.inr ⟨_, _, _, rfl, rfl, g.lst ha, h1, h2, by rw [ra.length]; exact h, fun p hp => ?_⟩)
    exact q p G _ (.fresh g hp) hp (g.none hp) (.lst upd_same (ra.rep _))

/-! ### comparisons -/
def rCmpU (p : Int → Int → Bool) (s : List Nat → List Nat → Bool) : R2 := fun x y H Q => rI0 (fun i j => .bl (p i j)) x y H Q ∨ (∃ a b, x = .str a ∧ y = .str b ∧ Q (.bl (s a.cps.toList b.cps.toList)) H)
abbrev rLtU : R2 := rCmpU (fun i j => decide (i < j)) fun a b => decide (a < b)
abbrev rLeU : R2 := rCmpU (fun i j => decide (i ≤ j)) fun a b => !decide (b < a)
abbrev rGtU : R2 := rCmpU (fun i j => decide (j < i)) fun a b => decide (b < a)
abbrev rGeU : R2 := rCmpU (fun i j => decide (j ≤ i)) fun a b => !decide (a < b)
theorem op_ltU {X : Cx} : OpR X (compareOp .Lt) rLtU := op_lt.or op_lt_str
theorem op_leU {X : Cx} : OpR X (compareOp .LtE) rLeU := op_le.or op_le_str
theorem op_gtU {X : Cx} : OpR X (compareOp .Gt) rGtU := op_gt.or op_gt_str
theorem op_geU {X : Cx} : OpR X (compareOp .GtE) rGeU := op_ge.or op_ge_str
theorem od_cmpI {p : Int → Int → Bool} {s : List Nat → List Nat → Bool} : OD K (rCmpU p s) (.int i) (.int j) (.bool (p i j)) := fun x y G H Q g hx hy q => by
  cases hx; cases hy
  exact .inl ⟨i, j, rfl, rfl, q _ G H (.refl g) (.bl _)⟩
theorem od_cmpS {p : Int → Int → Bool} {s : List Nat → List Nat → Bool} {a b : Str} : OD K (rCmpU p s) (.str a) (.str b) (.bool (s a.cps.toList b.cps.toList)) := fun x y G H Q g hx hy q => by
  cases hx; cases hy
  exact .inr ⟨a, b, rfl, rfl, q _ G H (.refl g) (.bl _)⟩
/-! data without dicts, as the library's == reads it -/
mutual
theorem canLay_dp {K : PySem.W.Frag} {H : Hp} : ∀ (d : D) (v : V), d.canLay0 = true → Dq K H v d → Dp K H v d
  | .none, _, _, h => by cases h; exact .non
  | .bool b, _, _, h => by cases h; exact .bl b
  | .int i, _, _, h => by cases h; exact .int i
  | .str s, _, _, h => by cases h; exact .str s
  | .list ds, _, c, h => by cases h with | lst a b => exact .lst (SqL.of a) (canLayA_dp ds _ (by simpa only [PyData.canLay0] using c) b)
  | .tuple ds, _, c, h => by cases h with | tup a b => exact .tup a (canLayA_dp ds _ (by simpa only [PyData.canLay0] using c) b)
  | .dict kvs, _, c, h => by simp [PyData.canLay0] at c
theorem canLayA_dp {K : PySem.W.Frag} {H : Hp} : ∀ (ds : List D) (vs : List V), PyData.canLayAll0 ds = true → DqA K H vs ds → DpAll K H vs ds
  | [], _, _, h => by cases h; exact .nil
  | d :: ds, _, c, h => by
    rw [PyData.canLayAll0, Bool.and_eq_true] at c
    cases h with
    | cons a b => exact .cons (canLay_dp d _ c.1 a) (canLayA_dp ds _ c.2 b)
end
def rEqU (K : PySem.W.Frag) : R2 := fun x y H Q => rEq x y H Q ∨ rEqD K x y H Q
def rNeU (K : PySem.W.Frag) : R2 := fun x y H Q => rNe x y H Q ∨ rNeD K x y H Q
theorem op_eqU {X : Cx} (hu : X.A.units + 64 < cLine) : OpR X (compareOp .Eq) (rEqU X.K) := op_eq.or (op_eqD hu)
theorem op_neU {X : Cx} (hu : X.A.units + 64 < cLine) : OpR X (compareOp .NotEq) (rNeU X.K) := op_ne.or (op_neD hu)
theorem od_eqI : OD K (rEqU K) (.int i) (.int j) (.bool (decide (i = j))) := fun x y G H Q g hx hy q => by
  cases hx; cases hy
  refine .inl ⟨rfl, ?_⟩
  have e : decide (V.int i = V.int j) = decide (i = j) := by simp
  rw [e]
  exact q _ G H (.refl g) (.bl _)
theorem od_eqS {a b : Str} : OD K (rEqU K) (.str a) (.str b) (.bool (decide (a = b))) := fun x y G H Q g hx hy q => by
  cases hx; cases hy
  refine .inl ⟨rfl, ?_⟩
  have e : decide (V.str a = V.str b) = decide (a = b) := by simp
  rw [e]
  exact q _ G H (.refl g) (.bl _)
theorem od_eqB {a b : Bool} : OD K (rEqU K) (.bool a) (.bool b) (.bool (decide (a = b))) := fun x y G H Q g hx hy q => by
  cases hx; cases hy
  refine .inl ⟨rfl, ?_⟩
  have e : decide (V.bl a = V.bl b) = decide (a = b) := by simp
  rw [e]
  exact q _ G H (.refl g) (.bl _)
theorem od_neI : OD K (rNeU K) (.int i) (.int j) (.bool (!decide (i = j))) := fun x y G H Q g hx hy q => by
  cases hx; cases hy
  refine .inl ⟨rfl, ?_⟩
  have e : decide (V.int i = V.int j) = decide (i = j) := by simp
  rw [e]
  exact q _ G H (.refl g) (.bl _)
theorem od_neS {a b : Str} : OD K (rNeU K) (.str a) (.str b) (.bool (!decide (a = b))) := fun x y G H Q g hx hy q => by
  cases hx; cases hy
  refine .inl ⟨rfl, ?_⟩
  have e : decide (V.str a = V.str b) = decide (a = b) := by simp
  rw [e]
  exact q _ G H (.refl g) (.bl _)
theorem od_neB {a b : Bool} : OD K (rNeU K) (.bool a) (.bool b) (.bool (!decide (a = b))) := fun x y G H Q g hx hy q => by
  cases hx; cases hy
  refine .inl ⟨rfl, ?_⟩
  have e : decide (V.bl a = V.bl b) = decide (a = b) := by simp
  rw [e]
  exact q _ G H (.refl g) (.bl _)
theorem od_eqD {a b : D} (ha : SeqAt.shaped a = true) (hb : SeqAt.shaped b = true) : OD K (rEqU K) a b (.bool (PyData.eqv a b)) := fun x y G H Q g hx hy q =>
  .inr ⟨a, b, canLay_dp a x (SeqAt.canLay_of_shaped ha) (hx.mono g), canLay_dp b y (SeqAt.canLay_of_shaped hb) (hy.mono g), ha, hb, q _ G H (.refl g) (.bl _)⟩
theorem od_neD {a b : D} (ha : SeqAt.shaped a = true) (hb : SeqAt.shaped b = true) : OD K (rNeU K) a b (.bool (!PyData.eqv a b)) := fun x y G H Q g hx hy q =>
  .inr ⟨a, b, canLay_dp a x (SeqAt.canLay_of_shaped ha) (hx.mono g), canLay_dp b y (SeqAt.canLay_of_shaped hb) (hy.mono g), ha, hb, q _ G H (.refl g) (.bl _)⟩
def isNoneD : D → Bool
  | .none => true
  | _ => false
theorem isNone_dq {G : Hp} {v : V} {d : D} (h : Dq K G v d) : decide (v = .non) = isNoneD d := by cases h <;> rfl
theorem ev_isN (h : EV K ta ρ d) : EV K (tIsN ta) ρ (.bool (isNoneD d)) := fun G0 H0 G H σ Q E q => h G0 H0 G H σ _ E fun v G1 H1 e1 h1 => by
  rw [isNone_dq h1]
  exact q _ G1 H1 e1 (.bl _)
theorem ev_notN (h : EV K ta ρ d) : EV K (tNotN ta) ρ (.bool (!isNoneD d)) := fun G0 H0 G H σ Q E q => h G0 H0 G H σ _ E fun v G1 H1 e1 h1 => by
  rw [isNone_dq h1]
  exact q _ G1 H1 e1 (.bl _)
theorem od_isB {a b : Bool} : OD K rIsB (.bool a) (.bool b) (.bool (decide (a = b))) := fun x y G H Q g hx hy q => by
  cases hx; cases hy
  exact ⟨a, b, rfl, rfl, q _ G H (.refl g) (.bl _)⟩
theorem od_notB {a b : Bool} : OD K rNotB (.bool a) (.bool b) (.bool (!decide (a = b))) := fun x y G H Q g hx hy q => by
  cases hx; cases hy
  exact ⟨a, b, rfl, rfl, q _ G H (.refl g) (.bl _)⟩
/-- a < b < c -/
theorem ev_chain {r r' : R2} {tc : TE} {d3 : D} {b1 b2 : Bool} (ha : EV K ta ρ d1) (hb : EV K tb ρ d2) (ho : OD K r d1 d2 (.bool b1)) (hc : b1 = true → EV K tc ρ d3) (ho' : b1 = true → OD K r' d2 d3 (.bool b2)) : EV K (tChain r r' ta tb tc) ρ (.bool (b1 && b2)) := fun G0 H0 G H σ Q E q =>
  ha G0 H0 G H σ _ E fun x G1 H1 e1 h1 => hb G0 H0 G1 H1 σ _ (E.go e1) fun y G2 H2 e2 h2 => ho x y G2 H2 _ e2.gh (h1.mono e2.g) h2 fun z G3 H3 e3 h3 => by
    cases h3
    refine ⟨b1, rfl, ?_⟩
    cases b1 with
    | false => exact q _ G3 H3 ((e1.trans e2).trans e3) (.bl false)
    | true => exact hc rfl G0 H0 G3 H3 σ _ (((E.go e1).go e2).go e3) fun w G4 H4 e4 h4 => ho' rfl y w G4 H4 Q e4.gh ((h2.mono e3.g).mono e4.g) h4 fun v G5 H5 e5 h5 => q v G5 H5 ((((e1.trans e2).trans e3).trans e4).trans e5) h5

/-! ### in -/
def flatD : D → Bool
  | .none | .bool _ | .int _ | .str _ => true
  | _ => false
def inD (d : D) (ds : List D) : Bool := ds.any fun e => PyData.eqv e d
theorem flat_dq {G : Hp} {v : V} {d : D} (h : Dq K G v d) (f : flatD d = true) : flatV v = true := by cases h <;> first | rfl | exact absurd f Bool.false_ne_true
theorem flatA_dq {G : Hp} : ∀ {ds : List D} {vs : List V}, DqA K G vs ds → ds.all flatD = true → vs.all flatV = true
  | [], _, h, _ => by cases h; rfl
  | d :: ds, _, h, f => by
    cases h with
    | cons a b =>
      rw [List.all_cons, Bool.and_eq_true] at f
      rw [List.all_cons, flat_dq a f.1, flatA_dq b f.2]
      rfl
theorem eq_dq {G : Hp} {v u : V} {d e : D} (h : Dq K G v d) (h' : Dq K G u e) (f : flatD d = true) (f' : flatD e = true) : eqV v u = PyData.eqv d e := by
  cases h <;> cases h' <;> first | rfl | exact absurd f Bool.false_ne_true | exact absurd f' Bool.false_ne_true | simp [eqV, PyData.eqv]
theorem in_dq {G : Hp} {v : V} {d : D} (h : Dq K G v d) (f : flatD d = true) : ∀ {ds : List D} {vs : List V}, DqA K G vs ds → ds.all flatD = true → inV v vs = inD d ds
  | [], _, h, _ => by cases h; rfl
  | e :: ds, _, h2, f2 => by
    cases h2 with
    | cons a b =>
      rw [List.all_cons, Bool.and_eq_true] at f2
      unfold inV inD
      rw [List.any_cons, List.any_cons, eq_dq a h f2.1 f]
      congr 1
      exact in_dq h f b f2.2
def rInU (K : PySem.W.Frag) : R2 := fun x y H Q => rIn K false x y H Q ∨ (fun x y H Q => (∃ (c : Nat) (z : Str), x = .str ⟨#[c]⟩ ∧ y = .str z ∧ Q (.bl (decide (c ∈ z.cps.toList))) H) ∨ (∃ i j, x = .str i ∧ y = .str j ∧ Q (.bl (!(Builtin.Str.occurrences j i 0 j.length 1).isEmpty)) H)) x y H Q
def rNinU (K : PySem.W.Frag) : R2 := fun x y H Q => rIn K true x y H Q ∨ (fun x y H Q => (∃ (c : Nat) (z : Str), x = .str ⟨#[c]⟩ ∧ y = .str z ∧ Q (.bl (!decide (c ∈ z.cps.toList))) H) ∨ (∃ i j, x = .str i ∧ y = .str j ∧ Q (.bl (!(!(Builtin.Str.occurrences j i 0 j.length 1).isEmpty))) H)) x y H Q
theorem op_inU {X : Cx} : OpR X (compareOp .In) (rInU X.K) := op_in_seq.or (op_in_sign.or op_in_str)
theorem op_ninU {X : Cx} : OpR X (compareOp .NotIn) (rNinU X.K) := op_notIn_seq.or (op_notIn_sign.or op_notin_str)
theorem od_inC {c : Nat} {z : Str} : OD K (rInU K) (.str ⟨#[c]⟩) (.str z) (.bool (decide (c ∈ z.cps.toList))) := fun x y G H Q g hx hy q => by
  cases hx; cases hy
  exact .inr (.inl ⟨c, z, rfl, rfl, q _ G H (.refl g) (.bl _)⟩)
theorem od_ninC {c : Nat} {z : Str} : OD K (rNinU K) (.str ⟨#[c]⟩) (.str z) (.bool (!decide (c ∈ z.cps.toList))) := fun x y G H Q g hx hy q => by
  cases hx; cases hy
  exact .inr (.inl ⟨c, z, rfl, rfl, q _ G H (.refl g) (.bl _)⟩)
theorem od_inT {ds : List D} (f : flatD d = true) (fs : ds.all flatD = true) : OD K (rInU K) d (.tuple ds) (.bool (inD d ds)) := fun x y G H Q g hx hy q => by
  cases hy with
  | tup a b => exact .inl ⟨_, _, rfl, .inr (g.t a), flat_dq hx f, flatA_dq b fs, by rw [in_dq hx f b fs]; exact q _ G H (.refl g) (.bl _)⟩
theorem od_ninT {ds : List D} (f : flatD d = true) (fs : ds.all flatD = true) : OD K (rNinU K) d (.tuple ds) (.bool (!inD d ds)) := fun x y G H Q g hx hy q => by
  cases hy with
  | tup a b => exact .inl ⟨_, _, rfl, .inr (g.t a), flat_dq hx f, flatA_dq b fs, by rw [in_dq hx f b fs]; exact q _ G H (.refl g) (.bl _)⟩
theorem od_inL {ds : List D} (f : flatD d = true) (fs : ds.all flatD = true) : OD K (rInU K) d (.list ds) (.bool (inD d ds)) := fun x y G H Q g hx hy q => by
  cases hy with
  | lst a b => exact .inl ⟨_, _, rfl, .inl (SqL.of (g.lst a)), flat_dq hx f, flatA_dq b fs, by rw [in_dq hx f b fs]; exact q _ G H (.refl g) (.bl _)⟩
theorem od_ninL {ds : List D} (f : flatD d = true) (fs : ds.all flatD = true) : OD K (rNinU K) d (.list ds) (.bool (!inD d ds)) := fun x y G H Q g hx hy q => by
  cases hy with
  | lst a b => exact .inl ⟨_, _, rfl, .inl (SqL.of (g.lst a)), flat_dq hx f, flatA_dq b fs, by rw [in_dq hx f b fs]; exact q _ G H (.refl g) (.bl _)⟩

/-! ### an owned list, looked at -/
theorem own_look {G0 H0 G H : Hp} {σ : St} {n : Nat} {ds : List D} (E : En K G0 H0 G H σ ρ) (hi : ρ[n]? = some (.ow (.list ds))) : ∃ l vs, σ[n]? = some (some (.ref l)) ∧ H l = some (.lst vs) ∧ DqA K G vs ds := by
  obtain ⟨l, h1, _, _, h4⟩ := E.ow n _ hi
  cases h4 with
  | lst a b => exact ⟨l, _, h1, a, b⟩
theorem ev_inO {n : Nat} {ds : List D} (ha : EV K ta ρ d) (hi : ρ[n]? = some (.ow (.list ds))) (f : flatD d = true) (fs : ds.all flatD = true) : EV K (tOp (rInU K) ta (tVar n)) ρ (.bool (inD d ds)) := fun G0 H0 G H σ Q E q =>
  ha G0 H0 G H σ _ E fun x G1 H1 e1 hx => by
    obtain ⟨l, vs, h1, h2, h3⟩ := own_look (E.go e1) hi
    exact ⟨_, h1, .inl ⟨_, _, rfl, .inl (SqL.of h2), flat_dq hx f, flatA_dq h3 fs, by rw [in_dq hx f h3 fs]; exact q _ G1 H1 e1 (.bl _)⟩⟩
theorem ev_ninO {n : Nat} {ds : List D} (ha : EV K ta ρ d) (hi : ρ[n]? = some (.ow (.list ds))) (f : flatD d = true) (fs : ds.all flatD = true) : EV K (tOp (rNinU K) ta (tVar n)) ρ (.bool (!inD d ds)) := fun G0 H0 G H σ Q E q =>
  ha G0 H0 G H σ _ E fun x G1 H1 e1 hx => by
    obtain ⟨l, vs, h1, h2, h3⟩ := own_look (E.go e1) hi
    exact ⟨_, h1, .inl ⟨_, _, rfl, .inl (SqL.of h2), flat_dq hx f, flatA_dq h3 fs, by rw [in_dq hx f h3 fs]; exact q _ G1 H1 e1 (.bl _)⟩⟩
theorem ixN_lt {n : Nat} {i : Int} {k : Nat} (h : ixN n i = some k) : k < n := by
  unfold ixN at h
  split at h
  · split at h
    · cases h; omega
    · cases h
  · split at h
    · cases h; omega
    · cases h
theorem atI_dq {G : Hp} {vs : List V} {ds : List D} (h : DqA K G vs ds) {i : Int} {d : D} (e : atI ds i = some d) : ∃ v, atI vs i = some v ∧ Dq K G v d := by
  unfold atI at e ⊢
  rw [h.length]
  cases q : ixN ds.length i with
  | none => rw [q] at e; cases e
  | some k =>
    rw [q] at e
    obtain ⟨v, h1, h2⟩ := h.get (i := k) (d := d) e
    exact ⟨v, h1, h2⟩
theorem od_ixL {ds : List D} (e : atI ds i = some d) : OD K (rIx K) (.list ds) (.int i) d := fun x y G H Q g hx hy q => by
  cases hy
  cases hx with
  | lst a b =>
    obtain ⟨v, h1, h2⟩ := atI_dq b e
    exact .inl ⟨_, _, i, v, rfl, rfl, SqL.of (g.lst a), h1, q v G H (.refl g) h2⟩
theorem od_ixT {ds : List D} (e : atI ds i = some d) : OD K (rIx K) (.tuple ds) (.int i) d := fun x y G H Q g hx hy q => by
  cases hy
  cases hx with
  | tup a b =>
    obtain ⟨v, h1, h2⟩ := atI_dq b e
    exact .inr (.inl ⟨_, _, i, v, rfl, rfl, g.t a, h1, q v G H (.refl g) h2⟩)
theorem od_ixS {z : Str} {c : Nat} (hz : z.length ≤ sizeLine) (e : atI z.cps.toList i = some c) : OD K (rIx K) (.str z) (.int i) (.str ⟨#[c]⟩) := fun x y G H Q g hx hy q => by
  cases hy
  cases hx
  exact .inr (.inr ⟨z, i, c, rfl, rfl, hz, e, q _ G H (.refl g) (.str _)⟩)
theorem ev_ixO {n : Nat} {ds : List D} (hi : ρ[n]? = some (.ow (.list ds))) (hb : EV K tb ρ (.int i)) (e : atI ds i = some d) : EV K (tOp (rIx K) (tVar n) tb) ρ d := fun G0 H0 G H σ Q E q => by
  obtain ⟨l, vs, h1, h2, h3⟩ := own_look E hi
  refine ⟨_, h1, hb G0 H0 G H σ _ E fun y G1 H1 e1 hy => ?_⟩
  cases hy
  obtain ⟨v, a1, a2⟩ := atI_dq h3 e
  exact .inl ⟨_, _, i, v, rfl, rfl, SqL.of (e1.hh _ _ h2), a1, q v G1 H1 e1 (a2.mono e1.g)⟩
/-! ### slices -/
theorem eo_none : EO K tNoPart ρ none := fun _ _ G H _ _ E q => q G H (.refl E.gh)
theorem eo_some (h : EV K te ρ (.int i)) : EO K (tPart te) ρ (some i) := fun G0 H0 G H σ Q E q => h G0 H0 G H σ _ E fun v G1 H1 e1 h1 => by
  cases h1
  exact ⟨i, rfl, q G1 H1 e1⟩
def rSlU (K : PySem.W.Frag) : V → Option Int → Option Int → Hp → VK → Prop := fun x lo hi H Q => rSlL K x lo hi H Q ∨ (fun x lo hi H Q => rSlA K x lo hi H Q ∨ rSlS x lo hi H Q) x lo hi H Q
theorem sl_U {X : Cx} : SlR X (rSlU X.K) := sl_list.or (sl_tupA.or sl_str)
def cutDs (ds : List D) (lo hi : Option Int) : List D := (ds.drop (HT.sIx ds.length 0 lo)).take (HT.sIx ds.length ds.length hi - HT.sIx ds.length 0 lo)
theorem cut_dq {G : Hp} {vs : List V} {ds : List D} (h : DqA K G vs ds) (lo hi : Option Int) : DqA K G (cutV vs lo hi) (cutDs ds lo hi) := by
  unfold cutV cutDs
  rw [h.length]
  exact (h.drop _).take _
theorem sl_step {r : V → Option Int → Option Int → Hp → VK → Prop} {tl th : TO} {lo hi : Option Int} {G0 H0 G H : Hp} {σ : St} {Q : VK} (E : En K G0 H0 G H σ ρ) (h : EV K te ρ d) (hl : EO K tl ρ lo) (hh : EO K th ρ hi)
    (q : ∀ x G' H', Ext G H G' H' → Dq K G' x d → r x lo hi H' Q) : tSl r te tl th σ H Q :=
  h G0 H0 G H σ _ E fun x G1 H1 e1 h1 => hl G0 H0 G1 H1 σ _ (E.go e1) fun G2 H2 e2 => hh G0 H0 G2 H2 σ _ ((E.go e1).go e2) fun G3 H3 e3 => q x G3 H3 ((e1.trans e2).trans e3) ((h1.mono e2.g).mono e3.g)
theorem en_slL {tl th : TO} {lo hi : Option Int} {ds : List D} (h : EV K te ρ (.list ds)) (hl : EO K tl ρ lo) (hh : EO K th ρ hi) : EVN K (tSl (rSlU K) te tl th) ρ (.list (cutDs ds lo hi)) := fun G0 H0 G H σ Q E q =>
  sl_step E h hl hh fun x G' H' e hx => by
    cases hx with
    | lst a b =>
      refine .inl ⟨_, _, rfl, SqL.of (e.gh.lst a), fun p hp => ?_⟩
      refine q p G' _ (e.trans (.fresh e.gh hp)) ?_ (e.gh.none hp) (.lst upd_same (cut_dq b lo hi))
      cases w : H p with
      | none => rfl
      | some o => have := e.hh _ _ w; rw [hp] at this; cases this
/-- a slice of the script -/
theorem en_slScr {tl th : TO} {lo hi : Option Int} {ns : List Int} (h : EV K te ρ (.dict [(.none, .list (ns.map PyData.int))])) (hl : EO K tl ρ lo) (hh : EO K th ρ hi) : EVN K (tSl (rSlU K) te tl th) ρ (.list (cutDs (ns.map PyData.int) lo hi)) := fun G0 H0 G H σ Q E q =>
  sl_step E h hl hh fun x G' H' e hx => by
    generalize hk : [((PyData.none : D), (PyData.list (ns.map PyData.int) : D))] = kvs at hx
    cases hx with
    | dK a b => cases b with
      | nil => cases hk
      | @cons k => cases k <;> cases hk
    | dT a b => cases b with
      | nil => cases hk
      | cons => cases hk
    | @scr a ms sq =>
      have e2 : ms.map PyData.int = ns.map PyData.int := by
        injection hk with h1 h2
        injection h1 with h1 h2
        injection h2 with h2
        exact h2.symm
      have e3 : DqA K G' (ms.map V.int) (ns.map PyData.int) := by
        rw [← e2]
        clear hk e2 sq
        induction ms with
        | nil => exact .nil
        | cons m ms ih => exact .cons (.int m) ih
      refine .inl ⟨_, _, rfl, e.gh.l sq, fun p hp => ?_⟩
      refine q p G' _ (e.trans (.fresh e.gh hp)) ?_ (e.gh.none hp) (.lst upd_same (cut_dq e3 lo hi))
      cases w : H p with
      | none => rfl
      | some o => have := e.hh _ _ w; rw [hp] at this; cases this
theorem ev_slS {tl th : TO} {lo hi : Option Int} {z : Str} (h : EV K te ρ (.str z)) (hz : z.length ≤ sizeLine) (hl : EO K tl ρ lo) (hh : EO K th ρ hi) : EV K (tSl (rSlU K) te tl th) ρ (.str (cutS z lo hi)) := fun G0 H0 G H σ Q E q =>
  sl_step E h hl hh fun x G' H' e hx => by
    cases hx
    exact .inr (.inr ⟨z, rfl, hz, q _ G' H' e (.str _)⟩)
theorem ev_slT {tl th : TO} {lo hi : Option Int} {ds : List D} (h : EV K te ρ (.tuple ds)) (hl : EO K tl ρ lo) (hh : EO K th ρ hi) : EV K (tSl (rSlU K) te tl th) ρ (.tuple (cutDs ds lo hi)) := fun G0 H0 G H σ Q E q =>
  sl_step E h hl hh fun x G' H' e hx => by
    cases hx with
    | tup a b =>
      refine .inr (.inl ⟨_, _, rfl, e.gh.t a, fun w => ?_, fun _ p hp => ?_⟩)
      · have z : cutDs ds lo hi = ds := by
          unfold cutDs
          rw [← b.length, w.1, w.2, List.drop_zero, Nat.sub_zero, b.length, List.take_length]
        rw [z] at q
        exact q _ G' H' e (.tup a b)
      · have rr := cut_dq b lo hi
        exact q _ _ _ (e.trans (.new e.gh hp)) (.tup (SqT.of upd_same) (rr.mono (Ext.new e.gh hp).g))
end
end DL

set_option maxHeartbeats 1000000
/-! DL5: enumerate over a tuple, a text; iteration of any sequence. -/
namespace DL
open PySem L2 PySem.Spec PyProof.Rows

theorem meets_enumerate_newB1 {v : Value} {o : Obj} {H : Heap → Prop} (B : Begins v o H) :
    Meets (Builtin.«enumerate.__new__» ⟨[.type "enumerate", v], []⟩) (fun _ R s => H s.heap ∧
      R (.ok (.ret (.ref (s.heap.push o).objs.size))) { s with heap := (s.heap.push o).push { cls := .type "enumerate", data := .fields #[.none, .bool false, .ref s.heap.objs.size, rawInt 0, .none, .none] } }) :=
  .of_wp fun prog w A R s h => by
    obtain ⟨hp, g, d, tk, os⟩ := s; obtain ⟨h1, h⟩ := h
    have hsub := sub_enumerate
    have q1 : ∀ {A' : Around} {E : Value → Shared → Prop} {Q : Value → Shared → Prop}, Q (.ref hp.objs.size) ⟨hp.push o, g, d, tk, os⟩ → wpAny (model prog w) A' (pyIter v) Q E ⟨hp, g, d, tk, os⟩ :=
      fun q => B.iter prog w _ _ ⟨hp, g, d, tk, os⟩ _ h1 q
    wp_walk using q1
    refine wpAny_stack_any fun st => wpAny_pure ?_
    split
    · rename_i c _ _ _ _ _
      cases (c == Value.type "enumerate")
      · wp_walk using q1
        exact ⟨_, rfl, h⟩
      · wp_walk using q1
        exact ⟨_, rfl, h⟩
    · wp_walk using q1
      exact ⟨_, rfl, h⟩
section
variable {prog : Program} {w : World} {A : Around} {E : Value → Shared → Prop} {s : Shared}
theorem enum_begins1 {v : Value} {o : Obj} {H : Heap → Prop} {Q : Value → Shared → Prop} (B : Begins v o H) (h1 : H s.heap)
    (h : ∀ h', IsEnum h' (s.heap.objs.size + 1) s.heap.objs.size 0 .none → h'.get? s.heap.objs.size = some o → h'.objs.size = s.heap.objs.size + 2 →
      (∀ b o, s.heap.get? b = some o → h'.get? b = some o) → Q (.ref (s.heap.objs.size + 1)) { s with heap := h' }) :
    wpAny (model prog w) A (call (.type "enumerate") [v]) Q E s := by
  refine callType_new F.called_enumerate (by decide) (F.typeCall_enumerate_1 _) (F.newCall_enumerate_1 _) (fun obj => F.args_object_init_2 obj _) F.entry_enumerate_new
    (meets_enumerate_newB1 B) ⟨h1, ?_⟩
  have hz : (s.heap.push o).objs.size = s.heap.objs.size + 1 := Heap.size_push ..
  show _ ∧ _
  rw [hz]
  have he : IsEnum ((s.heap.push o).push { cls := .type "enumerate", data := .fields #[.none, .bool false, .ref s.heap.objs.size, rawInt 0, .none, .none] }) (s.heap.objs.size + 1) s.heap.objs.size 0 .none := by
    have := Heap.get?_push_size (s.heap.push o) (o := { cls := .type "enumerate", data := .fields #[.none, .bool false, .ref s.heap.objs.size, rawInt 0, .none, .none] }) rfl
    rw [hz] at this; exact this
  refine ⟨⟨_, he, rfl⟩, h _ he (Heap.get?_push_of_some _ (Heap.get?_push_size _ B.free)) (by rw [Heap.size_push, hz]) fun b o x => Heap.get?_push_of_some _ (Heap.get?_push_of_some _ x)⟩
end

/-- one turn of enumerate, told by what its iterator draws -/
theorem enum_item {X : Cx} {pins : List (Addr × Obj)} {σ : L2.St} {H : Hp} {s : Shared} {E : Value → Shared → Prop} {e it : Addr} {fp : List Addr} {n i : Nat} {Pv : Nat → Value → Prop} {Sv : Nat → Heap → Prop} {old : Value} {C : V → Prop} {elts : List Expr} {kk : Nat} {tpos : Pos}
    (I : Inv X pins σ H s) (hf : ∀ b ∈ [e, it], FpOk X pins H b) (D : Draws X.prog X.w X.A.in1 it fp n Pv Sv) (he : IsEnum s.heap e it ((i : Nat) : Int) old) (hst : Sv i s.heap) (hlt : i < n) (hne : e ≠ it) (hef : e ∉ fp) (hc : ∀ u, Pv i u → ∃ x, RelV x u ∧ C x) :
    wpAny (model X.prog X.w) X.A (pyNext (.ref e)) (fun r s1 => ∃ u, r = some u ∧
      wpAny (model X.prog X.w) X.A (letOwnedTupleGo (.Tuple elts kk tpos) (.ref e) u) (fun _ s2 => ∃ T x, u = .ref T ∧ Inv X pins σ (upd H T (.tup [.int (i : Nat), x])) s2 ∧ H T = none ∧ C x ∧ (∃ old, IsEnum s2.heap e it (((i + 1 : Nat)) : Int) old) ∧ Sv (i + 1) s2.heap ∧
        ∀ b ∈ [e, it], upd H T (.tup [.int (i : Nat), x]) b = none) E s1) E s := by
  have hel : e < s.heap.objs.size := Heap.lt_size he
  have hil : it < s.heap.objs.size := by obtain ⟨o, q⟩ := D.live i _ hst; exact Heap.lt_size q
  refine wpAny_pyNext_enum_itemD D he hst hlt hne hef fun u h' tk hP ho hst' hT hsz hk => ?_
  obtain ⟨x, ru, hx⟩ := hc u hP
  refine ⟨_, rfl, wpAny_letOwnedTupleGo_enum (s := { s with heap := h', toks := tk + 1 }) ho fun h'' he' sb => ?_⟩
  have hT2 : h''.get? s.heap.objs.size = some { cls := .type "tuple", data := .seq #[.int i tk, u] } := (sb.2 _ (Nat.ne_of_gt hel)).trans hT
  have new : ObjOk X.prog X.w (upd H s.heap.objs.size (.tup [.int (i : Nat), x])) h'' s.heap.objs.size (.tup [.int (i : Nat), x]) :=
    ⟨by show 2 ≤ sizeLine; decide, [.int i tk, u], .cons ⟨_, rfl⟩ (.cons ru .nil), ⟨_, hT2, rfl, _, rfl⟩⟩
  have I1 : Inv X pins σ (upd H s.heap.objs.size (.tup [.int (i : Nat), x])) { s with heap := h'', toks := tk + 1 } :=
    I.turnedNew (ch := [e, it]) (fun b ob hb q => (sb.2 b (fun z => hb (by simp [z]))).trans (hk b ob (fun z => hb (by simp [z])) (fun z => hb (by simp [z])) q)) hf (Nat.le_refl _) new
  refine ⟨s.heap.objs.size, x, rfl, I1, I.hok.fresh (Nat.le_refl _), hx, ⟨u, ?_⟩, D.frame _ _ _ hst' (fun b hb o q => (sb.2 b (fun z => hef (z ▸ hb))).trans q), fun b hb => ?_⟩
  · have e1 : ((i + 1 : Nat) : Int) = (i : Int) + 1 := by omega
    rw [e1]; exact he'
  · have hb' : b < s.heap.objs.size := by
      have e' : b = e ∨ b = it := by simpa using hb
      rcases e' with z | z
      · rw [z]; exact hel
      · rw [z]; exact hil
    rw [upd_ne (Nat.ne_of_lt hb')]
    exact (hf b hb).1

def IteT (K : PySem.W.Frag) (a : Addr) : It :=
  ⟨fun i H => ∃ (xs : List V) (x : V), SqT K H a xs ∧ xs[i]? = some x, fun i H v H' => ∃ T x, v = .ref T ∧ H T = none ∧ H' = upd H T (.tup [.int (i : Nat), x]) ∧ ∀ xs, SqT K H a xs → xs[i]? = some x, fun i H => ∃ xs : List V, SqT K H a xs ∧ xs.length ≤ i⟩
def IteS (z : Str) : It :=
  ⟨fun i _ => i < z.cps.size, fun i H v H' => ∃ T c, v = .ref T ∧ H T = none ∧ H' = upd H T (.tup [.int (i : Nat), .str ⟨#[c]⟩]) ∧ z.cps[i]? = some c, fun i _ => z.cps.size ≤ i⟩
theorem enum_ne_tup {h : Heap} {e it a : Addr} {i : Int} {old : Value} {its : Array Value} (he : IsEnum h e it i old) (ht : IsTup h a its) : e ≠ a := by
  rintro rfl
  obtain ⟨o, ho, hc, _⟩ := ht
  have q : h.get? e = some _ := he
  rw [q] at ho
  cases ho
  have z : Value.type "enumerate" = Value.type "tuple" := hc
  injection z with z
  exact absurd z (by decide)
theorem turn_enumT {P : Program} {w : World} {K : PySem.W.Frag} {elts : List Expr} {kk : Nat} {tpos : Pos} (a e it : Addr) :
    Turn P w K (.Tuple elts kk tpos) (IteT K a) [e, it] e (fun i h => (∃ old, IsEnum h e it ((i : Nat) : Int) old) ∧ h.IsTupleIter it a i ∧ e ≠ it) where
  mem := by simp
  obj := fun i h st b hb => by
    obtain ⟨⟨old, he⟩, ⟨o, ho, hc, hd⟩, _⟩ := st
    have e' : b = e ∨ b = it := by simpa using hb
    rcases e' with z | z
    · rw [z]; exact ⟨_, he, fun v q => nomatch q⟩
    · rw [z]; exact ⟨o, ho, fun v q => by rw [hd] at q; cases q⟩
  keep := fun i h h' st k => let ⟨⟨old, he⟩, hi, hne⟩ := st; ⟨⟨old, k e (by simp) _ he⟩, hi.at fun o q => k it (by simp) o q, hne⟩
  item := by
    intro X hP hw hK hc i pins s σ H E I hf st hg
    subst hP hw hK
    obtain ⟨⟨old, he⟩, hit, hne⟩ := st
    obtain ⟨xs, x, hq, hx⟩ := hg
    obtain ⟨its, rv, p, hz⟩ := I.tuple hq
    obtain ⟨u, hu, ru⟩ := rv.get hx
    have hi : i < its.toArray.size := by
      rw [List.size_toArray]
      exact (List.getElem?_eq_some_iff.mp hu).1
    have hta : a ≠ it := by
      rintro rfl
      obtain ⟨o, ho, hc', _⟩ := id p
      obtain ⟨o2, ho2, hc2, _⟩ := id hit
      rw [ho] at ho2; cases ho2
      rw [hc'] at hc2
      injection hc2 with z
      exact absurd z (by decide)
    refine thn (enum_item (C := fun y => y = x) I hf (Draws.tuple (A := X.A.in1) (show X.A.in1.handled = none from I.ok.hd hc) it a hta its.toArray) he ⟨hit, p⟩ hi hne (by simpa using ⟨hne, enum_ne_tup he p⟩) fun u' q => ?_) fun r s1 ⟨v, er, h2⟩ => ⟨v, er, thn h2 fun _ s2 ⟨T, y, ev, I1, hT, ey, he2, hs2, hb⟩ => ?_⟩
    · rw [show its.toArray[i]? = some u from by simpa using hu] at q
      cases q
      exact ⟨x, ru, rfl⟩
    · subst ey
      subst ev
      exact ⟨.ref T, _, I1, rfl, ⟨T, y, rfl, hT, rfl, fun ys hy => by rw [I.tuple_inj hy hq]; exact hx⟩, ⟨he2, hs2.1, hne⟩, hb⟩
  done := by
    intro X hP hw hK hc i pins s σ H E I hf st hg
    subst hP hw hK
    obtain ⟨⟨old, he⟩, hit, hne⟩ := st
    obtain ⟨xs, hq, hx⟩ := hg
    obtain ⟨its, rv, p, hz⟩ := I.tuple hq
    obtain ⟨f0, f1, f2, f3, f4, f5⟩ := hf it (by simp)
    have hl := rv.length
    have hta : a ≠ it := by
      rintro rfl
      obtain ⟨o, ho, hc', _⟩ := id p
      obtain ⟨o2, ho2, hc2, _⟩ := id hit
      rw [ho] at ho2; cases ho2
      rw [hc'] at hc2
      injection hc2 with z
      exact absurd z (by decide)
    by_cases hi : i = its.toArray.size
    · subst hi
      exact wpAny_pyNext_enum_endD (Draws.tuple (A := X.A.in1) (show X.A.in1.handled = none from I.ok.hd hc) it a hta its.toArray) he ⟨hit, p⟩ fun h' eb => ⟨rfl, I.turned (t' := s.toks) (fun b o hb q => eb b o hb q) f0 f1 f3 f4 f5⟩
    · have D : Draws X.prog X.w X.A.in1 it [it, a] i (fun _ _ => True) (fun j h => h.IsTupleIter it a j ∧ h.IsTuple a its.toArray ∧ its.toArray.size ≤ j ∧ j = i) := {
        live := fun _ _ st => let ⟨o, ho, _⟩ := st.1; ⟨o, ho⟩
        frame := fun _ _ _ st hk => ⟨st.1.at fun o e => hk it (by simp) o e, st.2.1.at fun o e => hk a (by simp) o e, st.2.2⟩
        item := fun j s Q E hj st hQ => by have := st.2.2.2; omega
        done := fun s Q E st hE => wpAny_nextOf_tuple_end (show X.A.in1.handled = none from I.ok.hd hc) st.1 st.2.1 (by simpa using st.2.2.1) hE }
      exact wpAny_pyNext_enum_endD D he ⟨hit, p, by rw [List.size_toArray]; omega, rfl⟩ fun h' eb => ⟨rfl, I.turned (t' := s.toks) (fun b o hb q => eb b o hb q) f0 f1 f3 f4 f5⟩
  self := fun A i s Q E st h => let ⟨⟨_, he⟩, _⟩ := st; wpAny_pyIter_enum he h
theorem turn_enumS {P : Program} {w : World} {K : PySem.W.Frag} {elts : List Expr} {kk : Nat} {tpos : Pos} (z : Str) (t : Tok) (e it : Addr) :
    Turn P w K (.Tuple elts kk tpos) (IteS z) [e, it] e (fun i h => (∃ old, IsEnum h e it ((i : Nat) : Int) old) ∧ h.IsStrIter it (strIterType z) z t i ∧ e ≠ it) where
  mem := by simp
  obj := fun i h st b hb => by
    obtain ⟨⟨old, he⟩, ⟨o, ho, hc, hd⟩, _⟩ := st
    have e' : b = e ∨ b = it := by simpa using hb
    rcases e' with z | z
    · rw [z]; exact ⟨_, he, fun v q => nomatch q⟩
    · rw [z]; exact ⟨o, ho, fun v q => by rw [hd] at q; cases q⟩
  keep := fun i h h' st k => let ⟨⟨old, he⟩, ⟨o, ho, r⟩, hne⟩ := st; ⟨⟨old, k e (by simp) _ he⟩, ⟨o, k it (by simp) o ho, r⟩, hne⟩
  item := by
    intro X hP hw hK hc i pins s σ H E I hf st hg
    subst hP hw hK
    obtain ⟨⟨old, he⟩, hit, hne⟩ := st
    refine thn (enum_item (C := fun y => ∃ c, z.cps[i]? = some c ∧ y = .str ⟨#[c]⟩) I hf (Draws.text (A := X.A.in1) (show X.A.in1.handled = none from I.ok.hd hc) it z t) he hit hg hne (by simpa using hne) fun u' q => ?_) fun r s1 ⟨v, er, h2⟩ => ⟨v, er, thn h2 fun _ s2 ⟨T, y, ev, I1, hT, ey, he2, hs2, hb⟩ => ?_⟩
    · obtain ⟨c, u, h1, rfl⟩ := q
      exact ⟨.str ⟨#[c]⟩, ⟨u, rfl⟩, c, h1, rfl⟩
    · obtain ⟨c, hcx, rfl⟩ := ey
      subst ev
      exact ⟨.ref T, _, I1, rfl, ⟨T, c, rfl, hT, rfl, hcx⟩, ⟨he2, hs2, hne⟩, hb⟩
  done := by
    intro X hP hw hK hc i pins s σ H E I hf st hg
    subst hP hw hK
    obtain ⟨⟨old, he⟩, hit, hne⟩ := st
    obtain ⟨f0, f1, f2, f3, f4, f5⟩ := hf it (by simp)
    have hx : z.cps[i]? = none := Array.getElem?_eq_none hg
    have D : Draws X.prog X.w X.A.in1 it [it] i (fun _ _ => True) (fun j h => h.IsStrIter it (strIterType z) z t j ∧ j = i) := {
      live := fun _ _ st => let ⟨o, ho, _⟩ := st.1; ⟨o, ho⟩
      frame := fun _ _ _ st hk => let ⟨⟨o, ho, r⟩, e⟩ := st; ⟨⟨o, hk it (by simp) o ho, r⟩, e⟩
      item := fun j s Q E hj st hQ => by have := st.2; omega
      done := fun s Q E st hE => by
        obtain ⟨st, _⟩ := st
        cases ha : z.cps.all (· < 128)
        · simp only [strIterType, ha, Bool.false_eq_true, if_false] at st
          exact wpAny_nextOf_wide_end (show X.A.in1.handled = none from I.ok.hd hc) st hx hE
        · simp only [strIterType, ha, if_true] at st
          exact wpAny_nextOf_ascii_end (show X.A.in1.handled = none from I.ok.hd hc) st hx hE }
    exact wpAny_pyNext_enum_endD D he ⟨hit, rfl⟩ fun h' eb => ⟨rfl, I.turned (t' := s.toks) (fun b o hb q => eb b o hb q) f0 f1 f3 f4 f5⟩
  self := fun A i s Q E st h => let ⟨⟨_, he⟩, _⟩ := st; wpAny_pyIter_enum he h

/-- enumerate of a list, a tuple, a text -/
def iEnumU (K : PySem.W.Frag) (ta : TA) : TI := fun σ H R => ta σ H fun vs H1 => (∃ a xs, vs = [.ref a] ∧ SqL K H1 a xs ∧ R (Ite K a) H1) ∨ (∃ a xs, vs = [.ref a] ∧ SqT K H1 a xs ∧ R (IteT K a) H1) ∨ (∃ z, vs = [.str z] ∧ R (IteS z) H1)
theorem pi_enumU {X : Cx} {e : Expr} {ta : TA} {p pos tpos : Pos} {elts : List Expr} {kk : Nat} (hg : Gl X "enumerate") (hm : X.mg "enumerate" = none) (ha : PA X [e] ta) (hs : starEach [e] X.env = [(false, eval e X.env)] := by rfl) :
    PI X (.Tuple elts kk tpos) (.Call (.Name "enumerate" p) [e] [] pos) (iEnumU X.K ta) := by
  refine ⟨fun pins s σ H R I h => ?_⟩
  refine Call_ (ld_blt I hg hm boot_enumerate (PyProof.Rows.callWith_type1 (thn (ha.run pos pins s σ H _ I h) fun us s1 ⟨vs, H1, I1, r1, q1⟩ => ?_) hs rfl))
  have fp : ∀ b ∈ [s1.heap.objs.size + 1, s1.heap.objs.size], s1.heap.objs.size ≤ b := fun b hb => by
    have e' : b = s1.heap.objs.size + 1 ∨ b = s1.heap.objs.size := by simpa using hb
    rcases e' with z | z
    · rw [z]; exact Nat.le_add_right _ _
    · rw [z]; exact Nat.le_refl _
  rcases q1 with ⟨a, xs, ex, hq, q⟩ | ⟨a, xs, ex, hq, q⟩ | ⟨z, ex, q⟩
  · subst ex
    cases r1 with
    | cons r rr =>
      cases rr
      cases r
      obtain ⟨its, rv, p', hz⟩ := I1.list hq
      refine call_enumerate_list p'.isList fun h' he hit hsz hk => wpAny_pyIter_enum he ?_
      have I2 : Inv X pins σ H1 { s1 with heap := h' } := I1.kept (t' := s1.toks) hk
      exact ⟨s1.heap.objs.size + 1, [s1.heap.objs.size + 1, s1.heap.objs.size], _, _, H1, rfl, I2, turn_enum a (s1.heap.objs.size + 1) s1.heap.objs.size, ⟨⟨.none, he⟩, hit, Nat.succ_ne_self _⟩, fun b hb => I1.fpOk (fp b hb) (I1.hok.fresh (fp b hb)), q⟩
  · subst ex
    cases r1 with
    | cons r rr =>
      cases rr
      cases r
      obtain ⟨its, rv, p', hz⟩ := I1.tuple hq
      refine enum_begins1 (begins_tuple a its.toArray) p' fun h' he hit hsz hk => wpAny_pyIter_enum he ?_
      have I2 : Inv X pins σ H1 { s1 with heap := h' } := I1.kept (t' := s1.toks) hk
      exact ⟨s1.heap.objs.size + 1, [s1.heap.objs.size + 1, s1.heap.objs.size], _, _, H1, rfl, I2, turn_enumT a (s1.heap.objs.size + 1) s1.heap.objs.size, ⟨⟨.none, he⟩, ⟨_, hit, rfl, rfl⟩, Nat.succ_ne_self _⟩, fun b hb => I1.fpOk (fp b hb) (I1.hok.fresh (fp b hb)), q⟩
  · subst ex
    cases r1 with
    | cons r rr =>
      cases rr
      obtain ⟨t, rfl⟩ := r
      refine enum_begins1 (begins_text z t) trivial fun h' he hit hsz hk => wpAny_pyIter_enum he ?_
      have I2 : Inv X pins σ H1 { s1 with heap := h' } := I1.kept (t' := s1.toks) hk
      exact ⟨s1.heap.objs.size + 1, [s1.heap.objs.size + 1, s1.heap.objs.size], _, _, H1, rfl, I2, turn_enumS z t (s1.heap.objs.size + 1) s1.heap.objs.size, ⟨⟨.none, he⟩, ⟨_, hit, rfl, rfl⟩, Nat.succ_ne_self _⟩, fun b hb => I1.fpOk (fp b hb) (I1.hok.fresh (fp b hb)), q⟩
/-- a list, a tuple, a text, walked -/
def iSeqU (K : PySem.W.Frag) (te : TE) : TI := fun σ H R => te σ H fun x H1 => (∃ a xs, x = .ref a ∧ SqL K H1 a xs ∧ R (Itl K a) H1) ∨ (∃ a xs, x = .ref a ∧ SqT K H1 a xs ∧ R (Itt K a) H1) ∨ (∃ z, x = .str z ∧ R (Its z) H1)
theorem pi_seqU {X : Cx} {tg l : Expr} {tl : TE} (hl : PE X l tl) : PI X tg l (iSeqU X.K tl) := by
  refine ⟨fun pins s σ H R I h => ?_⟩
  refine thn (hl.run pins s σ H _ I h) fun v s1 ⟨x, H1, I1, r1, q1⟩ => ?_
  rcases q1 with ⟨a, xs, ex, hq, q⟩ | ⟨a, xs, ex, hq, q⟩ | ⟨z, ex, q⟩
  · subst ex
    cases r1
    obtain ⟨its, rv, p, hz⟩ := I1.list hq
    refine wpAny_pyIter_list p.isList ?_
    refine ⟨s1.heap.objs.size, [s1.heap.objs.size], _, _, H1, rfl, I1.kept (t' := s1.toks) fun b o e => Heap.get?_push_of_some _ e, turn_list a _, ⟨_, Heap.get?_push_size _ rfl, rfl, rfl⟩, fun b hb => ?_, q⟩
    have e : b = s1.heap.objs.size := by simpa using hb
    subst e
    exact I1.fpOk (Nat.le_refl _) (I1.hok.fresh (Nat.le_refl _))
  · subst ex
    cases r1
    obtain ⟨its, rv, p, hz⟩ := I1.tuple hq
    refine wpAny_pyIter_tuple (show s1.heap.IsTuple a its.toArray from p) ?_
    refine ⟨s1.heap.objs.size, [s1.heap.objs.size], _, _, H1, rfl, I1.kept (t' := s1.toks) fun b o e => Heap.get?_push_of_some _ e, turn_tuple a _, ⟨_, Heap.get?_push_size _ rfl, rfl, rfl⟩, fun b hb => ?_, q⟩
    have e : b = s1.heap.objs.size := by simpa using hb
    subst e
    exact I1.fpOk (Nat.le_refl _) (I1.hok.fresh (Nat.le_refl _))
  · subst ex
    obtain ⟨t, rfl⟩ := r1
    cases ha : z.cps.all (· < 128)
    · exact wpAny_pyIter_wide ha (pi_one (tk := s1.toks) I1 _ (turn_str _ z t "str_iterator" (.inr rfl)) ⟨_, Heap.get?_push_size _ rfl, rfl, rfl⟩ q)
    · exact wpAny_pyIter_ascii ha (pi_one (tk := s1.toks) I1 _ (turn_str _ z t "str_ascii_iterator" (.inl rfl)) ⟨_, Heap.get?_push_size _ rfl, rfl, rfl⟩ q)
end DL

/-! DL6: what is walked, comprehensions, built-ins, lists that grow, calls of own defs, by data. -/
namespace DL
open PySem L2

section
variable {K : PySem.W.Frag} {ρ : List Sl} {ta tb te : TE} {tt : TT} {d d1 d2 : D} {P : Oc → Prop} {Ex : XK}
/-! ### what is walked -/
theorem ei_mono {wi : TI} {n : Nat} {f g : Nat → D} (h : EI K wi ρ n f) (e : ∀ i, i < n → f i = g i) : EI K wi ρ n g := fun G0 H0 G H σ R E q =>
  h G0 H0 G H σ R E fun J G' H' Gd Y x w hG hY => q J G' H' Gd Y x w hG fun i G2 H2 v H3 hi a b c => by
    rw [← e i hi]
    exact hY i G2 H2 v H3 hi a b c
theorem ei_rng1 {t : TA} {n : Int} (h : EA K t ρ [.int n]) (h1 : -(2 ^ 62) ≤ n) (h2 : n < 2 ^ 62) : EI K (iRng1 t) ρ n.toNat (fun i => .int (i : Nat)) := fun G0 H0 G H σ R E q =>
  h G0 H0 G H σ _ E fun vs G1 H1 e1 hv => by
    cases hv with
    | cons a b =>
      cases a
      cases b
      refine ⟨n, rfl, h1, h2, q _ G1 H1 _ _ e1 walk_range (fun _ _ _ _ => trivial) fun i G2 H2 x H3 hi hg gh hy => ?_⟩
      obtain ⟨rfl, rfl⟩ := hy
      refine ⟨G2, .refl gh, ?_⟩
      show Dq K G2 (.int (0 + (i : Nat))) (.int (i : Nat))
      rw [Int.zero_add]
      exact .int _
theorem ei_rng2 {t : TA} {m n : Int} (h : EA K t ρ [.int m, .int n]) (hb : -(2 ^ 62) ≤ m ∧ m < 2 ^ 62 ∧ -(2 ^ 62) ≤ n ∧ n < 2 ^ 62) : EI K (iRng2 t) ρ (n - m).toNat (fun i => .int (m + (i : Nat))) := fun G0 H0 G H σ R E q =>
  h G0 H0 G H σ _ E fun vs G1 H1 e1 hv => by
    cases hv with
    | cons a b =>
      cases a
      cases b with
      | cons a b =>
        cases a
        cases b
        refine ⟨m, n, rfl, hb, q _ G1 H1 _ _ e1 walk_range (fun _ _ _ _ => trivial) fun i G2 H2 x H3 hi hg gh hy => ?_⟩
        obtain ⟨rfl, rfl⟩ := hy
        exact ⟨G2, .refl gh, .int _⟩
theorem getD_of {α : Type} {ds : List α} {i : Nat} {d z : α} (h : ds[i]? = some d) : ds.getD i z = d := by
  rw [List.getD_eq_getElem?_getD, h]
  rfl
theorem ei_list {ds : List D} (h : EV K te ρ (.list ds)) : EI K (iSeqU K te) ρ ds.length (fun i => ds.getD i .none) := fun G0 H0 G H σ R E q =>
  h G0 H0 G H σ _ E fun v G1 H1 e1 hv => by
    cases hv with
    | @lst a xs _ ha hr =>
      refine .inl ⟨a, xs, rfl, SqL.of (e1.gh.lst ha), ?_⟩
      rw [← hr.length] at q
      refine q _ G1 H1 _ _ e1 (walk_list (K := K) (a := a)) (fun G2 H2 hg gh => SqL.of (gh.lst (hg _ _ ha))) fun i G2 H2 x H3 hi hg gh hy => ?_
      obtain ⟨rfl, hx⟩ := hy
      obtain ⟨d, hd, hq⟩ := hr.got hx
      exact ⟨G2, .refl gh, by show Dq K G2 x (ds.getD i .none); rw [getD_of hd]; exact hq.mono (GH.of hg)⟩
theorem ei_tup {ds : List D} (h : EV K te ρ (.tuple ds)) : EI K (iSeqU K te) ρ ds.length (fun i => ds.getD i .none) := fun G0 H0 G H σ R E q =>
  h G0 H0 G H σ _ E fun v G1 H1 e1 hv => by
    cases hv with
    | @tup a xs _ ha hr =>
      refine .inr (.inl ⟨a, xs, rfl, e1.gh.t ha, ?_⟩)
      rw [← hr.length] at q
      refine q _ G1 H1 _ _ e1 (walk_tup (K := K) (a := a)) (fun G2 H2 hg gh => gh.t ((GH.of hg).t ha)) fun i G2 H2 x H3 hi hg gh hy => ?_
      obtain ⟨rfl, hx⟩ := hy
      obtain ⟨d, hd, hq⟩ := hr.got hx
      exact ⟨G2, .refl gh, by show Dq K G2 x (ds.getD i .none); rw [getD_of hd]; exact hq.mono (GH.of hg)⟩
def chD (z : Str) (i : Nat) : D := .str ⟨#[z.cps.getD i 0]⟩
theorem ch_of {z : Str} {i c : Nat} (h : z.cps[i]? = some c) : chD z i = .str ⟨#[c]⟩ := by
  unfold chD
  rw [Array.getD_eq_getD_getElem?, h]
  rfl
theorem ei_str {z : Str} (h : EV K te ρ (.str z)) : EI K (iSeqU K te) ρ z.cps.size (chD z) := fun G0 H0 G H σ R E q =>
  h G0 H0 G H σ _ E fun v G1 H1 e1 hv => by
    cases hv
    refine .inr (.inr ⟨z, rfl, q _ G1 H1 _ _ e1 walk_str (fun _ _ _ _ => trivial) fun i G2 H2 x H3 hi hg gh hy => ?_⟩)
    obtain ⟨rfl, c, hc, rfl⟩ := hy
    exact ⟨G2, .refl gh, by rw [ch_of hc]; exact .str _⟩
theorem new_pair {G H : Hp} {T : Addr} {x y : V} {a b : D} (g : GH G H) (hT : H T = none) (hx : Dq K G x a) (hy : Dq K G y b) : ∃ G3, Ext G H G3 (upd H T (.tup [x, y])) ∧ Dq K G3 (.ref T) (.tuple [a, b]) :=
  ⟨_, .new g hT, .tup (SqT.of upd_same) (.cons (hx.mono (Ext.new g hT).g) (.cons (hy.mono (Ext.new g hT).g) .nil))⟩
theorem ei_enumL {t : TA} {ds : List D} (h : EA K t ρ [.list ds]) : EI K (iEnumU K t) ρ ds.length (fun i => .tuple [.int (i : Nat), ds.getD i .none]) := fun G0 H0 G H σ R E q =>
  h G0 H0 G H σ _ E fun v G1 H1 e1 hv => by
    cases hv with
    | cons a b =>
      cases b
      cases a with
      | @lst a xs _ ha hr =>
        refine .inl ⟨a, xs, rfl, SqL.of (e1.gh.lst ha), ?_⟩
        rw [← hr.length] at q
        refine q _ G1 H1 _ _ e1 (walk_enum (K := K) (a := a)) (fun G2 H2 hg gh => SqL.of (gh.lst (hg _ _ ha))) fun i G2 H2 x H3 hi hg gh hy => ?_
        obtain ⟨T, x1, y1, rfl, hT, rfl, h1, h2⟩ := hy
        cases h1
        obtain ⟨d, hd, hq⟩ := hr.got h2
        exact new_pair gh hT (.int _) (by rw [getD_of hd]; exact hq.mono (GH.of hg))
theorem walk_enumT {a : Addr} {xs : List V} : Walk (IteT K a) xs.length (fun H => SqT K H a xs) (YPair (fun i => some (.int (i : Nat))) (fun i => xs[i]?)) := by
  refine ⟨fun i _ hi q => ⟨xs, xs[i], q, by simp [hi]⟩, fun _ q => ⟨xs, q, Nat.le_refl _⟩, fun i H v H' _ q y => ?_⟩
  obtain ⟨T, x, y1, y2, y3, y4⟩ := y
  exact ⟨T, .int (i : Nat), x, y1, y2, y3, rfl, y4 xs q⟩
theorem walk_enumS {z : Str} : Walk (IteS z) z.cps.size (fun _ => True) (fun i H v H' => ∃ T c, v = .ref T ∧ H T = none ∧ H' = upd H T (.tup [.int (i : Nat), .str ⟨#[c]⟩]) ∧ z.cps[i]? = some c) :=
  ⟨fun _ _ hi _ => hi, fun _ _ => Nat.le_refl _, fun _ _ _ _ _ _ y => y⟩
theorem ei_enumT {t : TA} {ds : List D} (h : EA K t ρ [.tuple ds]) : EI K (iEnumU K t) ρ ds.length (fun i => .tuple [.int (i : Nat), ds.getD i .none]) := fun G0 H0 G H σ R E q =>
  h G0 H0 G H σ _ E fun v G1 H1 e1 hv => by
    cases hv with
    | cons a b =>
      cases b
      cases a with
      | @tup a xs _ ha hr =>
        refine .inr (.inl ⟨a, xs, rfl, e1.gh.t ha, ?_⟩)
        rw [← hr.length] at q
        refine q _ G1 H1 _ _ e1 (walk_enumT (K := K) (a := a)) (fun G2 H2 hg gh => gh.t ((GH.of hg).t ha)) fun i G2 H2 x H3 hi hg gh hy => ?_
        obtain ⟨T, x1, y1, rfl, hT, rfl, h1, h2⟩ := hy
        cases h1
        obtain ⟨d, hd, hq⟩ := hr.got h2
        exact new_pair gh hT (.int _) (by rw [getD_of hd]; exact hq.mono (GH.of hg))
theorem ei_enumS {t : TA} {z : Str} (h : EA K t ρ [.str z]) : EI K (iEnumU K t) ρ z.cps.size (fun i => .tuple [.int (i : Nat), chD z i]) := fun G0 H0 G H σ R E q =>
  h G0 H0 G H σ _ E fun v G1 H1 e1 hv => by
    cases hv with
    | cons a b =>
      cases b
      cases a
      refine .inr (.inr ⟨z, rfl, q _ G1 H1 _ _ e1 walk_enumS (fun _ _ _ _ => trivial) fun i G2 H2 x H3 hi hg gh hy => ?_⟩)
      obtain ⟨T, c, rfl, hT, rfl, hc⟩ := hy
      exact new_pair gh hT (.int _) (by rw [ch_of hc]; exact .str _)

/-! ### a comprehension -/
def wipeS (ρ : List Sl) : List Nat → List Sl
  | [] => ρ
  | v :: vs => (wipeS ρ vs).set v .no
theorem En.wipe {G0 H0 G H : Hp} {σ : St} (E : En K G0 H0 G H σ ρ) : ∀ vs : List Nat, En K G0 H0 G H (L2.wipe σ vs) (wipeS ρ vs)
  | [] => E
  | v :: vs => (En.wipe E vs).setX v none
theorem wipe_get {σ : St} {k : Nat} : ∀ {vs : List Nat}, (L2.wipe σ vs)[k]? = if k ∈ vs ∧ k < σ.length then some none else σ[k]?
  | [] => by simp [L2.wipe]
  | v :: vs => by
    unfold L2.wipe
    by_cases e : v = k
    · subst e
      by_cases h : v < σ.length
      · rw [List.getElem?_set_self (by rw [wipe_length]; exact h), if_pos ⟨List.mem_cons_self, h⟩]
      · rw [if_neg (fun z => h z.2), List.getElem?_eq_none (by rw [List.length_set, wipe_length]; omega), List.getElem?_eq_none (by omega)]
    · rw [List.getElem?_set_ne e, wipe_get (vs := vs)]
      by_cases h : k ∈ vs ∧ k < σ.length
      · rw [if_pos h, if_pos ⟨List.mem_cons_of_mem _ h.1, h.2⟩]
      · rw [if_neg h, if_neg fun z => h ⟨(List.mem_cons.mp z.1).resolve_left (Ne.symm e), z.2⟩]
theorem wipe_eq {σ σ' : St} {vs ts : List Nat} (hl : σ'.length = σ.length) (hk : ∀ k, k ∉ ts → σ'[k]? = (L2.wipe σ vs)[k]?) (hs : ∀ t ∈ ts, t ∈ vs) : L2.wipe σ' vs = L2.wipe σ vs := by
  refine List.ext_getElem? fun k => ?_
  rw [wipe_get, hl]
  by_cases h : k ∈ vs ∧ k < σ.length
  · rw [if_pos h, wipe_get, if_pos h]
  · rw [if_neg h]
    by_cases hv : k ∈ vs
    · have : ¬ k < σ.length := fun z => h ⟨hv, z⟩
      rw [List.getElem?_eq_none (by omega), List.getElem?_eq_none (by rw [wipe_length]; omega)]
    · exact hk k fun z => hv (hs k z)
/-- what a comprehension gives: the value at each turn that passes -/
def lcD : Nat → (Nat → Bool) → (Nat → D) → List D
  | 0, _, _ => []
  | n + 1, b, f => if b n = true then lcD n b f ++ [f n] else lcD n b f
theorem lcD_len (b : Nat → Bool) (f : Nat → D) : ∀ n, (lcD n b f).length ≤ n
  | 0 => Nat.le_refl _
  | n + 1 => by
    unfold lcD
    have := lcD_len b f n
    split
    · rw [List.length_append]
      exact Nat.succ_le_succ this
    · omega
theorem en_lc {wi : TI} {g : TG} {vs : List Nat} {n : Nat} {item : Nat → D} {b : Nat → Bool} {f : Nat → D} (hi : EI K wi ρ n item) (hn : n ≤ 16000000)
    (hs : ∀ i, i < n → ∃ ρ2 ts, GT K g (wipeS ρ vs) (item i) ρ2 ts ∧ (∀ t ∈ ts, t ∈ vs) ∧ ET K tt ρ2 (b i) ∧ (b i = true → EV K te ρ2 (f i))) :
    EVN K (tLc wi g tt te vs) ρ (.list (lcD n b f)) := fun G0 H0 G H σ Q E q =>
  hi G0 H0 G H σ _ E fun J G1 H1 Gd Y x w hG hY Dl hD => by
    have E1 := E.go x
    have hH : H Dl = none := by
      cases w : H Dl with
      | none => rfl
      | some o => have := x.hh _ _ w; rw [hD] at this; cases this
    have hG1 : G1 Dl = none := x.gh.none hD
    refine lc_it w (fun i H' => ∃ G' vl, Ext G1 H1 G' H' ∧ G' Dl = none ∧ H' Dl = some (.lst vl) ∧ DqA K G' vl (lcD i b f)) ⟨G1, [], .fresh x.gh hD, hG1, upd_same, .nil⟩ (fun i H' _ ⟨G', vl, e, _⟩ => hG G' H' e.gg e.gh) (fun i y H' H3 hlt ⟨G', vl, e, n1, h1, r1⟩ hy => ?_)
      (fun H' ⟨G', vl, e, n1, h1, r1⟩ => q Dl G' H' (x.trans e) hH n1 (.lst h1 r1))
    obtain ⟨G3, x3, hdq⟩ := hY i G' H' y H3 hlt e.gg e.gh hy
    obtain ⟨ρ2, ts, hg, hts, ht, he⟩ := hs i hlt
    have E3 : En K G0 H0 G3 H3 (L2.wipe σ vs) (wipeS ρ vs) := ((E1.go e).go x3).wipe vs
    have n3 : G3 Dl = none := x3.own _ _ h1 n1
    refine hg G0 H0 G3 H3 _ y _ E3 hdq fun σ2 E2 hl hk => ⟨wipe_eq (by rw [hl, wipe_length]) hk hts, ?_⟩
    refine ht G0 H0 G3 H3 σ2 _ E2 fun G4 H4 x4 => ?_
    have h4 : H4 Dl = some (.lst vl) := x4.hh _ _ (x3.hh _ _ h1)
    have n4 : G4 Dl = none := x4.own _ _ (x3.hh _ _ h1) n3
    have r4 : DqA K G4 vl (lcD i b f) := (r1.mono x3.g).mono x4.g
    have e4 : Ext G1 H1 G4 H4 := (e.trans x3).trans x4
    cases hb : b i with
    | false =>
      rw [if_neg Bool.false_ne_true]
      refine ⟨G4, vl, e4, n4, h4, ?_⟩
      unfold lcD
      rw [if_neg (by rw [hb]; exact Bool.false_ne_true)]
      exact r4
    | true =>
      rw [if_pos rfl]
      refine he hb G0 H0 G4 H4 σ2 _ (E2.go x4) fun u G5 H5 x5 hu => ?_
      have h5 := x5.hh _ _ h4
      have n5 := x5.own _ _ h4 n4
      have hlen := lcD_len b f i
      have hl2 := r4.length
      refine ⟨vl, h5, by rw [hl2, sizeLine_eq]; omega, G5, vl ++ [u], ?_, n5, upd_same, ?_⟩
      · have e5 := e4.trans x5
        refine ⟨e5.gg, fun a o ha => ?_, fun a o ha => ?_, e5.own⟩
        · rw [upd_ne (ne_of_none ha hD)]; exact e5.hh a o ha
        · have ne : a ≠ Dl := ne_of_none ha n5
          rw [upd_ne ne]
          exact e5.gh a o ha
      · have hb' : lcD (i + 1) b f = lcD i b f ++ [f i] := by
          show (if b i = true then lcD i b f ++ [f i] else lcD i b f) = _
          rw [if_pos hb]
        rw [hb']
        exact (r4.mono x5.g).append (.one hu)
theorem et_yes : ET K tYes ρ true := fun _ _ G H _ _ E q => q G H (.refl E.gh)

/-! ### built-ins -/
theorem cd_lenS {z : Str} (h : z.length ≤ sizeLine) : CD K (rLen K) [.str z] (.int z.length) := fun xs G H Q g hx q => by
  cases hx with
  | cons a b =>
    cases a
    cases b
    exact ⟨_, z.length, rfl, ⟨h, rfl⟩, q _ G H (.refl g) (.int _)⟩
theorem cd_lenL {ds : List D} : CD K (rLen K) [.list ds] (.int ds.length) := fun xs G H Q g hx q => by
  cases hx with
  | cons a b =>
    cases b
    cases a with
    | @lst a xs _ ha hr => exact ⟨_, xs.length, rfl, .inl ⟨xs, SqL.of (g.lst ha), rfl⟩, by rw [hr.length]; exact q _ G H (.refl g) (.int _)⟩
theorem cd_lenT {ds : List D} : CD K (rLen K) [.tuple ds] (.int ds.length) := fun xs G H Q g hx q => by
  cases hx with
  | cons a b =>
    cases b
    cases a with
    | @tup a xs _ ha hr => exact ⟨_, xs.length, rfl, .inr ⟨xs, g.t ha, rfl⟩, by rw [hr.length]; exact q _ G H (.refl g) (.int _)⟩
theorem ev_lenO {n : Nat} {ds : List D} (hi : ρ[n]? = some (.ow (.list ds))) : EV K (tCB (rLen K) (tCons (tVar n) tNil)) ρ (.int ds.length) := fun G0 H0 G H σ Q E q => by
  obtain ⟨l, vs, h1, h2, h3⟩ := own_look E hi
  exact ⟨_, h1, _, vs.length, rfl, .inl ⟨vs, SqL.of h2, rfl⟩, by rw [h3.length]; exact q _ G H (.refl E.gh) (.int _)⟩
def rIntU : List V → Hp → VK → Prop := fun xs H Q => (∃ i, xs = [.int i] ∧ Q (.int i) H) ∨ ∃ k, xs = [.bl k] ∧ Q (.int (if k then 1 else 0)) H
theorem cd_int {i : Int} : CD K rIntU [.int i] (.int i) := fun xs G H Q g hx q => by
  cases hx with
  | cons a b =>
    cases a
    cases b
    exact .inl ⟨i, rfl, q _ G H (.refl g) (.int _)⟩
/-- a datum's type -/
def tyD : D → String
  | .none => "NoneType"
  | .bool _ => "bool"
  | .int _ => "int"
  | .str _ => "str"
  | .list _ => "list"
  | .tuple _ => "tuple"
  | .dict _ => "dict"
def isDicD : D → Bool
  | .dict _ => true
  | _ => false
theorem ty_dq {G H : Hp} {v : V} (g : GH G H) (h : Dq K G v d) (nd : isDicD d = false) : TyX K H v (.type (tyD d)) := by
  cases h with
  | non => exact .base .non
  | bl b => exact .base (.bl b)
  | int i => exact .base (.int i)
  | str x => exact .base (.str x)
  | lst a b => exact .base (.lst (g.lst a))
  | tup a b =>
    rcases g.t a with (h | ⟨o, h⟩) | ⟨o, its, n, h, c, _⟩
    · exact .base (.tup h)
    · exact .fTuple h
    · exact .kTuple h c
  | dK _ _ => cases nd
  | dT _ _ => cases nd
  | scr _ => cases nd
theorem ev_isi {T : String} {b : Bool} (h : EV K ta ρ d) (nd : isDicD d = false) (hk : kitB (tyD d) T = some b) : EV K (tCB (rIsi K) (tCons ta (tCons (tC (.ty T)) tNil))) ρ (.bool b) := fun G0 H0 G H σ Q E q =>
  h G0 H0 G H σ _ E fun v G1 H1 e1 h1 => ⟨v, .ty T, .type (tyD d), .type T, b, rfl, .ty T, ty_dq e1.gh h1 nd, kit_ty hk, q _ G1 H1 e1 (.bl b)⟩
/-- xs.append(e), xs the owned list of slot n -/
theorem st_append {n : Nat} {ds : List D} (hi : ρ[n]? = some (.ow (.list ds))) (h : EV K te ρ d) (hz : ds.length < 16000000) (q : P (.nx (ρ.set n (.ow (.list (ds ++ [d])))))) :
    ST K Ex (tDrop (tBM K "list" rAppend (tVar n) (tCons te tNil))) ρ P := fun G0 H0 G H σ D E f => by
  obtain ⟨l, vs, h1, h2, h3⟩ := own_look E hi
  refine ⟨_, h1, .inl ⟨rfl, vs, SqL.of h2⟩, h G0 H0 G H σ _ E fun v G1 H1 e1 hv => ?_⟩
  have h4 := e1.hh _ _ h2
  have r4 := h3.mono e1.g
  exact ⟨l, vs, v, rfl, rfl, h4, by rw [h3.length, sizeLine_eq]; omega, f.nx _ _ _ _ q ((E.go e1).write hi h1 (.lst upd_same (r4.append (.one hv))))⟩
/-- xs[i] = e -/
theorem st_setL {n : Nat} {ds : List D} {i : Int} {j : Nat} (hi : ρ[n]? = some (.ow (.list ds))) (h : EV K te ρ d) (hb : EV K tb ρ (.int i)) (hj : ixN ds.length i = some j) (q : P (.nx (ρ.set n (.ow (.list (ds.set j d)))))) :
    ST K Ex (tAsg te (gSub (tVar n) tb rSetL)) ρ P := fun G0 H0 G H σ D E f =>
  h G0 H0 G H σ _ E fun v G1 H1 e1 hv => by
    obtain ⟨l, vs, h1, h2, h3⟩ := own_look (E.go e1) hi
    refine ⟨_, h1, hb G0 H0 G1 H1 σ _ (E.go e1) fun y G2 H2 e2 hy => ?_⟩
    cases hy
    have h4 := e2.hh _ _ h2
    have r4 := h3.mono e2.g
    exact ⟨l, vs, i, j, rfl, rfl, h4, by rw [h3.length]; exact hj, f.nx _ _ _ _ q (((E.go e1).go e2).write hi h1 (.lst upd_same (r4.set j (hv.mono e2.g))))⟩
/-- x += e -/
def rIAddU : R2 := fun x y H Q => rI0 (fun i j => .int (i + j)) x y H Q ∨ (fun x y H Q => (∃ i j, x = .str i ∧ y = .str j ∧ i.length + j.length ≤ sizeLine ∧ Q (.str (i ++ j)) H) ∨ rExt2 x y H Q) x y H Q
theorem ip_addU {X : Cx} : PIp X .Add rIAddU := iop_add.or (iop_add_str.or iop_ext)
theorem st_augI {n : Nat} {a b : Int} (hi : ρ[n]? = some (.fr (.int a))) (h : EV K te ρ (.int b)) (q : P (.nx (ρ.set n (.fr (.int (a + b)))))) : ST K Ex (tAug n te rIAddU) ρ P := fun G0 H0 G H σ D E f => by
  obtain ⟨v, h1, h2⟩ := E.fr n _ hi
  cases h2
  refine ⟨_, h1, h G0 H0 G H σ _ E fun y G1 H1 e1 hy => ?_⟩
  cases hy
  exact .inl ⟨a, b, rfl, rfl, f.nx _ _ _ _ q ((E.go e1).setF n (.int _))⟩
theorem st_augO {n : Nat} {ds es : List D} (hi : ρ[n]? = some (.ow (.list ds))) (h : EV K te ρ (.list es)) (hz : ds.length + es.length ≤ 16000000) (q : P (.nx (ρ.set n (.ow (.list (ds ++ es)))))) :
    ST K Ex (tAug n te rIAddU) ρ P := fun G0 H0 G H σ D E f => by
  obtain ⟨l, vs, h1, h2, h3⟩ := own_look E hi
  refine ⟨_, h1, h G0 H0 G H σ _ E fun y G1 H1 e1 hy => ?_⟩
  cases hy with
  | @lst b xs _ hb hr =>
    have h4 := e1.hh _ _ h2
    have r4 := h3.mono e1.g
    refine .inr (.inr ⟨l, b, vs, xs, rfl, rfl, h4, e1.gh.lst hb, by rw [h3.length, hr.length, sizeLine_eq]; omega, ?_⟩)
    have E2 := (E.go e1).write hi h1 (.lst (upd_same (H := H1) (a := l) (o := .lst (vs ++ xs))) (r4.append hr))
    have E3 := f.nx _ σ G1 _ q E2
    have : σ.set n (some (V.ref l)) = σ := by
      refine List.ext_getElem? fun k => ?_
      by_cases e : n = k
      · subst e
        rw [List.getElem?_set_self (List.getElem?_eq_some_iff.mp h1).1, h1]
      · rw [List.getElem?_set_ne e]
    show D.nx (σ.set n (some (V.ref l))) _
    rw [this]
    exact E3

/-! ### own defs -/
/-- what a def answers, by data -/
def PF (K : PySem.W.Frag) (R : List D → D → Prop) : Sp := fun vs H Q _ => ∃ G ds d, GH G H ∧ DqA K G vs ds ∧ R ds d ∧ ∀ v G' H', Ext G H G' H' → Dq K G' v d → Q v H'
theorem ev_call {R : List D → D → Prop} {t : TA} {ds : List D} (h : EA K t ρ ds) (hr : R ds d) : EV K (tCall (PF K R) [] Ex t) ρ d := fun G0 H0 G H σ Q E q =>
  h G0 H0 G H σ _ E fun vs G1 H1 e1 h1 => by
    rw [List.append_nil]
    exact ⟨G1, ds, d, e1.gh, h1, hr, fun v G2 H2 e2 h2 => q v G2 H2 (e1.trans e2) h2⟩
/-- the slots at a def's entry -/
def start0 (n : Nat) (ds : List D) : List Sl := ds.map Sl.fr ++ List.replicate (n - ds.length) Sl.no
theorem start0_get {n i : Nat} {ds : List D} {sl : Sl} (e : (start0 n ds)[i]? = some sl) : (∃ d, ds[i]? = some d ∧ sl = .fr d) ∨ sl = .no := by
  unfold start0 at e
  rw [List.getElem?_append] at e
  split at e
  · rw [List.getElem?_map] at e
    cases e2 : ds[i]? with
    | none => rw [e2] at e; cases e
    | some d' => rw [e2] at e; cases e; exact .inl ⟨d', rfl, rfl⟩
  · rw [List.getElem?_replicate] at e
    split at e
    · cases e; exact .inr rfl
    · cases e
theorem en_start {G H : Hp} {vs : List V} {ds : List D} {N : List Str} (g : GH G H) (h : DqA K G vs ds) : En K G H G H (L2.start N vs) (start0 N.length ds) := by
  have hl := h.length
  refine ⟨?_, .refl g, fun i d e => ?_, fun i d e => ?_, fun i a dd fl e => ?_, fun i j d e l q => ?_⟩
  · unfold L2.start start0
    rw [List.length_append, List.length_append, List.length_map, List.length_map, List.length_replicate, List.length_replicate, hl]
  · rcases start0_get e with ⟨d', e2, e3⟩ | e3
    · cases e3
      obtain ⟨v, h1, h2⟩ := h.get e2
      refine ⟨v, ?_, h2⟩
      unfold L2.start
      rw [List.getElem?_append_left (by rw [List.length_map]; exact (List.getElem?_eq_some_iff.mp h1).1), List.getElem?_map, h1]
      rfl
    · cases e3
  · rcases start0_get e with ⟨d', e2, e3⟩ | e3 <;> cases e3
  · rcases start0_get e with ⟨d', e2, e3⟩ | e3 <;> cases e3
  · rcases start0_get q with ⟨d', e2, e3⟩ | e3 <;> cases e3
end
section
open PySem.Spec PyProof.Rows
variable {P : Program} {w : World} {K : PySem.W.Frag} {mg : Str → Option Value} {base : Heap}
/-- a def that raises nothing keeps its word, by its body's -/
theorem fn_pf {x qual : Str} {params : Arguments} {body : List Stmt} {scope : Scope} {f : Addr} {fd : FuncData} {N ps : List Str} {k : Nat} {R : List D → D → Prop} (F : FunD K x qual params body scope [] [] f fd) (S : FnScope N ps scope)
    (len : ∀ ds d, R ds d → ds.length = ps.length)
    (hb : ∀ (cdv : Value) (A : Around) (outer : List PySem.Env) (s : Shared) (H : Hp) (E : XK), Room k (A.deeper (envOfC qual scope s.heap.objs.size f cdv)) →
      ∃ t, PSs (cxOf CX0 P w K mg base N qual scope f cdv A outer s H E) body t ∧ ∀ ds d, R ds d → DL.ST K E0 t (start0 N.length ds) (fun o => o = .rt d ∨ (d = .none ∧ ∃ ρ, o = .nx ρ))) : FnOk P w K mg base CX0 (k + 1) f fd ps (PF K R) := by
  refine F.ok S (fun vs H Q E h => ?_) (fun cdv A outer s H vs Q E hr h => ?_)
  · obtain ⟨G, ds, d, g, ha, hR, q⟩ := h
    exact ha.length.trans (len ds d hR)
  · obtain ⟨t, h1, h2⟩ := hb cdv A outer s H E hr
    obtain ⟨G, ds, d, g, ha, hR, q⟩ := h
    refine ⟨t, h1, h2 ds d hR G H G H _ _ (en_start g ha) ⟨fun ρ' σ' G' H' p E' => ?_, fun d' v G' H' p x hv => ?_, fun ρ' σ' G' H' p E' => ?_, fun ρ' σ' G' H' p E' => ?_, fun C fl dd fs G' H' p => ?_⟩⟩
    · rcases p with p | ⟨rfl, _⟩
      · cases p
      · exact q _ G' H' E'.ext .non
    · rcases p with p | ⟨rfl, ρ, p⟩
      · cases p
        exact q v G' H' x hv
      · cases p
    · rcases p with p | ⟨_, _, p⟩ <;> cases p
    · rcases p with p | ⟨_, _, p⟩ <;> cases p
    · rcases p with p | ⟨_, _, p⟩ <;> cases p
end
end DL

set_option maxHeartbeats 1000000
/-! DL7: exceptions of own classes with fields: made, raised, caught, asked, by data. -/
namespace PySem.W
open PySem PySem.Spec PySem.Calls PyProof.Rows
section
variable {prog : Program} {w : World} {A : Around} {E : Value → Shared → Prop} {s : Shared} {K : Frag} {x D : Addr} {ox : Obj} {od : Option Obj}
theorem dl_findObj {C : Addr} {name : Str} {a g : Value} (od : Option Obj) (hc : (clsIn K C).isSome = true) (ha : findIn K (.ref C) name = some (some a)) (hg : specialIn K a "__get__" = some (some g)) (ht : takesIn K a = some true) : findObj K C od name = some (.bind g a) := by
  obtain ⟨cd, q⟩ := Option.isSome_iff_exists.mp hc
  unfold findObj
  rw [q, Option.bind_some, ha, Option.bind_some]
  simp [hg, ht]
theorem dl_class {Q : Option Value → Shared → Prop} (C : L2.ExcC K D) (X : K.In s.heap) (I : InstAt s.heap x ox D od) (h : Q (some (.ref D)) { s with toks := s.toks + 1 }) : wpAny (model prog w) A (getAttr? (.ref x) "__class__") Q E s := by
  have hf : findObj K D od "__class__" = some (.bind (.builtin "getset_descriptor.__get__") (.builtin "object.__class__")) := dl_findObj od (by obtain ⟨cd, hc, _⟩ := any_some C.hd; rw [hc]; rfl) C.ha C.hn C.ht
  obtain ⟨hp, g, d, t, os⟩ := s
  have T0 := I.type (M := model prog w)
  have T1 := looks_findIn (M := model prog w) X C.hg
  have T2 := looks_findIn (M := model prog w) X C.hk
  have T3 := looks_find (M := model prog w) X I hf
  have sub : Looks (model prog w) hp (isInstance (.ref x) (.type "BaseException")) true := T0.andThen (looks_subIn X C.hs)
  have e0 : (false && onTheHeap (Value.builtin "BaseException.__getattribute__")) = false := rfl
  have e2 : (Value.builtin "BaseException.__getattribute__" == Value.builtin "object.__getattribute__") = false := by decide +kernel
  have e1 : (onTheHeap (Value.ref D) && Value.builtin "BaseException.__getattribute__" == Value.builtin "object.__getattribute__") = false := by rw [e2]; rfl
  unfold getAttr? getAttrBy? getAttrBy
  refine wpAny_bind (wpAny_mkText (wpAny_bind (wpAny_attempt (wpAny_holding (wpAny_bind (T0.at (wpAny_bind (T1.at ?_))))))))
  show wpAny _ _ (if (onTheHeap (Value.ref D) && Value.builtin "BaseException.__getattribute__" == Value.builtin "object.__getattribute__") = true then _ else _) _ _ _
  rw [e1, if_neg Bool.false_ne_true]
  unfold getAttrByItsOwn hookBefore
  refine wpAny_bind ?_
  rw [if_pos (show onTheHeap (Value.ref D) = true from rfl)]
  refine T2.at ?_
  refine wpAny_bind (wpAny_attempt (wpAny_holding ?_))
  unfold callGetattribute
  rw [e0, if_neg Bool.false_ne_true]
  unfold boundAndCalled
  rw [PySem.F.excAttr_ValueError.ga.bind (.ref x)]
  refine wpAny_bind (wpAny_pure ?_)
  show wpAny _ _ (call (.builtin "BaseException.__getattribute__") [.ref x, .str "__class__" t]) _ _ _
  refine wpAny_call (codeAny_call_builtin PySem.F.excAttr_ValueError.ga.plain PySem.F.entry_bexc_ga ?_)
  refine @check_slot (model prog w) _ _ ⟨hp, g, d, t + 1, os⟩ "BaseException.__getattribute__" "BaseException" "__getattribute__" (.ref x) [.str "__class__" t] [] _ (by decide +kernel) (by decide +kernel) sub (PySem.F.args_bexc_ga (.ref x) (.str "__class__" t)) ?_
  unfold Builtin.«object.__getattribute__»
  refine wpAny_bind (wpAny_of_eq (a := ((Value.ref x : Value), [Value.str "__class__" t])) (by first | rfl | (simp only [slotArgs]; rfl)) ?_)
  refine wpAny_bind (wpAny_pure (wpAny_bind (T0.at (wpAny_bind (T3.at ?_)))))
  show wpAny _ _ (holding [Value.builtin "object.__class__"] (call (.builtin "getset_descriptor.__get__") [.builtin "object.__class__", .ref x, .ref D]) >>= ret) _ _ _
  refine wpAny_bind (wpAny_holding (wpAny_call (class_get (s := ⟨hp, g, d, t + 1, os⟩) (ox := ox) (od := od) X I C.hm ?_)))
  refine wpAny_pure ?_
  show wpAny _ _ (handedOut (.ref D)) _ _ _
  rw [handedOut_of (v := .ref D) rfl]
  first
    | exact wpAny_pure (wpAny_pure h)
    | exact wpAny_pure h
    | exact wpAny_pure (wpAny_bind (wpAny_pure (wpAny_pure h)))
theorem dl_kitx (C : L2.ExcC K D) : KitX K (.ref x) (.ref D) (fun h => InstAt h x ox D od) where
  ty := fun _ _ _ I => I.type
  it := fun _ _ X _ => by
    obtain ⟨cdD, hcD, _⟩ := any_some C.hd
    unfold clsIn at hcD
    split at hcD
    · rename_i c' d' cd' sl' ho
      intro A' Q' E' s' k q
      unfold isType loadHead
      exact wpAny_bind (wpAny_loadPart (k _ _ (X _ _ ho)) (wpAny_pure q))
    · cases hcD
  ne := fun h tp dd its n sl X htp => by
    obtain ⟨cdD, hcD, _⟩ := any_some C.hd
    refine Bool.eq_false_iff.mpr fun q => ?_
    have e : D = tp := Value.ref.inj (beq_iff_eq.mp q)
    subst e
    unfold clsIn at hcD
    split at hcD
    · rename_i c' d' cd' sl' ho
      have z := (X _ _ ho).symm.trans htp
      cases z
    · cases hcD
  ca := fun X I k => dl_class C X I k
end
end PySem.W

namespace DL
open PySem L2 PySem.Spec PyProof.Rows
/-- isinstance(e, c), e the exception (with a dict of its own) that the suite holds -/
def rIsX (K : PySem.W.Frag) (cls : Value) (d : Option Addr) (a : Addr) : List V → Hp → VK → Prop := fun xs H Q => ∃ (c : V) (cv : Value) (b : Bool) (D dd : Addr) (fs : List (Str × V)),
  xs = [.ref a, c] ∧ cls = .ref D ∧ d = some dd ∧ H dd = some (.xd fs) ∧ ExcC K D ∧ (∀ u, RelV c u → u = cv) ∧ PySem.W.kitOne K (.ref D) cv = some b ∧ Q (.bl b) H
theorem call_isX {X : Cx} {a : Addr} {cls : Value} {d : Option Addr} {oe : Obj} {pn : List (Addr × Obj)} (hz : Zc cls d oe) (hf : ∃ vs, oe.data = .fields vs) : CallR (X.suite a ((a, oe) :: pn)) (.builtin "isinstance") (rIsX X.K cls d a) := by
  intro pins s σ H xs us Q I r h
  obtain ⟨c, cv, b, D, dd, fs, rfl, rfl, rfl, hdd, hC, hcv, e, q⟩ := h
  cases r with
  | cons rx rr =>
    cases rr with
    | cons rt rr =>
      cases rr
      cases rx
      have ec := hcv _ rt
      subst ec
      obtain ⟨hget, _⟩ := I.pin (a, oe) (List.mem_append.mpr (.inl List.mem_cons_self))
      obtain ⟨vs, hv⟩ := hf
      have hx : ObjOk X.prog X.w H s.heap dd (.xd fs) := I.hok dd _ hdd
      obtain ⟨mA, hns, _⟩ := hx
      obtain ⟨o1, ho1, _⟩ := lookIn_ns hns
      have J : PySem.W.InstAt s.heap a oe D (some o1) := ⟨hget, hz.1, by unfold PySem.W.notCls; rw [hv] <;> rfl, by rw [hz.2]; exact ho1⟩
      exact PySem.W.kia_one (PySem.W.dl_kitx hC) I.kIn J e (fun z => nomatch z) fun tk => ⟨.bl b, H, I.kept (t' := tk) fun _ _ z => z, rfl, q⟩

section
variable {K : PySem.W.Frag} {ρ : List Sl} {ta te : TE} {d : D} {P : Oc → Prop} {Ex : XK}
/-- what an __init__ that stores its arguments, each under its name, keeps -/
def spI (K : PySem.W.Frag) (C : Addr) (fls : List Str) : Sp := fun vs H Q _ => ∃ (a : Addr) (ys : List V), vs = .ref a :: ys ∧ ys.length = fls.length ∧ H a = some (exo a C none) ∧
  ∀ d H2, H d = none → d ≠ a → H2 a = some (exo a C (some d)) → H2 d = some (exd d (fls.zip ys).reverse) → (∀ b, b ≠ a → b ≠ d → H2 b = H b) → Q .non H2
/-- raise C(e, ..) -/
theorem st_raise {C : Addr} {fls : List Str} {t : TA} {ds : List D} (h : EA K t ρ ds) (hl : ds.length = fls.length) (hl2 : ds.length ≤ 1000) (q : P (.ex C (fls.zip ds).reverse)) :
    ST K Ex (fun _ σ H => tMkO C (spI K C fls) [] t σ H fun cls d H' => (fun (cls : Value) (d : Option Addr) (_ : L2.St) (H : Hp) => Ex cls d H) cls d σ H') ρ P := fun G0 H0 G H σ D E f =>
  h G0 H0 G H σ _ E fun vs G1 H1 e1 h1 => ⟨by rw [h1.length]; exact hl2, fun a ha => by
    rw [List.append_nil]
    refine ⟨a, vs, rfl, by rw [h1.length]; exact hl, upd_same, fun d H2 hd hda ea ed keep => ⟨rfl, d, (fls.zip vs).reverse, ea, ed, ?_, ?_⟩⟩
    · rw [upd_ne hda] at hd; exact hd
    · have hd1 : H1 d = none := by rw [upd_ne hda] at hd; exact hd
      have x : Ext G1 H1 (upd G1 d (.xd (fls.zip vs).reverse)) (upd (del H2 a) d (.xd (fls.zip vs).reverse)) := by
        have gd : G1 d = none := e1.gh.none hd1
        have ga : G1 a = none := e1.gh.none ha
        have old : ∀ b o, H1 b = some o → del H2 a b = some o := fun b o hb => by
          have n1 : b ≠ a := ne_of_none hb ha
          have n2 : b ≠ d := ne_of_none hb hd1
          rw [del_ne n1, keep b n1 n2, upd_ne n1]
          exact hb
        refine ⟨fun b o hb => by rw [upd_ne (ne_of_none hb gd)]; exact hb, fun b o hb => by rw [upd_ne (ne_of_none hb hd1)]; exact old b o hb, fun b o hb => ?_, fun b o hb n => by rw [upd_ne (ne_of_none hb hd1)]; exact n⟩
        by_cases hbd : b = d
        · subst hbd
          rw [upd_same] at hb
          exact .inl (by rw [upd_same]; exact hb)
        · rw [upd_ne hbd] at hb
          rw [upd_ne hbd]
          have n1 : b ≠ a := ne_of_none hb ga
          rw [del_ne n1, keep b n1 hbd, upd_ne n1]
          exact e1.gh b o hb
      refine f.ex C _ d _ _ _ q (E.ext.trans (e1.trans x)) upd_same ?_
      have h2 := h1.mono x.g
      have hlen := h1.length
      refine ⟨?_, ?_⟩
      · rw [List.map_reverse, List.map_reverse, List.map_fst_zip (by omega), List.map_fst_zip (by omega)]
      · rw [List.map_reverse, List.map_reverse, List.map_snd_zip (by omega), List.map_snd_zip (by omega)]
        exact h2.rev⟩
/-- a def that may raise: it answers d where R tells so, it raises C with the fields fl where Y tells so -/
def PX (K : PySem.W.Frag) (R : List D → D → Prop) (Y : List D → Addr → List (Str × D) → Prop) : Sp := fun vs H Q E => ∃ G ds, GH G H ∧ DqA K G vs ds ∧
  ((∃ d, R ds d ∧ ∀ v G' H', Ext G H G' H' → Dq K G' v d → Q v H') ∨ (∃ C fl, Y ds C fl ∧ ∀ dd fs G' H', Ext G H G' H' → G' dd = some (.xd fs) → DqF K G' fs fl → E (.ref C) (some dd) H'))
/-- a call in a def that lets the callee's exception out -/
theorem st_asgX {R : List D → D → Prop} {Y : List D → Addr → List (Str × D) → Prop} {t : TA} {ds : List D} {j : Nat} (h : EA K t ρ ds) (hr : (∃ d, R ds d ∧ P (.nx (ρ.set j (.fr d)))) ∨ (∃ C fl, Y ds C fl ∧ P (.ex C fl))) :
    ST K Ex (tAsg (tCallS (PX K R Y) (fun _ => Ex) t) (gName j)) ρ P := fun G0 H0 G H σ D E f =>
  h G0 H0 G H σ _ E fun vs G1 H1 e1 h1 => by
    have E1 := E.go e1
    rcases hr with ⟨d, hd, q⟩ | ⟨C, fl, hY, q⟩
    · exact ⟨G1, ds, e1.gh, h1, .inl ⟨d, hd, fun v G2 H2 x hv => f.nx _ _ G2 H2 q ((E1.go x).setF j hv)⟩⟩
    · exact ⟨G1, ds, e1.gh, h1, .inr ⟨C, fl, hY, fun dd fs G2 H2 x hx hf => f.ex C fl dd fs G2 H2 q (E1.ext.trans x) hx hf⟩⟩
theorem st_retX {R : List D → D → Prop} {Y : List D → Addr → List (Str × D) → Prop} {t : TA} {ds : List D} (h : EA K t ρ ds) (hr : (∃ d, R ds d ∧ P (.rt d)) ∨ (∃ C fl, Y ds C fl ∧ P (.ex C fl))) :
    ST K Ex (tRet (tCallS (PX K R Y) (fun _ => Ex) t)) ρ P := fun G0 H0 G H σ D E f =>
  h G0 H0 G H σ _ E fun vs G1 H1 e1 h1 => by
    have E1 := E.go e1
    rcases hr with ⟨d, hd, q⟩ | ⟨C, fl, hY, q⟩
    · exact ⟨G1, ds, e1.gh, h1, .inl ⟨d, hd, fun v G2 H2 x hv => f.rt _ _ G2 H2 q (E1.ext.trans x) hv⟩⟩
    · exact ⟨G1, ds, e1.gh, h1, .inr ⟨C, fl, hY, fun dd fs G2 H2 x hx hf => f.ex C fl dd fs G2 H2 q (E1.ext.trans x) hx hf⟩⟩
/-- the ends of an except suite: slot i is forgotten -/
def suiP (i : Nat) (P : Oc → Prop) : Oc → Prop
  | .nx ρ => P (.nx (ρ.set i .no))
  | .ct ρ => P (.ct (ρ.set i .no))
  | .bk ρ => P (.bk (ρ.set i .no))
  | .rt d => P (.rt d)
  | .ex _ _ => False
/-- try: x = f(..) / except X as n: suite -/
theorem st_tryAsg {R : List D → D → Prop} {Y : List D → Addr → List (Str × D) → Prop} {t : TA} {ds : List D} {i j : Nat} {c : Value} {ts : Addr → Value → Option Addr → TS} {Wout : WX} (h : EA K t ρ ds)
    (hr : (∃ d, R ds d ∧ P (.nx (ρ.set j (.fr d)))) ∨
      (∃ C fl, Y ds C fl ∧ PySem.W.exmOne K (.ref C) c = some true ∧ ∀ a dd, ST K E0 (ts a (.ref C) (some dd)) (ρ.set i (Sl.ex a dd fl)) (suiP i P))) :
    ST K Ex (fun D σ H => tAsg (tCallS (PX K R Y) (WE (wAs K c i ts Wout D)) t) (gName j) D σ H) ρ P := fun G0 H0 G H σ D E f =>
  h G0 H0 G H σ _ E fun vs G1 H1 e1 h1 => by
    have E1 := E.go e1
    rcases hr with ⟨d, hd, q⟩ | ⟨C, fl, hY, he, q⟩
    · exact ⟨G1, ds, e1.gh, h1, .inl ⟨d, hd, fun v G2 H2 x hv => f.nx _ _ G2 H2 q ((E1.go x).setF j hv)⟩⟩
    · refine ⟨G1, ds, e1.gh, h1, .inr ⟨C, fl, hY, fun dd fs G2 H2 x hx hf => ⟨true, he, fun _ a ha => ?_, fun z => nomatch z⟩⟩⟩
      exact q a dd G0 H0 G2 H2 _ _ ((E1.go x).setE i hx hf) ⟨fun ρ' σ' G' H' p E' => f.nx _ _ G' H' p (E'.setX i none), fun d v G' H' p x hd => f.rt d v G' H' p x hd,
        fun ρ' σ' G' H' p E' => f.bk _ _ G' H' p (E'.setX i none), fun ρ' σ' G' H' p E' => f.ct _ _ G' H' p (E'.setX i none), fun C fl dd fs G' H' p => p.elim⟩
/-- e.f of a caught exception -/
theorem ev_xf {n : Nat} {a dd C : Addr} {fl : List (Str × D)} {f : Str} (hn : ρ[n]? = some (Sl.ex a dd fl)) (hf : fl.lookup f = some d) : EV K (tXf a (.ref C) (some dd) C f (tVar n)) ρ d := fun G0 H0 G H σ Q E q => by
  obtain ⟨h1, fs, h2, h3⟩ := E.ex n a dd fl hn
  obtain ⟨v, h4, h5⟩ := h3.get hf
  rcases E.gh dd _ h2 with h6 | ⟨z, _⟩
  · exact ⟨_, h1, rfl, rfl, dd, fs, v, rfl, h6, h4, q v G H (.refl E.gh) h5⟩
  · cases z
/-- isinstance(e, c) of a caught exception -/
theorem ev_isX {n : Nat} {a dd C : Addr} {fl : List (Str × D)} {c : V} {cv : Value} {b : Bool} (hn : ρ[n]? = some (Sl.ex a dd fl)) (hC : ExcC K C) (hc : ∀ u, RelV c u → u = cv) (hk : PySem.W.kitOne K (.ref C) cv = some b) :
    EV K (tCB (rIsX K (.ref C) (some dd) a) (tCons (tVar n) (tCons (tC c) tNil))) ρ (.bool b) := fun G0 H0 G H σ Q E q => by
  obtain ⟨h1, fs, h2, h3⟩ := E.ex n a dd fl hn
  rcases E.gh dd _ h2 with h6 | ⟨z, _⟩
  · exact ⟨_, h1, c, cv, b, C, dd, fs, rfl, rfl, rfl, h6, hC, hc, hk, q _ G H (.refl E.gh) (.bl b)⟩
  · cases z
end
section
variable {P : Program} {w : World} {K : PySem.W.Frag} {mg : Str → Option Value} {base : Heap}
/-- a def that may raise keeps its word, by its body's -/
theorem fn_px {x qual : Str} {params : Arguments} {body : List Stmt} {scope : Scope} {f : Addr} {fd : FuncData} {N ps : List Str} {k : Nat} {R : List D → D → Prop} {Y : List D → Addr → List (Str × D) → Prop} (F : FunD K x qual params body scope [] [] f fd) (S : FnScope N ps scope)
    (len : ∀ ds d, R ds d → ds.length = ps.length) (lenY : ∀ ds C fl, Y ds C fl → ds.length = ps.length)
    (hb : ∀ (cdv : Value) (A : Around) (outer : List PySem.Env) (s : Shared) (H : Hp) (E : XK), Room k (A.deeper (envOfC qual scope s.heap.objs.size f cdv)) →
      ∃ t, PSs (cxOf (L2.CX P w) P w K mg base N qual scope f cdv A outer s H E) body t ∧ (∀ ds d, R ds d → DL.ST K E t (start0 N.length ds) (fun o => o = .rt d ∨ (d = .none ∧ ∃ ρ, o = .nx ρ))) ∧
        (∀ ds C fl, Y ds C fl → DL.ST K E t (start0 N.length ds) (fun o => o = .ex C fl))) : FnOk P w K mg base (L2.CX P w) (k + 1) f fd ps (PX K R Y) := by
  refine F.ok S (fun vs H Q E h => ?_) (fun cdv A outer s H vs Q E hr h => ?_)
  · obtain ⟨G, ds, g, ha, h⟩ := h
    rcases h with ⟨d, hR, _⟩ | ⟨C, fl, hY, _⟩
    · exact ha.length.trans (len ds d hR)
    · exact ha.length.trans (lenY ds C fl hY)
  · obtain ⟨t, h1, h2, h3⟩ := hb cdv A outer s H E hr
    obtain ⟨G, ds, g, ha, h⟩ := h
    rcases h with ⟨d, hR, q⟩ | ⟨C, fl, hY, q⟩
    · refine ⟨t, h1, h2 ds d hR G H G H _ _ (en_start g ha) ⟨fun ρ' σ' G' H' p E' => ?_, fun d' v G' H' p x hv => ?_, fun ρ' σ' G' H' p E' => ?_, fun ρ' σ' G' H' p E' => ?_, fun C fl dd fs G' H' p => ?_⟩⟩
      · rcases p with p | ⟨rfl, _⟩
        · cases p
        · exact q _ G' H' E'.ext .non
      · rcases p with p | ⟨rfl, ρ, p⟩
        · cases p
          exact q v G' H' x hv
        · cases p
      · rcases p with p | ⟨_, _, p⟩ <;> cases p
      · rcases p with p | ⟨_, _, p⟩ <;> cases p
      · rcases p with p | ⟨_, _, p⟩ <;> cases p
    · exact ⟨t, h1, h3 ds C fl hY G H G H _ _ (en_start g ha) ⟨(fun _ _ _ _ p _ => nomatch p), (fun _ _ _ _ p _ => nomatch p), (fun _ _ _ _ p _ => nomatch p), (fun _ _ _ _ p _ => nomatch p), fun C' fl' dd fs G' H' p x h4 h5 => by
        cases p
        exact q dd fs G' H' x h4 h5⟩⟩
/-- an __init__ with one field -/
theorem fn_init1 {qual f1 : Str} {params : Arguments} {body : List Stmt} {scope : Scope} {f C : Addr} {fd : FuncData} {N : List Str} {k : Nat} (F : FunD K "__init__" qual params body scope [] [] f fd) (S : FnScope N ["self", f1] scope) (hN : N = (["self", f1] : List Str)) (T : OexC K C) (hno : PySem.W.findIn K (.ref C) f1 = some none)
    (hb : ∀ (cdv : Value) (A : Around) (outer : List PySem.Env) (s : Shared) (H : Hp) (E : XK), PSs (cxOf CX0 P w K mg base N qual scope f cdv A outer s H E) body (tOst K f1 (tVar 0) (tVar 1))) :
    FnOk P w K mg base CX0 (k + 1) f fd ["self", f1] (spI K C [f1]) := by
  subst hN
  refine F.ok S (fun vs H Q E h => ?_) (fun cdv A outer s H vs Q E hr h => ⟨_, hb cdv A outer s H E, ?_⟩)
  · obtain ⟨a, ys, rfl, hl, _⟩ := h
    rw [List.length_cons, hl]; rfl
  · obtain ⟨a, ys, rfl, hl, ha, q⟩ := h
    match ys, hl with
    | [y], _ =>
      refine ⟨_, rfl, _, rfl, a, C, rfl, T, hno, .inl ⟨ha, fun dx hd ne => ?_⟩⟩
      refine q dx _ hd ne upd_same (by rw [upd_ne ne, upd_same]; rfl) fun b h1 h2 => by rw [upd_ne h1, upd_ne h2]
/-- .. with two fields -/
theorem fn_init2 {qual f1 f2 : Str} {params : Arguments} {body : List Stmt} {scope : Scope} {f C : Addr} {fd : FuncData} {N : List Str} {k : Nat} (F : FunD K "__init__" qual params body scope [] [] f fd) (S : FnScope N ["self", f1, f2] scope) (hN : N = (["self", f1, f2] : List Str)) (T : OexC K C)
    (hno1 : PySem.W.findIn K (.ref C) f1 = some none) (hno2 : PySem.W.findIn K (.ref C) f2 = some none)
    (hb : ∀ (cdv : Value) (A : Around) (outer : List PySem.Env) (s : Shared) (H : Hp) (E : XK), PSs (cxOf CX0 P w K mg base N qual scope f cdv A outer s H E) body (tSeq (tOst K f1 (tVar 0) (tVar 1)) (tOst K f2 (tVar 0) (tVar 2)))) :
    FnOk P w K mg base CX0 (k + 1) f fd ["self", f1, f2] (spI K C [f1, f2]) := by
  subst hN
  refine F.ok S (fun vs H Q E h => ?_) (fun cdv A outer s H vs Q E hr h => ⟨_, hb cdv A outer s H E, ?_⟩)
  · obtain ⟨a, ys, rfl, hl, _⟩ := h
    rw [List.length_cons, hl]; rfl
  · obtain ⟨a, ys, rfl, hl, ha, q⟩ := h
    match ys, hl with
    | [y, z], _ =>
      refine ⟨_, rfl, _, rfl, a, C, rfl, T, hno1, .inl ⟨ha, fun dx hd ne => ?_⟩⟩
      refine ⟨_, rfl, _, rfl, a, C, rfl, T, hno2, .inr ⟨dx, _, upd_same, by rw [upd_ne ne, upd_same], by show 1 ≤ 900; decide, ?_⟩⟩
      refine q dx _ hd ne (by rw [upd_ne ne.symm, upd_same]) (by rw [upd_same]; rfl) fun b h1 h2 => by rw [upd_ne h2, upd_ne h1, upd_ne h2]
end
end DL

set_option maxHeartbeats 1000000
/-! DL8: what the top has left: a Hook with one more Bool; own exception classes. -/
namespace DL
open PySem PySem.Spec PyProof.Rows L2

/-! ### the Hook -/
structure SaysB (fa : List He.Fa) (fn : List He.DefD) (ex : PySem.W.Frag → Bool) (K : PySem.W.Frag) : Prop where
  d : He.SaysD fa fn K
  more : ex K = true
abbrev AlB : Type := He.AlD × Bool
def obsB (fa : List He.Fa) (fn : List He.DefD) (ex : PySem.W.Frag → Bool) (K : PySem.W.Frag) : AlB := (He.obsD fa fn K, ex K)
def obsBG (n : Nat) (fa : List He.Fa) (fn : List He.DefD) (ex : PySem.W.Frag → Bool) (g : Addr → Option Obj) : AlB := obsB fa fn ex (He.frG g (He.asD g n))
def hookB (n : Nat) (fa : List He.Fa) (fn : List He.DefD) (ex : PySem.W.Frag → Bool) : PySem.W.Hook where
  α := AlB
  obs := fun s => obsBG n fa fn ex s.heap.get?
  val := fun _ => (He.valD fn, true)
  says := fun _ h => ∃ K : PySem.W.Frag, K.In h ∧ SaysB fa fn ex K
  of := fun _ _ e => ⟨_, He.frG_in, ⟨congrArg (fun z : AlB => z.1) e, congrArg (fun z : AlB => z.2) e⟩⟩
  keeps := fun _ _ _ ⟨K, hK, c⟩ k => ⟨K, PySem.W.Frag.In.keeps hK k, c⟩
theorem obsBG_eq {n : Nat} {fa : List He.Fa} {fn : List He.DefD} {ex : PySem.W.Frag → Bool} {g : Addr → Option Obj} {s : Shared} (h : ∀ a, g a = s.heap.get? a) : obsBG n fa fn ex g = (hookB n fa fn ex).obs s := by
  have e : g = s.heap.get? := funext h
  rw [e] <;> rfl

/-! ### an own exception class -/
def oexB (K : PySem.W.Frag) (C : Addr) : Bool := match K.lookup C with
  | some ⟨.type "type", _, .cls cd, sl⟩ => (match cd.mro, sl.toList with
    | .ref C' :: bm, [_, _, _, _, some (.builtin n), _] => C' == C && (n == "ValueError.__new__" && (!cd.hasDel && (cd.hasDict && PySem.HandSPX.refsVE bm)))
    | _, _ => false)
  | _ => false
theorem oexB_ok {K : PySem.W.Frag} {C : Addr} (h : oexB K C = true) : ∃ nm q N bs bm sn sub ab col dd k0 k1 k2 k3 k5, K.lookup C = some (excClassObj nm q C N bs bm true sn sub ab col dd k0 k1 k2 k3 k5 "ValueError.__new__") ∧ PySem.HandSPX.refsVE bm = true := by
  unfold oexB at h
  split at h
  · rename_i dd cd sl hl
    split at h
    · rename_i C' bm a0 a1 a2 a3 n a5 hm hs
      obtain ⟨h1, h⟩ := Bool.and_eq_true_iff.mp h
      obtain ⟨h2, h⟩ := Bool.and_eq_true_iff.mp h
      obtain ⟨h3, h⟩ := Bool.and_eq_true_iff.mp h
      obtain ⟨h4, h5⟩ := Bool.and_eq_true_iff.mp h
      have e1 : C' = C := beq_iff_eq.mp h1
      have e2 : n = "ValueError.__new__" := beq_iff_eq.mp h2
      subst e1
      subst e2
      obtain ⟨nm, bs, mro, N, q, hd, sn, sub, ab, col, del⟩ := cd
      dsimp only at hm h3 h4
      subst hm
      subst h4
      have e3 : del = false := by
        cases del with
        | false => rfl
        | true => cases h3
      subst e3
      have e4 : sl = #[a0, a1, a2, a3, some (.builtin "ValueError.__new__"), a5] := by
        cases sl with
        | mk l => exact congrArg Array.mk hs
      subst e4
      exact ⟨nm, q, N, bs, bm, sn, sub, ab, col, dd, a0, a1, a2, a3, a5, hl, h5⟩
    · cases h
  · cases h
structure ExF (K : PySem.W.Frag) (C : Addr) : Prop where
  oex : OexC K C
  exc : ExcC K C
  xf : XfC K C
def exB (K : PySem.W.Frag) (C : Addr) : Bool := oexB K C && (He.eqO (PySem.W.findIn K (.ref C) "__setattr__") (some (some (.builtin "object.__setattr__"))) && (decide (PySem.W.subIn K (.ref C) (.type "BaseException") = some true) && (decide (PySem.W.typeIn K (.ref C) = some (.type "type")) && (PySem.W.keepIn K (.ref C) &&
  (He.eqO (PySem.W.findIn K (.ref C) "__getattribute__") (some (some (.builtin "BaseException.__getattribute__"))) && (He.eqO (PySem.W.findIn K (.ref C) "__getattr__") (some none) && (PySem.W.hasDictIn K C && (He.eqO (PySem.W.findIn K (.ref C) "__class__") (some (some (.builtin "object.__class__"))) &&
  (He.eqO (PySem.W.specialIn K (.builtin "object.__class__") "__get__") (some (some (.builtin "getset_descriptor.__get__"))) && (decide (PySem.W.takesIn K (.builtin "object.__class__") = some true) && decide (PySem.W.mroIn K C (.type "object") = some true)))))))))))
theorem exB_ok {K : PySem.W.Frag} {C : Addr} (h : exB K C = true) : ExF K C := by
  unfold exB at h
  obtain ⟨h1, h⟩ := Bool.and_eq_true_iff.mp h
  obtain ⟨h2, h⟩ := Bool.and_eq_true_iff.mp h
  obtain ⟨h3, h⟩ := Bool.and_eq_true_iff.mp h
  obtain ⟨h4, h⟩ := Bool.and_eq_true_iff.mp h
  obtain ⟨h5, h⟩ := Bool.and_eq_true_iff.mp h
  obtain ⟨h6, h⟩ := Bool.and_eq_true_iff.mp h
  obtain ⟨h7, h⟩ := Bool.and_eq_true_iff.mp h
  obtain ⟨h8, h⟩ := Bool.and_eq_true_iff.mp h
  obtain ⟨h9, h⟩ := Bool.and_eq_true_iff.mp h
  obtain ⟨h10, h⟩ := Bool.and_eq_true_iff.mp h
  obtain ⟨h11, h12⟩ := Bool.and_eq_true_iff.mp h
  have a3 := of_decide_eq_true h3
  exact ⟨⟨oexB_ok h1, He.eqO_ok h2, a3, of_decide_eq_true h4, h5⟩, ⟨He.eqO_ok h6, He.eqO_ok h7, a3, h8, He.eqO_ok h9, He.eqO_ok h10, of_decide_eq_true h11, of_decide_eq_true h12⟩, ⟨He.eqO_ok h6, He.eqO_ok h7, a3, h8⟩⟩
/-- its __init__ -/
def exI (K : PySem.W.Frag) (C : Addr) : Bool := He.eqO (PySem.W.findIn K (.ref C) "__init__") (some (some (.ref (He.ma K C "__init__")))) && decide (PySem.W.typeIn K (.ref (He.ma K C "__init__")) = some (.type "function"))
theorem exI_ok {K : PySem.W.Frag} {C : Addr} (h : exI K C = true) : PySem.W.findIn K (.ref C) "__init__" = some (some (.ref (He.ma K C "__init__"))) ∧ PySem.W.typeIn K (.ref (He.ma K C "__init__")) = some (.type "function") := by
  obtain ⟨h1, h2⟩ := Bool.and_eq_true_iff.mp h
  exact ⟨He.eqO_ok h1, of_decide_eq_true h2⟩
def kitR (K : PySem.W.Frag) (C E : Addr) (b : Bool) : Bool := decide (PySem.W.kitOne K (.ref C) (.ref E) = some b)
def kitT (K : PySem.W.Frag) (C : Addr) (n : String) (b : Bool) : Bool := decide (PySem.W.kitOne K (.ref C) (.type n) = some b)
theorem kitR_ok {K : PySem.W.Frag} {C E : Addr} {b : Bool} (h : kitR K C E b = true) : PySem.W.kitOne K (.ref C) (.ref E) = some b := of_decide_eq_true h
theorem kitT_ok {K : PySem.W.Frag} {C : Addr} {n : String} {b : Bool} (h : kitT K C n b = true) : PySem.W.kitOne K (.ref C) (.type n) = some b := of_decide_eq_true h
/-- all of a list of Bools -/
theorem allB {bs : List Bool} (h : bs.all id = true) (i : Nat) {b : Bool} (e : bs[i]? = some b) : b = true := List.all_eq_true.mp h b (List.mem_of_getElem? e)
end DL

set_option maxHeartbeats 1000000
/-! DL9: short words for derivations and readings. -/
namespace DL
open PySem PySem.Spec PyProof.Rows L2

theorem b_len : bootBuiltins "len" = some (.builtin "len") := by decide +kernel
theorem b_isinstance : bootBuiltins "isinstance" = some (.builtin "isinstance") := by decide +kernel
theorem b_sorted : bootBuiltins "sorted" = some (.builtin "sorted") := by decide +kernel
theorem b_int : bootBuiltins "int" = some (.type "int") := by decide +kernel
theorem b_str : bootBuiltins "str" = some (.type "str") := by decide +kernel
theorem b_bool : bootBuiltins "bool" = some (.type "bool") := by decide +kernel
theorem b_tuple : bootBuiltins "tuple" = some (.type "tuple") := by decide +kernel
theorem b_list : bootBuiltins "list" = some (.type "list") := by decide +kernel
theorem b_dict : bootBuiltins "dict" = some (.type "dict") := by decide +kernel
theorem b_ValueError : bootBuiltins "ValueError" = some (.type "ValueError") := by decide +kernel

/-- a def of the top keeps sp, at level k -/
structure Okd (P : Program) (w : World) (K : PySem.W.Frag) (mg : Str → Option Value) (base : Heap) (CX : CXT) (k : Nat) (x : Str) (ps : List Str) (sp : Sp) : Prop where
  m : mg x = some (.ref (He.ga K x))
  ok : ∃ fd, FnOk P w K mg base CX k (He.ga K x) fd ps sp ∧ Binds K fd ps [] ∧ PySem.W.keepIn K (.ref (He.ga K x)) = true
section
variable {X : Cx} {pos p : Pos}
theorem pe_callD {k j : Nat} {x : Str} {ps : List Str} {sp : Sp} {e : Expr} {es : List Expr} {t : TA} (O : Okd X.prog X.w X.K X.mg X.base CX0 k x ps sp) (hr : Room j X.A) (hk : k ≤ j) (ha : PA X (e :: es) t) (hg : Gl X x := by rfl)
    (hdb : (x == ("__debug__" : Str)) = false := by decide) (he : starEach (e :: es) X.env = (false, eval e X.env) :: starEach es X.env := by rfl) (hpl : (backTo pos (starEach es X.env)).any (·.1) = false := by rfl) :
    PE X (.Call (.Name x p) (e :: es) [] pos) (tCall sp [] E0 t) := by
  obtain ⟨m, fd, F, b, kp⟩ := O
  exact pe_call F (hr.mono hk) hg m kp b .nil pass0 ha hdb he hpl
/-- .. of one that may raise, what is raised being wished for at the slots -/
theorem pe_callDS {k j : Nat} {x : Str} {ps : List Str} {sp : Sp} {e : Expr} {es : List Expr} {t : TA} {W : WX} (O : Okd X.prog X.w X.K X.mg X.base (L2.CX X.prog X.w) k x ps sp) (hr : Room j X.A) (hk : k ≤ j) (tk : Takes X W) (ha : PA X (e :: es) t) (hg : Gl X x := by rfl)
    (hdb : (x == ("__debug__" : Str)) = false := by decide) (he : starEach (e :: es) X.env = (false, eval e X.env) :: starEach es X.env := by rfl) (hpl : (backTo pos (starEach es X.env)).any (·.1) = false := by rfl) :
    PE X (.Call (.Name x p) (e :: es) [] pos) (tCallS sp (WE W) t) := by
  obtain ⟨m, fd, F, b, kp⟩ := O
  exact pe_callS F (hr.mono hk) hg m kp b (fun σ => passAt tk σ) ha hdb he hpl
theorem pe_gint {x : Str} {i : Int} (hm : ∃ t, X.mg x = some (.int i t)) (hg : Gl X x := by rfl) (hd : (x == ("__debug__" : Str)) = false := by decide) : PE X (.Name x pos) (tC (.int i)) := by
  obtain ⟨t, hm⟩ := hm
  exact pe_glob hg hm ⟨t, rfl⟩ hd
theorem pe_gstr {x z : Str} (hm : ∃ t, X.mg x = some (.str z t)) (hg : Gl X x := by rfl) (hd : (x == ("__debug__" : Str)) = false := by decide) : PE X (.Name x pos) (tC (.str z)) := by
  obtain ⟨t, hm⟩ := hm
  exact pe_glob hg hm ⟨t, rfl⟩ hd
theorem pe_gref {x : Str} {a : Addr} (hm : X.mg x = some (.ref a)) (hg : Gl X x := by rfl) (hd : (x == ("__debug__" : Str)) = false := by decide) : PE X (.Name x pos) (tC (.ref a)) := pe_glob hg hm rfl hd
def tTr (K : PySem.W.Frag) (ta : TE) : TT := fun σ H Q => ta σ H fun x H' => ∃ k, TruV K x H' k ∧ Q k H'
theorem pt_tr {e : Expr} {te : TE} (h : PE X e te) (he : ∀ whole, isTrue e X.env whole = (do let v ← whole; standAt e.pos; holding [v] (truthy v)) := by intro _; rfl) : PT X e (tTr X.K te) := pt_truth h he
def rJoinU (K : PySem.W.Frag) : V → List V → Hp → VK → Prop := fun x xs H Q => ∃ a p, ∃ ys : List Str, x = .str a ∧ xs = [.ref p] ∧ (SqL K H p (ys.map V.str) ∨ SqT K H p (ys.map V.str)) ∧
  (ys.map (·.length)).sum + ys.length * a.length ≤ 16777216 ∧ Q (.str (Txt.join a ys)) H
theorem pe_joinU {o e : Expr} {to te : TE} {apos : Pos} (ho : PE X o to) (he : PE X e te) (hs : starEach [e] X.env = [(false, eval e X.env)] := by rfl) (hbase : attributeBase o "join" X.env (eval o X.env) = eval o X.env := by rfl) (hline : (apos.endLine == pos.line) = true := by rfl) :
    PE X (.Call (.Attribute o "join" apos) [e] [] pos) (tM1 (rJoinU X.K) to te) := pe_join ho he hs hbase hline
def rSIx : V → List V → Hp → VK → Prop := fun x xs H Q => ∃ a b i rest, x = .str a ∧ xs = [.str b] ∧ Builtin.Str.occurrences a b 0 a.length 1 = i :: rest ∧ Q (.int (i : Nat)) H
theorem pe_sindex {o e : Expr} {to te : TE} {apos : Pos} (ho : PE X o to) (he : PE X e te) (hs : starEach [e] X.env = [(false, eval e X.env)] := by rfl) (hbase : attributeBase o "index" X.env (eval o X.env) = eval o X.env := by rfl) (hline : (apos.endLine == pos.line) = true := by rfl) :
    PE X (.Call (.Attribute o "index" apos) [e] [] pos) (tM1 rSIx to te) := pe_m1 F.slot_str_index F.type_str_index mt_sindex ho he hs hbase hline
/-- raise C(e, ..) of an own class whose __init__ stores its arguments -/
def tRaiseO (K : PySem.W.Frag) (C : Addr) (fls : List Str) (Ex : XK) (t : TA) : TS := fun _ σ H => tMkO C (spI K C fls) [] t σ H fun cls d H' => (fun (cls : Value) (d : Option Addr) (_ : L2.St) (H : Hp) => Ex cls d H) cls d σ H'
/-- what the walk asks of such a class: where it stands, its word -/
structure ExOk (P : Program) (w : World) (K : PySem.W.Frag) (mg : Str → Option Value) (base : Heap) (k : Nat) (x : Str) (fls : List Str) : Prop where
  m : mg x = some (.ref (He.ga K x))
  ef : ExF K (He.ga K x)
  ini : PySem.W.findIn K (.ref (He.ga K x)) "__init__" = some (some (.ref (He.ma K (He.ga K x) "__init__"))) ∧ PySem.W.typeIn K (.ref (He.ma K (He.ga K x) "__init__")) = some (.type "function")
  ok : ∃ fd, FnOk P w K mg base CX0 k (He.ma K (He.ga K x) "__init__") fd ("self" :: fls) (spI K (He.ga K x) fls) ∧ Binds K fd ("self" :: fls) []
theorem ps_raiseO {k j : Nat} {x : Str} {fls : List Str} {Ex : XK} {e : Expr} {es : List Expr} {t : TA} {pos2 : Pos} (O : ExOk X.prog X.w X.K X.mg X.base k x fls) (hr : Room j X.A) (hk : k + 1 ≤ j) (hc : X.calm = true) (tk : Takes X (fun cls d _ H => Ex cls d H)) (ha : PA X (e :: es) t) (hg : Gl X x := by rfl)
    (hdb : (x == ("__debug__" : Str)) = false := by decide) (he : starEach (e :: es) X.env = (false, eval e X.env) :: starEach es X.env := by rfl) (hpl : (backTo pos (starEach es X.env)).any (·.1) = false := by rfl) :
    PS X (.Raise (some (.Call (.Name x p) (e :: es) [] pos)) none pos2) (tRaiseO X.K (He.ga X.K x) fls Ex t) := by
  obtain ⟨m, ef, ⟨i1, i2⟩, fd, F, b⟩ := O
  exact ps_raise hc tk (pmk_oex ef.oex i1 i2 F (hr.mono hk) b .nil (fun _ _ _ _ _ _ _ h => h.elim) hg m ha hdb he hpl)
/-- try: x = f(..) / except C as n: suite; nothing else leaves -/
def tTryA (K : PySem.W.Frag) (c : Value) (i : Nat) (ts : Addr → Value → Option Addr → TS) (sp : Sp) (t : TA) (j : Nat) : TS := fun D σ H => tAsg (tCallS sp (WE (wAs K c i ts (fun _ _ _ _ => False) D)) t) (gName j) D σ H
end
section
variable {K : PySem.W.Frag} {Ex : XK} {ρ : List Sl} {ta tb te : TE} {tt : TT} {t u v : TS} {d : D} {P : Oc → Prop}
theorem st_raiseO {C : Addr} {fls : List Str} {t : TA} {ds : List D} (h : EA K t ρ ds) (hl : ds.length = fls.length) (hl2 : ds.length ≤ 1000) (q : P (.ex C (fls.zip ds).reverse)) : ST K Ex (tRaiseO K C fls Ex t) ρ P := st_raise h hl hl2 q
theorem st_tryA {R : List D → D → Prop} {Y : List D → Addr → List (Str × D) → Prop} {t : TA} {ds : List D} {i j : Nat} {c : Value} {ts : Addr → Value → Option Addr → TS} (h : EA K t ρ ds)
    (hr : (∃ d, R ds d ∧ P (.nx (ρ.set j (.fr d)))) ∨
      (∃ C fl, Y ds C fl ∧ PySem.W.exmOne K (.ref C) c = some true ∧ ∀ a dd, ST K E0 (ts a (.ref C) (some dd)) (ρ.set i (Sl.ex a dd fl)) (suiP i P))) :
    ST K Ex (tTryA K c i ts (PX K R Y) t j) ρ P := st_tryAsg h hr
theorem q_asg {i : Nat} (h : EV K te ρ d) (q : ST K Ex u (ρ.set i (.fr d)) P) : ST K Ex (tSeq (tAsg te (gName i)) u) ρ P := st_seq (st_asg h q)
theorem q_asgN {i : Nat} (h : EVN K te ρ d) (q : ST K Ex u (ρ.set i (.ow d)) P) : ST K Ex (tSeq (tAsg te (gName i)) u) ρ P := st_seq (st_asgN h q)
theorem q_asgG {g : TG} {ρ' : List Sl} {ts : List Nat} (h : EV K te ρ d) (hg : GT K g ρ d ρ' ts) (q : ST K Ex u ρ' P) : ST K Ex (tSeq (tAsg te g) u) ρ P := st_seq (st_asgG h hg q)
theorem q_append {n : Nat} {ds : List D} (hi : ρ[n]? = some (.ow (.list ds))) (h : EV K te ρ d) (hz : ds.length < 16000000) (q : ST K Ex u (ρ.set n (.ow (.list (ds ++ [d])))) P) :
    ST K Ex (tSeq (tDrop (tBM K "list" rAppend (tVar n) (tCons te tNil))) u) ρ P := st_seq (st_append hi h hz q)
theorem q_setL {n : Nat} {ds : List D} {i : Int} {j : Nat} (hi : ρ[n]? = some (.ow (.list ds))) (h : EV K te ρ d) (hb : EV K tb ρ (.int i)) (hj : ixN ds.length i = some j) (q : ST K Ex u (ρ.set n (.ow (.list (ds.set j d)))) P) :
    ST K Ex (tSeq (tAsg te (gSub (tVar n) tb rSetL)) u) ρ P := st_seq (st_setL hi h hb hj q)
theorem q_augI {n : Nat} {a b : Int} (hi : ρ[n]? = some (.fr (.int a))) (h : EV K te ρ (.int b)) (q : ST K Ex u (ρ.set n (.fr (.int (a + b)))) P) : ST K Ex (tSeq (tAug n te rIAddU) u) ρ P := st_seq (st_augI hi h q)
theorem q_augO {n : Nat} {ds es : List D} (hi : ρ[n]? = some (.ow (.list ds))) (h : EV K te ρ (.list es)) (hz : ds.length + es.length ≤ 16000000) (q : ST K Ex u (ρ.set n (.ow (.list (ds ++ es)))) P) :
    ST K Ex (tSeq (tAug n te rIAddU) u) ρ P := st_seq (st_augO hi h hz q)
/-- if c: t (no else), then u -/
theorem q_when {b : Bool} (h : ET K tt ρ b) (h1 : b = true → ST K Ex t ρ (seqP K Ex u P)) (h2 : b = false → ST K Ex u ρ P) : ST K Ex (tSeq (tIfS tt t tNext) u) ρ P := st_seq (st_if h h1 fun hb => st_next (h2 hb))
theorem q_if {b : Bool} (h : ET K tt ρ b) (h1 : b = true → ST K Ex t ρ (seqP K Ex u P)) (h2 : b = false → ST K Ex v ρ (seqP K Ex u P)) : ST K Ex (tSeq (tIfS tt t v) u) ρ P := st_seq (st_if h h1 h2)
theorem et_or1 {tu : TT} (h : ET K tt ρ true) : ET K (tOr tt tu) ρ true := fun G0 H0 G H σ Q E q => h G0 H0 G H σ _ E fun G1 H1 e1 => q G1 H1 e1
theorem et_and0 {tu : TT} (h : ET K tt ρ false) : ET K (tAnd tt tu) ρ false := fun G0 H0 G H σ Q E q => h G0 H0 G H σ _ E fun G1 H1 e1 => q G1 H1 e1
theorem ev_or1 (h : EV K ta ρ (.bool true)) : EV K (tOrV ta tb) ρ (.bool true) := ev_orV (b := true) h (fun z => nomatch z)
theorem ev_and0 (h : EV K ta ρ (.bool false)) : EV K (tAndV ta tb) ρ (.bool false) := ev_andV (b := true) h (fun z => nomatch z)
theorem ev_if1 (h : ET K tt ρ true) (h1 : EV K ta ρ d) : EV K (tIf tt ta tb) ρ d := ev_if h (fun _ => h1) (fun z => nomatch z)
theorem ev_if0 (h : ET K tt ρ false) (h1 : EV K tb ρ d) : EV K (tIf tt ta tb) ρ d := ev_if h (fun z => nomatch z) (fun _ => h1)
theorem q_yes (h : ET K tt ρ true) (h1 : ST K Ex t ρ (seqP K Ex u P)) : ST K Ex (tSeq (tIfS tt t v) u) ρ P := q_if h (fun _ => h1) (fun z => nomatch z)
theorem q_no (h : ET K tt ρ false) (h1 : ST K Ex u ρ P) : ST K Ex (tSeq (tIfS tt t tNext) u) ρ P := q_when h (fun z => nomatch z) (fun _ => h1)
theorem q_noE (h : ET K tt ρ false) (h1 : ST K Ex v ρ (seqP K Ex u P)) : ST K Ex (tSeq (tIfS tt t v) u) ρ P := q_if h (fun z => nomatch z) (fun _ => h1)
/-- a word between two statements -/
def cutP (M : List Sl → Prop) (P : Oc → Prop) : Oc → Prop
  | .nx ρ => M ρ
  | o => P o
theorem q_cut (M : List Sl → Prop) (h : ST K Ex t ρ (cutP M P)) (k : ∀ ρ', M ρ' → ST K Ex u ρ' P) : ST K Ex (tSeq t u) ρ P := st_seq (h.mono fun o p => match o, p with
  | .nx ρ', p => k ρ' p
  | .rt _, p => p
  | .bk _, p => p
  | .ct _, p => p
  | .ex _ _, p => p)
theorem isNone_ne {d : D} (h : d ≠ .none) : isNoneD d = false := by cases d <;> first | rfl | exact absurd rfl h
/-- if c: x = e (no else): the value of x behind it -/
theorem q_ifAsg {b : Bool} {i : Nat} {d' : D} (hi : ρ[i]? = some (.fr d')) (h : ET K tt ρ b) (h1 : b = true → EV K te ρ d) (q : ST K Ex u (ρ.set i (.fr (if b = true then d else d'))) P) : ST K Ex (tSeq (tIfS tt (tAsg te (gName i)) tNext) u) ρ P := by
  refine st_seq (st_if h (fun hb => st_asg (h1 hb) ?_) fun hb => st_next ?_)
  · rw [if_pos hb] at q
    exact q
  · rw [if_neg (by rw [hb]; exact Bool.false_ne_true)] at q
    have e : ρ.set i (.fr d') = ρ := by
      refine List.ext_getElem? fun k => ?_
      by_cases z : i = k
      · subst z
        rw [List.getElem?_set_self (List.getElem?_eq_some_iff.mp hi).1, hi]
      · rw [List.getElem?_set_ne z]
    rw [e] at q
    exact q
theorem q_for {wi : TI} {g : TG} {n : Nat} {item : Nat → D} (hi : EI K wi ρ n item) (I : Nat → List Sl → Prop) (h0 : I 0 ρ)
    (hs : ∀ i ρ1, i < n → I i ρ1 → ∃ ρ2 ts, GT K g ρ1 (item i) ρ2 ts ∧ ST K Ex t ρ2 (loopP (I (i + 1)) (seqP K Ex u P)))
    (hd : ∀ ρ1, I n ρ1 → ST K Ex u ρ1 P) : ST K Ex (tSeq (tFor wi g t) u) ρ P := st_seq (st_for hi I h0 hs hd)
theorem q_while {I : Nat → List Sl → Prop} (m : Nat) (h0 : I m ρ)
    (hs : ∀ m ρ1, I m ρ1 → ∃ b, ET K tt ρ1 b ∧ (b = true → ST K Ex t ρ1 (loopP (fun ρ3 => ∃ m', m' < m ∧ I m' ρ3) (seqP K Ex u P))) ∧ (b = false → ST K Ex u ρ1 P)) : ST K Ex (tSeq (tWhile tt t) u) ρ P := st_seq (st_while m h0 hs)
theorem q_frz {i : Nat} (hi : ρ[i]? = some (.ow d)) (h : ST K Ex t (ρ.set i (.fr d)) P) : ST K Ex t ρ P := st_frz hi h
/-- what a def answers, told by a word about the answer -/
def PQ (K : PySem.W.Frag) (Pre : List D → Prop) (Post : List D → D → Prop) : Sp := fun vs H Q _ => ∃ G ds, GH G H ∧ DqA K G vs ds ∧ Pre ds ∧ ∀ d v G' H', Post ds d → Ext G H G' H' → Dq K G' v d → Q v H'
theorem q_asgQ {Pre : List D → Prop} {Post : List D → D → Prop} {Ey : XK} {t : TA} {ds : List D} {i : Nat} (h : EA K t ρ ds) (hp : Pre ds) (q : ∀ d, Post ds d → ST K Ex u (ρ.set i (.fr d)) P) : ST K Ex (tSeq (tAsg (tCall (PQ K Pre Post) [] Ey t) (gName i)) u) ρ P :=
  st_seq fun G0 H0 G H σ D E f => h G0 H0 G H σ _ E fun vs G1 H1 e1 h1 => by
    rw [List.append_nil]
    exact ⟨G1, ds, e1.gh, h1, hp, fun d v G2 H2 hd x hv => f.nx _ _ G2 H2 (q d hd) (((E.go e1).go x).setF i hv)⟩
/-! tests -/
def truD : D → Bool
  | .none => false
  | .bool b => b
  | .int i => i != 0
  | .str s => (s.length : Int) != 0
  | .list ds => !ds.isEmpty
  | .tuple ds => !ds.isEmpty
  | .dict _ => false
theorem et_tr (h : EV K ta ρ d) (nd : isDicD d = false) (hz : ∀ s, d = .str s → s.length ≤ sizeLine) : ET K (tTr K ta) ρ (truD d) := fun G0 H0 G H σ Q E q => h G0 H0 G H σ _ E fun v G1 H1 e1 h1 => by
  refine ⟨truD d, ?_, q G1 H1 e1⟩
  cases h1 with
  | non => exact rfl
  | bl b => exact rfl
  | int i => exact rfl
  | str x => exact ⟨hz x rfl, rfl⟩
  | @lst a xs ds ha hr =>
    refine .inl ⟨xs, SqL.of (e1.gh.lst ha), ?_⟩
    have := hr.length
    cases xs <;> cases ds <;> first | rfl | cases this
  | @tup a xs ds ha hr =>
    refine .inr (.inl ⟨xs, e1.gh.t ha, ?_⟩)
    have := hr.length
    cases xs <;> cases ds <;> first | rfl | cases this
  | dK _ _ => cases nd
  | dT _ _ => cases nd
  | scr _ => cases nd
theorem et_trB {b : Bool} (h : EV K ta ρ (.bool b)) : ET K (tTr K ta) ρ b := et_tr h rfl (fun _ z => nomatch z)
theorem et_trO {n : Nat} {ds : List D} (hi : ρ[n]? = some (.ow (.list ds))) : ET K (tTr K (tVar n)) ρ (!ds.isEmpty) := fun G0 H0 G H σ Q E q => by
  obtain ⟨l, vs, h1, h2, h3⟩ := own_look E hi
  refine ⟨_, h1, _, .inl ⟨vs, SqL.of h2, rfl⟩, ?_⟩
  have e : (!vs.isEmpty) = (!ds.isEmpty) := by
    have := h3.length
    cases vs <;> cases ds <;> first | rfl | cases this
  rw [e]
  exact q G H (.refl E.gh)
/-! texts -/
theorem map_str_dq {G : Hp} : ∀ {ys : List Str} {vs : List V}, DqA K G vs (ys.map PyData.str) → vs = ys.map V.str
  | [], _, h => by cases h; rfl
  | y :: ys, _, h => by
    cases h with
    | cons a b =>
      cases a
      rw [List.map_cons, map_str_dq b]
theorem ev_joinL {a : Str} {ys : List Str} (h1 : EV K ta ρ (.str a)) (h2 : EV K tb ρ (.list (ys.map PyData.str))) (hz : (ys.map (·.length)).sum + ys.length * a.length ≤ 16777216) : EV K (tM1 (rJoinU K) ta tb) ρ (.str (Txt.join a ys)) := fun G0 H0 G H σ Q E q =>
  h1 G0 H0 G H σ _ E fun v G1 H1 e1 hv => by
    cases hv
    refine ⟨⟨a, rfl⟩, h2 G0 H0 G1 H1 σ _ (E.go e1) fun u G2 H2 e2 hu => ?_⟩
    cases hu with
    | @lst p xs _ ha hr =>
      have e := map_str_dq hr
      subst e
      exact ⟨a, p, ys, rfl, rfl, .inl (SqL.of (e2.gh.lst ha)), hz, q _ G2 H2 (e1.trans e2) (.str _)⟩
theorem ev_sindex {a b : Str} {i : Nat} {rest : List Nat} (h1 : EV K ta ρ (.str a)) (h2 : EV K tb ρ (.str b)) (ho : Builtin.Str.occurrences a b 0 a.length 1 = i :: rest) : EV K (tM1 rSIx ta tb) ρ (.int (i : Nat)) := fun G0 H0 G H σ Q E q =>
  h1 G0 H0 G H σ _ E fun v G1 H1 e1 hv => by
    cases hv
    refine ⟨⟨a, rfl⟩, h2 G0 H0 G1 H1 σ _ (E.go e1) fun u G2 H2 e2 hu => ?_⟩
    cases hu
    exact ⟨a, b, i, rest, rfl, rfl, ho, q _ G2 H2 (e1.trans e2) (.int _)⟩
/-! items -/
theorem atI_nn {α : Type} {ds : List α} {i : Int} (z : α) (h0 : 0 ≤ i) (h1 : i < ds.length) : atI ds i = some (ds.getD i.toNat z) := by
  obtain ⟨k, rfl⟩ : ∃ k : Nat, i = (k : Nat) := ⟨i.toNat, by omega⟩
  have hk : k < ds.length := by omega
  refine atI_nat ?_
  rw [List.getD_eq_getElem?_getD]
  simp [hk]
theorem atI_ints {ns : List Int} {i : Int} (h0 : 0 ≤ i) (h1 : i < ns.length) : atI (ns.map PyData.int) i = some (.int (ns.getD i.toNat 0)) := by
  obtain ⟨k, rfl⟩ : ∃ k : Nat, i = (k : Nat) := ⟨i.toNat, by omega⟩
  have hk : k < ns.length := by omega
  refine atI_nat ?_
  rw [List.getElem?_map, List.getD_eq_getElem?_getD]
  simp [hk]
theorem atI_strs {ys : List Str} {i : Int} (h0 : 0 ≤ i) (h1 : i < ys.length) : atI (ys.map PyData.str) i = some (.str (ys.getD i.toNat Str.empty)) := by
  obtain ⟨k, rfl⟩ : ∃ k : Nat, i = (k : Nat) := ⟨i.toNat, by omega⟩
  have hk : k < ys.length := by omega
  refine atI_nat ?_
  rw [List.getElem?_map, List.getD_eq_getElem?_getD]
  simp [hk]
theorem ixN_nn {n : Nat} {i : Int} (h0 : 0 ≤ i) (h1 : i < n) : ixN n i = some i.toNat := by
  unfold ixN
  rw [if_pos h0, if_pos h1]
end
/-! tuple(..), list(..) -/
def rTupU (K : PySem.W.Frag) : List V → Hp → VK → Prop := fun xs H Q => ∃ p ys, xs = [.ref p] ∧ ((SqL K H p ys ∧ ∀ l, H l = none → Q (.ref l) (upd H l (.tup ys))) ∨ (SqT K H p ys ∧ Q (.ref p) H))
theorem call_tupleU {X : Cx} : CallR X (.type "tuple") (rTupU X.K) := call_tuple_of
def rListU (K : PySem.W.Frag) : List V → Hp → VK → Prop := fun xs H Q => ∃ p ys, xs = [.ref p] ∧ (SqL K H p ys ∨ SqT K H p ys) ∧ ∀ l, H l = none → Q (.ref l) (upd H l (.lst ys))
theorem call_listU {X : Cx} : CallR X (.type "list") (rListU X.K) := call_list_of
theorem cd_tupL {K : PySem.W.Frag} {ds : List D} : CD K (rTupU K) [.list ds] (.tuple ds) := fun xs G H Q g hx q => by
  cases hx with
  | cons a b =>
    cases b
    cases a with
    | @lst a xs _ ha hr =>
      refine ⟨a, xs, rfl, .inl ⟨SqL.of (g.lst ha), fun l hl => ?_⟩⟩
      exact q _ _ _ (.new g hl) (.tup (SqT.of upd_same) (hr.mono (Ext.new g hl).g))
theorem cd_tupT {K : PySem.W.Frag} {ds : List D} : CD K (rTupU K) [.tuple ds] (.tuple ds) := fun xs G H Q g hx q => by
  cases hx with
  | cons a b =>
    cases b
    cases a with
    | @tup a xs _ ha hr => exact ⟨a, xs, rfl, .inr ⟨g.t ha, q _ G H (.refl g) (.tup ha hr)⟩⟩
theorem cn_listL {K : PySem.W.Frag} {ds : List D} : CN K (rListU K) [.list ds] (.list ds) := fun xs G H Q g hx q => by
  cases hx with
  | cons a b =>
    cases b
    cases a with
    | @lst a xs _ ha hr => exact ⟨a, xs, rfl, .inl (SqL.of (g.lst ha)), fun l hl => q l G _ (.fresh g hl) hl (g.none hl) (.lst upd_same hr)⟩
theorem cn_listT {K : PySem.W.Frag} {ds : List D} : CN K (rListU K) [.tuple ds] (.list ds) := fun xs G H Q g hx q => by
  cases hx with
  | cons a b =>
    cases b
    cases a with
    | @tup a xs _ ha hr => exact ⟨a, xs, rfl, .inr (g.t ha), fun l hl => q l G _ (.fresh g hl) hl (g.none hl) (.lst upd_same hr)⟩
/-! the first place where p holds, below n -/
def firstP (p : Nat → Bool) (n : Nat) : Option Nat := (List.range n).find? p
theorem firstP_some {p : Nat → Bool} {n i : Nat} (hi : i < n) (h0 : ∀ j, j < i → p j = false) (h1 : p i = true) : firstP p n = some i := by
  unfold firstP
  rw [List.find?_range_eq_some]
  exact ⟨h1, by simpa using hi, fun j hj => by rw [h0 j hj]; rfl⟩
theorem firstP_none {p : Nat → Bool} {n : Nat} (h0 : ∀ j, j < n → p j = false) : firstP p n = none := by
  unfold firstP
  rw [List.find?_eq_none]
  intro x hx
  rw [h0 x (by simpa using hx)]
  exact Bool.false_ne_true
theorem len_app (a b : Str) : (a ++ b).length = a.length + b.length := by
  show (a.cps ++ b.cps).size = a.cps.size + b.cps.size
  rw [Array.size_append]
theorem len_cut (z : Str) (lo hi : Option Int) : (cutS z lo hi).length ≤ z.length := cutS_length z lo hi
theorem len_rep (z : Str) (k : Int) : (repS z k).length = k.toNat * z.length := by
  unfold repS Str.length
  rw [List.size_toArray]
  have : ∀ m : Nat, ((List.replicate m z.cps.toList).flatten).length = m * z.cps.toList.length := fun m => by
    induction m with
    | zero => simp
    | succ m ih => rw [List.replicate_succ, List.flatten_cons, List.length_append, ih, Nat.succ_mul]; omega
  rw [this, Array.length_toList]
theorem len_one (c : Nat) : (⟨#[c]⟩ : Str).length = 1 := rfl
section
variable {P : Program} {w : World} {K : PySem.W.Frag} {mg : Str → Option Value} {base : Heap}
theorem fn_pq {x qual : Str} {params : Arguments} {body : List Stmt} {scope : Scope} {f : Addr} {fd : FuncData} {N ps : List Str} {k : Nat} {Pre : List D → Prop} {Post : List D → D → Prop} (F : FunD K x qual params body scope [] [] f fd) (S : FnScope N ps scope)
    (len : ∀ ds, Pre ds → ds.length = ps.length)
    (hb : ∀ (cdv : Value) (A : Around) (outer : List PySem.Env) (s : Shared) (H : Hp) (E : XK), Room k (A.deeper (envOfC qual scope s.heap.objs.size f cdv)) →
      ∃ t, PSs (cxOf CX0 P w K mg base N qual scope f cdv A outer s H E) body t ∧ ∀ ds, Pre ds → DL.ST K E0 t (start0 N.length ds) (fun o => ∃ d, o = .rt d ∧ Post ds d)) : FnOk P w K mg base CX0 (k + 1) f fd ps (PQ K Pre Post) := by
  refine F.ok S (fun vs H Q E h => ?_) (fun cdv A outer s H vs Q E hr h => ?_)
  · obtain ⟨G, ds, g, ha, hR, q⟩ := h
    exact ha.length.trans (len ds hR)
  · obtain ⟨t, h1, h2⟩ := hb cdv A outer s H E hr
    obtain ⟨G, ds, g, ha, hR, q⟩ := h
    exact ⟨t, h1, h2 ds hR G H G H _ _ (en_start g ha) ⟨(fun _ _ _ _ ⟨_, p, _⟩ _ => nomatch p), (fun d' v G' H' ⟨d, p, hp⟩ x hv => by cases p; exact q _ v G' H' hp x hv), (fun _ _ _ _ ⟨_, p, _⟩ _ => nomatch p), (fun _ _ _ _ ⟨_, p, _⟩ _ => nomatch p), (fun _ _ _ _ _ _ ⟨_, p, _⟩ => nomatch p)⟩⟩
end
end DL

namespace K01
open PySem L2 DL
/-! what the defs answer, by data -/
abbrev sL : Str := "abcdefghijklmnopqrstuvwxyz"
abbrev sF : Str := "0123456789"
abbrev sLF : Str := "abcdefghijklmnopqrstuvwxyz0123456789"
def badAt (z : Str) (i : Nat) : Bool := !decide (z.cps.getD i 0 ∈ sL.cps.toList) && (decide ((i : Int) = 0) || !decide (z.cps.getD i 0 ∈ sF.cps.toList))
def lenOk (z : Str) : Bool := decide (1 ≤ (z.length : Int)) && decide ((z.length : Int) ≤ 8)
def optD : Option Nat → D
  | none => .none
  | some i => .int (i : Nat)
/-- name_fault -/
def nfD : D → D
  | .str z => if lenOk z = true then optD (firstP (badAt z) z.cps.size) else .int (-1)
  | _ => .int (-1)
/-- data that the law hands on: no dicts, no endless texts -/
def okD : D → Bool
  | .str z => decide (z.length ≤ 1000)
  | d => !isDicD d
def sp_name_fault (K : PySem.W.Frag) : Sp := PF K fun ds d => ∃ x, ds = [x] ∧ okD x = true ∧ d = nfD x
def lenD : D → Int
  | .str z => z.length
  | _ => 0
def sp_check_name (K : PySem.W.Frag) : Sp := PX K (fun ds d => ∃ x, ds = [x] ∧ okD x = true ∧ nfD x = .none ∧ d = .int (lenD x))
  (fun ds C fl => ∃ x, ds = [x] ∧ okD x = true ∧ nfD x ≠ .none ∧ C = He.ga K "BadName" ∧ fl = [(("at" : Str), nfD x)])
def isSideD : D → Bool
  | .str z => inD (.str z) [.str "E", .str "N", .str "W", .str "S"]
  | _ => false
def sp_is_side (K : PySem.W.Frag) : Sp := PF K fun ds d => ∃ x, ds = [x] ∧ okD x = true ∧ d = .bool (isSideD x)
/-! directions by their places -/
def dirS (k : Int) : Str := if k = 0 then "E" else if k = 1 then "N" else if k = 2 then "W" else "S"
def sp_direction_number (K : PySem.W.Frag) : Sp := PF K fun ds d => ∃ k : Int, ds = [.str (dirS k)] ∧ (0 ≤ k ∧ k < 4) ∧ d = .int k
def sp_direction_by (K : PySem.W.Frag) : Sp := PF K fun ds d => ∃ n : Int, ds = [.int n] ∧ d = .str (dirS (n % 4))
def sp_turned_direction (K : PySem.W.Frag) : Sp := PF K fun ds d => ∃ k n : Int, ds = [.str (dirS k), .int n] ∧ (0 ≤ k ∧ k < 4) ∧ d = .str (dirS ((k + n) % 4))
def sp_opposite_of (K : PySem.W.Frag) : Sp := PF K fun ds d => ∃ k : Int, ds = [.str (dirS k)] ∧ (0 ≤ k ∧ k < 4) ∧ d = .str (dirS ((k + 2) % 4))
def sp_mirrored_direction (K : PySem.W.Frag) : Sp := PF K fun ds d => ∃ k : Int, ds = [.str (dirS k)] ∧ (0 ≤ k ∧ k < 4) ∧ d = .str (dirS ((2 - k) % 4))
def sp_quarters_between (K : PySem.W.Frag) : Sp := PF K fun ds d => ∃ k j : Int, ds = [.str (dirS k), .str (dirS j)] ∧ (0 ≤ k ∧ k < 4) ∧ (0 ≤ j ∧ j < 4) ∧ d = .int ((j - k) % 4)
def sp_beside_side (K : PySem.W.Frag) : Sp := PF K fun ds d => ∃ k : Int, ds = [.str (dirS k)] ∧ (0 ≤ k ∧ k < 4) ∧ d = .tuple [.str (dirS ((k - 1) % 4)), .str (dirS ((k + 1) % 4))]
def ordS (p : D → Bool) : List Str := (["E", "N", "W", "S"] : List Str).filter fun z => p (.str z)
def sp_ordered_directions (K : PySem.W.Frag) : Sp := PF K fun ds d => ∃ ts, ds = [.tuple ts] ∧ ts.all flatD = true ∧ d = .str (Txt.join Str.empty (ordS fun x => inD x ts))
/-! the law's own defs -/
def sp_u_law_pool (K : PySem.W.Frag) : Sp := PQ K (fun ds => ∃ (ns : List Int) (m : Int), ds = [.dict [(.none, .list (ns.map PyData.int))], .int m] ∧ ns.length ≤ 63 ∧ 0 ≤ m ∧ m ≤ 100000)
  (fun ds d => ∃ (m : Int) (c : D) (ps : List Int), ds = [c, .int m] ∧ d = .list (ps.map PyData.int) ∧ (ps.length : Int) = m)
/-- data that are compared: flat, or a list, a tuple of such -/
def cmpD : D → Bool
  | .list ds => ds.all flatD && decide (ds.length ≤ 1000)
  | .tuple ds => ds.all flatD && decide (ds.length ≤ 1000)
  | d => flatD d
def sp_u_law_same (K : PySem.W.Frag) : Sp := PF K fun ds d => ∃ x, ds = [x, x] ∧ cmpD x = true ∧ d = .bool true
def plD : D → D
  | .str z => if lenOk z = true then (match firstP (badAt z) z.cps.size with
    | none => .list [.bool false, .int z.length]
    | some i => .list [.bool true, .int (i : Nat)]) else .list [.bool true, .int (-1)]
  | _ => .list [.bool true, .int (-1)]
def sp_u_law_place (K : PySem.W.Frag) : Sp := PF K fun ds d => ∃ x, ds = [x] ∧ okD x = true ∧ d = plD x
def sp_u_law_told (K : PySem.W.Frag) : Sp := PF K fun ds d => ∃ x, ds = [x] ∧ okD x = true ∧ d = plD x
def pI (ps : List Int) (i : Int) : Int := ps.getD i.toNat 0
def chS (z : Str) (i : Int) : Str := ⟨#[z.cps.toList.getD i.toNat 0]⟩
/-- the name of n + 1 characters that begins at b -/
def nmS (ps : List Int) (b : Int) : Nat → Str
  | 0 => chS sL (pI ps b % 26)
  | n + 1 => nmS ps b n ++ chS sLF (pI ps (b + (1 + (n : Nat))) % 36)
def sp_u_law_name (K : PySem.W.Frag) : Sp := PF K fun ds d => ∃ (ps : List Int) (b : Int) (m : Int), ds = [.list (ps.map PyData.int), .int b, .int m] ∧ 0 ≤ b ∧ 0 ≤ m ∧ m ≤ 9 ∧ b < ps.length ∧ b + m ≤ ps.length ∧ d = .str (nmS ps b (m - 1).toNat)
def nearS (p k : Int) : Str := if (decide (p = 0) && decide (k % 5 = 0)) = true then "0123456789" else "`{/:\x40[AZ_ -~!.*E"
def exS (z : Str) (p k : Int) : Str := cutS z none (some p) ++ chS (nearS p k) (k / 5 % (nearS p k).length) ++ cutS z (some (p + 1)) none
def sp_u_law_exchanged (K : PySem.W.Frag) : Sp := PF K fun ds d => ∃ (z : Str) (p k : Int), ds = [.str z, .int p, .int k] ∧ z.length ≤ 100 ∧ d = .str (exS z p k)
def manyI (ps : List Int) (b : Int) : Int := if decide (pI ps (b + 1) % 4 = 0) = true then (if decide (pI ps b % 2 = 0) = true then 8 else 1) else 1 + pI ps b % 8
def namesT (ps : List Int) (b : Int) : List Str :=
  let m := manyI ps b
  let z := nmS ps (b + 2) (m - 1).toNat
  let one := exS z (pI ps (b + 10) % m) (pI ps (b + 11))
  let l := z ++ nmS ps (b + 14) (9 - m - 1).toNat
  [z, one, exS one (pI ps (b + 12) % m) (pI ps (b + 13)), l, exS l (pI ps (b + 23) % 9) (pI ps (b + 11)), l ++ z, cutS l none (some 8), cutS l (some 1) none, z ++ " ", " " ++ z]
def namesN (ps : List Int) : Nat → List Str
  | 0 => []
  | n + 1 => namesN ps n ++ namesT ps ((n : Nat) * 24)
def sp_u_law_names (K : PySem.W.Frag) : Sp := PF K fun ds d => ∃ ps : List Int, ds = [.list (ps.map PyData.int)] ∧ ps.length = 70 ∧ d = .list ((namesN ps 2).map PyData.str)
def sp_law (K : PySem.W.Frag) : Sp := PF K fun ds d => ∃ ns : List Int, ds = [.dict [(.none, .list (ns.map PyData.int))]] ∧ ns.length ≤ 63 ∧ d = .bool true
end K01

set_option maxHeartbeats 4000000
namespace K01
open PySem PySem.Spec PyProof.Rows L2 DL
/-! printed by gen.py: the text by places, the names, the readings -/
def top (i : Nat) : Stmt := PySem.Challenge.pw_wallsaswished_k01_names_and_directions.main.body.getD i (.Pass ⟨0, 0, 0, 0⟩)
abbrev s_name_fault : Stmt := top 13
abbrev N_name_fault : List Str := ["thing", "place", "sign"]
theorem sc_name_fault : FnScope N_name_fault ["thing"] (defScope s_name_fault) := ⟨rfl, rfl, rfl, by decide +kernel, rfl, by decide +kernel, by decide +kernel⟩
abbrev s_check_name : Stmt := top 11
abbrev N_check_name : List Str := ["thing", "fault"]
theorem sc_check_name : FnScope N_check_name ["thing"] (defScope s_check_name) := ⟨rfl, rfl, rfl, by decide +kernel, rfl, by decide +kernel, by decide +kernel⟩
abbrev s_is_side : Stmt := top 12
abbrev N_is_side : List Str := ["thing"]
theorem sc_is_side : FnScope N_is_side ["thing"] (defScope s_is_side) := ⟨rfl, rfl, rfl, by decide +kernel, rfl, by decide +kernel, by decide +kernel⟩
abbrev s_direction_number : Stmt := top 16
abbrev N_direction_number : List Str := ["direction"]
theorem sc_direction_number : FnScope N_direction_number ["direction"] (defScope s_direction_number) := ⟨rfl, rfl, rfl, by decide +kernel, rfl, by decide +kernel, by decide +kernel⟩
abbrev s_direction_by : Stmt := top 17
abbrev N_direction_by : List Str := ["number"]
theorem sc_direction_by : FnScope N_direction_by ["number"] (defScope s_direction_by) := ⟨rfl, rfl, rfl, by decide +kernel, rfl, by decide +kernel, by decide +kernel⟩
abbrev s_turned_direction : Stmt := top 18
abbrev N_turned_direction : List Str := ["direction", "n"]
theorem sc_turned_direction : FnScope N_turned_direction ["direction", "n"] (defScope s_turned_direction) := ⟨rfl, rfl, rfl, by decide +kernel, rfl, by decide +kernel, by decide +kernel⟩
abbrev s_opposite_of : Stmt := top 19
abbrev N_opposite_of : List Str := ["direction"]
theorem sc_opposite_of : FnScope N_opposite_of ["direction"] (defScope s_opposite_of) := ⟨rfl, rfl, rfl, by decide +kernel, rfl, by decide +kernel, by decide +kernel⟩
abbrev s_mirrored_direction : Stmt := top 20
abbrev N_mirrored_direction : List Str := ["direction"]
theorem sc_mirrored_direction : FnScope N_mirrored_direction ["direction"] (defScope s_mirrored_direction) := ⟨rfl, rfl, rfl, by decide +kernel, rfl, by decide +kernel, by decide +kernel⟩
abbrev s_quarters_between : Stmt := top 21
abbrev N_quarters_between : List Str := ["one", "other"]
theorem sc_quarters_between : FnScope N_quarters_between ["one", "other"] (defScope s_quarters_between) := ⟨rfl, rfl, rfl, by decide +kernel, rfl, by decide +kernel, by decide +kernel⟩
abbrev s_beside_side : Stmt := top 22
abbrev N_beside_side : List Str := ["side", "number"]
theorem sc_beside_side : FnScope N_beside_side ["side"] (defScope s_beside_side) := ⟨rfl, rfl, rfl, by decide +kernel, rfl, by decide +kernel, by decide +kernel⟩
abbrev s_ordered_directions : Stmt := top 23
abbrev N_ordered_directions : List Str := ["directions", "direction"]
theorem sc_ordered_directions : FnScope N_ordered_directions ["directions"] (defScope s_ordered_directions) := ⟨rfl, rfl, rfl, by decide +kernel, rfl, by decide +kernel, by decide +kernel⟩
abbrev s_u_law_pool : Stmt := top 25
abbrev N_u_law_pool : List Str := ["script", "many", "cells", "cell", "rest", "pool", "k", "at", "mixed"]
theorem sc_u_law_pool : FnScope N_u_law_pool ["script", "many"] (defScope s_u_law_pool) := ⟨rfl, rfl, rfl, by decide +kernel, rfl, by decide +kernel, by decide +kernel⟩
abbrev s_u_law_same : Stmt := top 26
abbrev N_u_law_same : List Str := ["told", "due", "place"]
theorem sc_u_law_same : FnScope N_u_law_same ["told", "due"] (defScope s_u_law_same) := ⟨rfl, rfl, rfl, by decide +kernel, rfl, by decide +kernel, by decide +kernel⟩
abbrev s_u_law_place : Stmt := top 27
abbrev N_u_law_place : List Str := ["thing", "place", "let"]
theorem sc_u_law_place : FnScope N_u_law_place ["thing"] (defScope s_u_law_place) := ⟨rfl, rfl, rfl, by decide +kernel, rfl, by decide +kernel, by decide +kernel⟩
abbrev s_u_law_told : Stmt := top 28
abbrev N_u_law_told : List Str := ["thing", "told", "e"]
theorem sc_u_law_told : FnScope N_u_law_told ["thing"] (defScope s_u_law_told) := ⟨rfl, rfl, rfl, by decide +kernel, rfl, by decide +kernel, by decide +kernel⟩
abbrev s_u_law_name : Stmt := top 29
abbrev N_u_law_name : List Str := ["pool", "begin", "many", "name", "k"]
theorem sc_u_law_name : FnScope N_u_law_name ["pool", "begin", "many"] (defScope s_u_law_name) := ⟨rfl, rfl, rfl, by decide +kernel, rfl, by decide +kernel, by decide +kernel⟩
abbrev s_u_law_exchanged : Stmt := top 30
abbrev N_u_law_exchanged : List Str := ["name", "place", "pick", "near"]
theorem sc_u_law_exchanged : FnScope N_u_law_exchanged ["name", "place", "pick"] (defScope s_u_law_exchanged) := ⟨rfl, rfl, rfl, by decide +kernel, rfl, by decide +kernel, by decide +kernel⟩
abbrev s_u_law_names : Stmt := top 31
abbrev N_u_law_names : List Str := ["pool", "things", "turn", "begin", "many", "name", "place", "one", "longer"]
theorem sc_u_law_names : FnScope N_u_law_names ["pool"] (defScope s_u_law_names) := ⟨rfl, rfl, rfl, by decide +kernel, rfl, by decide +kernel, by decide +kernel⟩
abbrev s_law : Stmt := top 32
abbrev N_law : List Str := ["script", "pool", "rows", "things", "yes", "thing", "order", "k", "n", "j", "picks", "long", "given", "due", "direction"]
theorem sc_law : FnScope N_law ["script"] (defScope s_law) := ⟨rfl, rfl, rfl, by decide +kernel, rfl, by decide +kernel, by decide +kernel⟩
abbrev s_i_BadName : Stmt := inClass (top 6) 0
theorem sc_i_BadName : FnScope ["self", "at"] ["self", "at"] (defScope s_i_BadName) := ⟨rfl, rfl, rfl, by decide +kernel, rfl, by decide +kernel, by decide +kernel⟩
structure Txt (K : PySem.W.Frag) (mg : Str → Option Value) : Prop where
  f_ValueError : mg "ValueError" = none
  f_bool : mg "bool" = none
  f_enumerate : mg "enumerate" = none
  f_int : mg "int" = none
  f_isinstance : mg "isinstance" = none
  f_len : mg "len" = none
  f_list : mg "list" = none
  f_range : mg "range" = none
  f_str : mg "str" = none
  f_tuple : mg "tuple" = none
  g_PlanError : mg "PlanError" = some (.ref (He.ga K "PlanError"))
  g_DataError : mg "DataError" = some (.ref (He.ga K "DataError"))
  g_CallError : mg "CallError" = some (.ref (He.ga K "CallError"))
  g_TextError : mg "TextError" = some (.ref (He.ga K "TextError"))
  g_BadName : mg "BadName" = some (.ref (He.ga K "BadName"))
  c_NAME_MOST : ∃ t, mg "NAME_MOST" = some (.int 8 t)
  g_SIDES : mg "SIDES" = some (.ref (He.ga K "SIDES"))
  t_SIDES : ∀ H : Hp, SqT K H (He.ga K "SIDES") [.str "E", .str "N", .str "W", .str "S"]
  c_LETTERS : ∃ t, mg "LETTERS" = some (.str "abcdefghijklmnopqrstuvwxyz" t)
  c_FIGURES : ∃ t, mg "FIGURES" = some (.str "0123456789" t)
  c_DIRECTIONS : ∃ t, mg "DIRECTIONS" = some (.str "ENWS" t)
  n_BadName_at : PySem.W.findIn K (.ref (He.ga K "BadName")) "at" = some none
  x_PlanError : ExF K (He.ga K "PlanError")
  x_DataError : ExF K (He.ga K "DataError")
  x_CallError : ExF K (He.ga K "CallError")
  x_TextError : ExF K (He.ga K "TextError")
  x_BadName : ExF K (He.ga K "BadName")
  i_BadName : PySem.W.findIn K (.ref (He.ga K "BadName")) "__init__" = some (some (.ref (He.ma K (He.ga K "BadName") "__init__"))) ∧ PySem.W.typeIn K (.ref (He.ma K (He.ga K "BadName") "__init__")) = some (.type "function")
  k_BadName_BadName : PySem.W.kitOne K (.ref (He.ga K "BadName")) (.ref (He.ga K "BadName")) = some true
  k_BadName_DataError : PySem.W.kitOne K (.ref (He.ga K "BadName")) (.ref (He.ga K "DataError")) = some true
  k_BadName_ValueError : PySem.W.kitOne K (.ref (He.ga K "BadName")) (.type "ValueError") = some true
  k_BadName_CallError : PySem.W.kitOne K (.ref (He.ga K "BadName")) (.ref (He.ga K "CallError")) = some false
  k_BadName_TextError : PySem.W.kitOne K (.ref (He.ga K "BadName")) (.ref (He.ga K "TextError")) = some false
  e_BadName_PlanError : PySem.W.exmOne K (.ref (He.ga K "BadName")) (.ref (He.ga K "PlanError")) = some true

section
variable {P : Program} {w : World} {K : PySem.W.Frag} {mg : Str → Option Value} {base : Heap}
def t_name_fault (K : PySem.W.Frag) : TS := (tSeq (tIfS (tOr (tNot (tTr K (tCB (rIsi K) (tCons (tVar 0) (tCons (tC (.ty "str")) tNil))))) (tNot (tTest (tChain rLeU rLeU (tC (.int 1)) (tCB (rLen K) (tCons (tVar 0) tNil)) (tC (.int 8)))))) (tRet (tUn (rU fun i => .int (-i)) (tC (.int 1)))) tNext)
 (tSeq (tFor (iEnumU K (tCons (tVar 0) tNil)) (gTup K 2 (gCons (gName 1) (gCons (gName 2) gNil))) (tIfS (tAnd (tTest (tOp (rNinU K) (tVar 2) (tC (.str "abcdefghijklmnopqrstuvwxyz")))) (tOr (tTest (tOp (rEqU K) (tVar 1) (tC (.int 0)))) (tTest (tOp (rNinU K) (tVar 2) (tC (.str "0123456789")))))) (tRet (tVar 1)) tNext))
 (tRet (tC .non))))
theorem dv_name_fault (T : Txt K mg)  {f : Addr} (cdv : Value) (A : Around) (outer : List PySem.Env) (s : Shared) (H : Hp) (E : XK) (hr : Room 0 (A.deeper (envOfC "name_fault" (defScope s_name_fault) s.heap.objs.size f cdv))) :
    PSs (cxOf CX0 P w K mg base N_name_fault "name_fault" (defScope s_name_fault) f cdv A outer s H E) (defBody s_name_fault) (t_name_fault K) := by
  have sc := sc_name_fault
  have pa : PassesOwn (model P w) (cxOf CX0 P w K mg base N_name_fault "name_fault" (defScope s_name_fault) f cdv A outer s H E).A (cxOf CX0 P w K mg base N_name_fault "name_fault" (defScope s_name_fault) f cdv A outer s H E).env (cxOf CX0 P w K mg base N_name_fault "name_fault" (defScope s_name_fault) f cdv A outer s H E).xe := passes_of rfl
  exact (pss_cons (ps_if (PW.pt (pw_or (pt_not (pt_tr (pe_callB (r := rIsi _) call_isi rfl T.f_isinstance b_isinstance (pa_cons (pv 0) (pa_cons (pe_bltn (v := .ty "str") rfl T.f_str b_str rfl) pa_nil))))) (pw_or1 (pt_not (pt_chain op_leU op_leU pe_int (pe_callB (r := rLen _) call_len rfl T.f_len b_len (pa_cons (pv 0) pa_nil)) (pe_gint T.c_NAME_MOST)))))) (pss_one (ps_ret (pe_un un_neg pe_int))) pss_nil)
 (pss_cons (ps_for pa rfl (pi_enumU rfl T.f_enumerate (pa_cons (pv 0) pa_nil)) (pg_tup rfl (pgs_cons (pg_name (i := 1) sc.nd rfl (by first | exact Or.inl rfl | exact Or.inr rfl)) (pgs_cons (pg_name (i := 2) sc.nd rfl (by first | exact Or.inl rfl | exact Or.inr rfl)) pgs_nil))) (pss_one (ps_if (PW.pt (pw_and (pt_cmpR op_ninU (pv 2) (pe_gstr T.c_LETTERS) rfl) (pw_and1 (PW.pt (pw_or (pt_cmpR (op_eqU hr.units) (pv 1) pe_int (nomark _)) (pw_or1 (pt_cmpR op_ninU (pv 2) (pe_gstr T.c_FIGURES) rfl))))))) (pss_one (ps_ret (pv 1))) pss_nil)))
 (pss_one (ps_ret pe_non))))
def t_check_name (K : PySem.W.Frag) (Ex : XK) : TS := (tSeq (tAsg (tCall (sp_name_fault K) [] E0 (tCons (tVar 0) tNil)) (gName 1))
 (tSeq (tIfS (tB (tNotN (tVar 1))) (tRaiseO K (He.ga K "BadName") ["at"] Ex (tCons (tVar 1) tNil)) tNext)
 (tRet (tCB (rLen K) (tCons (tVar 0) tNil)))))
theorem dv_check_name (T : Txt K mg) (O_name_fault : Okd P w K mg base CX0 1 "name_fault" ["thing"] (sp_name_fault K)) (X_BadName : ExOk P w K mg base 1 "BadName" ["at"]) {f : Addr} (cdv : Value) (A : Around) (outer : List PySem.Env) (s : Shared) (H : Hp) (E : XK) (hr : Room 2 (A.deeper (envOfC "check_name" (defScope s_check_name) s.heap.objs.size f cdv))) :
    PSs (cxOf (L2.CX P w) P w K mg base N_check_name "check_name" (defScope s_check_name) f cdv A outer s H E) (defBody s_check_name) (t_check_name K E) := by
  have sc := sc_check_name
  have tk : Takes (cxOf (L2.CX P w) P w K mg base N_check_name "check_name" (defScope s_check_name) f cdv A outer s H E) (fun cls d _ H => E cls d H) := takes_of rfl rfl rfl rfl
  exact (pss_cons (ps_set (i := 1) sc.nd rfl (by first | exact Or.inl rfl | exact Or.inr rfl) (pe_callD O_name_fault hr (by decide) (pa_cons (pv 0) pa_nil)))
 (pss_cons (ps_if (pt_cmp (pc_notN (pv 1))) (pss_one (ps_raiseO X_BadName hr (by decide) rfl tk (pa_cons (pv 1) pa_nil))) pss_nil)
 (pss_one (ps_ret (pe_callB (r := rLen _) call_len rfl T.f_len b_len (pa_cons (pv 0) pa_nil))))))
def t_is_side (K : PySem.W.Frag) : TS := (tRet (tAndV (tCB (rIsi K) (tCons (tVar 0) (tCons (tC (.ty "str")) tNil))) (tOp (rInU K) (tVar 0) (tC (.ref (He.ga K "SIDES"))))))
theorem dv_is_side (T : Txt K mg)  {f : Addr} (cdv : Value) (A : Around) (outer : List PySem.Env) (s : Shared) (H : Hp) (E : XK) (hr : Room 0 (A.deeper (envOfC "is_side" (defScope s_is_side) s.heap.objs.size f cdv))) :
    PSs (cxOf CX0 P w K mg base N_is_side "is_side" (defScope s_is_side) f cdv A outer s H E) (defBody s_is_side) (t_is_side K) := by
  have sc := sc_is_side
  exact (pss_one (ps_ret (pe_and (pe_callB (r := rIsi _) call_isi rfl T.f_isinstance b_isinstance (pa_cons (pv 0) (pa_cons (pe_bltn (v := .ty "str") rfl T.f_str b_str rfl) pa_nil))) (pe_one (pe_cmpR op_inU (pv 0) (pe_gref T.g_SIDES) rfl)))))
def t_direction_number (K : PySem.W.Frag) : TS := (tRet (tM1 rSIx (tC (.str "ENWS")) (tVar 0)))
theorem dv_direction_number (T : Txt K mg)  {f : Addr} (cdv : Value) (A : Around) (outer : List PySem.Env) (s : Shared) (H : Hp) (E : XK) (hr : Room 0 (A.deeper (envOfC "direction_number" (defScope s_direction_number) s.heap.objs.size f cdv))) :
    PSs (cxOf CX0 P w K mg base N_direction_number "direction_number" (defScope s_direction_number) f cdv A outer s H E) (defBody s_direction_number) (t_direction_number K) := by
  have sc := sc_direction_number
  exact (pss_one (ps_ret (pe_sindex (pe_gstr T.c_DIRECTIONS) (pv 0))))
def t_direction_by (K : PySem.W.Frag) : TS := (tRet (tOp (rIx K) (tC (.str "ENWS")) (tOp rModU (tVar 0) (tC (.int 4)))))
theorem dv_direction_by (T : Txt K mg)  {f : Addr} (cdv : Value) (A : Around) (outer : List PySem.Env) (s : Shared) (H : Hp) (E : XK) (hr : Room 0 (A.deeper (envOfC "direction_by" (defScope s_direction_by) s.heap.objs.size f cdv))) :
    PSs (cxOf CX0 P w K mg base N_direction_by "direction_by" (defScope s_direction_by) f cdv A outer s H E) (defBody s_direction_by) (t_direction_by K) := by
  have sc := sc_direction_by
  exact (pss_one (ps_ret (pe_ix ix_seq (pe_gstr T.c_DIRECTIONS) (pe_op op_mod (pv 0) pe_int) (fun _ _ => rfl))))
def t_turned_direction (K : PySem.W.Frag) : TS := (tRet (tCall (sp_direction_by K) [] E0 (tCons (tOp (rAddU K) (tCall (sp_direction_number K) [] E0 (tCons (tVar 0) tNil)) (tVar 1)) tNil)))
theorem dv_turned_direction (T : Txt K mg) (O_direction_by : Okd P w K mg base CX0 1 "direction_by" ["number"] (sp_direction_by K)) (O_direction_number : Okd P w K mg base CX0 1 "direction_number" ["direction"] (sp_direction_number K)) {f : Addr} (cdv : Value) (A : Around) (outer : List PySem.Env) (s : Shared) (H : Hp) (E : XK) (hr : Room 1 (A.deeper (envOfC "turned_direction" (defScope s_turned_direction) s.heap.objs.size f cdv))) :
    PSs (cxOf CX0 P w K mg base N_turned_direction "turned_direction" (defScope s_turned_direction) f cdv A outer s H E) (defBody s_turned_direction) (t_turned_direction K) := by
  have sc := sc_turned_direction
  exact (pss_one (ps_ret (pe_callD O_direction_by hr (by decide) (pa_cons (pe_op op_addU (pe_callD O_direction_number hr (by decide) (pa_cons (pv 0) pa_nil)) (pv 1)) pa_nil))))
def t_opposite_of (K : PySem.W.Frag) : TS := (tRet (tCall (sp_direction_by K) [] E0 (tCons (tOp (rAddU K) (tCall (sp_direction_number K) [] E0 (tCons (tVar 0) tNil)) (tC (.int 2))) tNil)))
theorem dv_opposite_of (T : Txt K mg) (O_direction_by : Okd P w K mg base CX0 1 "direction_by" ["number"] (sp_direction_by K)) (O_direction_number : Okd P w K mg base CX0 1 "direction_number" ["direction"] (sp_direction_number K)) {f : Addr} (cdv : Value) (A : Around) (outer : List PySem.Env) (s : Shared) (H : Hp) (E : XK) (hr : Room 1 (A.deeper (envOfC "opposite_of" (defScope s_opposite_of) s.heap.objs.size f cdv))) :
    PSs (cxOf CX0 P w K mg base N_opposite_of "opposite_of" (defScope s_opposite_of) f cdv A outer s H E) (defBody s_opposite_of) (t_opposite_of K) := by
  have sc := sc_opposite_of
  exact (pss_one (ps_ret (pe_callD O_direction_by hr (by decide) (pa_cons (pe_op op_addU (pe_callD O_direction_number hr (by decide) (pa_cons (pv 0) pa_nil)) pe_int) pa_nil))))
def t_mirrored_direction (K : PySem.W.Frag) : TS := (tRet (tCall (sp_direction_by K) [] E0 (tCons (tOp rSubU (tC (.int 2)) (tCall (sp_direction_number K) [] E0 (tCons (tVar 0) tNil))) tNil)))
theorem dv_mirrored_direction (T : Txt K mg) (O_direction_by : Okd P w K mg base CX0 1 "direction_by" ["number"] (sp_direction_by K)) (O_direction_number : Okd P w K mg base CX0 1 "direction_number" ["direction"] (sp_direction_number K)) {f : Addr} (cdv : Value) (A : Around) (outer : List PySem.Env) (s : Shared) (H : Hp) (E : XK) (hr : Room 1 (A.deeper (envOfC "mirrored_direction" (defScope s_mirrored_direction) s.heap.objs.size f cdv))) :
    PSs (cxOf CX0 P w K mg base N_mirrored_direction "mirrored_direction" (defScope s_mirrored_direction) f cdv A outer s H E) (defBody s_mirrored_direction) (t_mirrored_direction K) := by
  have sc := sc_mirrored_direction
  exact (pss_one (ps_ret (pe_callD O_direction_by hr (by decide) (pa_cons (pe_op op_sub pe_int (pe_callD O_direction_number hr (by decide) (pa_cons (pv 0) pa_nil))) pa_nil))))
def t_quarters_between (K : PySem.W.Frag) : TS := (tRet (tOp rModU (tOp rSubU (tCall (sp_direction_number K) [] E0 (tCons (tVar 1) tNil)) (tCall (sp_direction_number K) [] E0 (tCons (tVar 0) tNil))) (tC (.int 4))))
theorem dv_quarters_between (T : Txt K mg) (O_direction_number : Okd P w K mg base CX0 1 "direction_number" ["direction"] (sp_direction_number K)) {f : Addr} (cdv : Value) (A : Around) (outer : List PySem.Env) (s : Shared) (H : Hp) (E : XK) (hr : Room 1 (A.deeper (envOfC "quarters_between" (defScope s_quarters_between) s.heap.objs.size f cdv))) :
    PSs (cxOf CX0 P w K mg base N_quarters_between "quarters_between" (defScope s_quarters_between) f cdv A outer s H E) (defBody s_quarters_between) (t_quarters_between K) := by
  have sc := sc_quarters_between
  exact (pss_one (ps_ret (pe_op op_mod (pe_op op_sub (pe_callD O_direction_number hr (by decide) (pa_cons (pv 1) pa_nil)) (pe_callD O_direction_number hr (by decide) (pa_cons (pv 0) pa_nil))) pe_int)))
def t_beside_side (K : PySem.W.Frag) : TS := (tSeq (tAsg (tCall (sp_direction_number K) [] E0 (tCons (tVar 0) tNil)) (gName 1))
 (tRet (tTup (tCons (tCall (sp_direction_by K) [] E0 (tCons (tOp rSubU (tVar 1) (tC (.int 1))) tNil)) (tCons (tCall (sp_direction_by K) [] E0 (tCons (tOp (rAddU K) (tVar 1) (tC (.int 1))) tNil)) tNil)))))
theorem dv_beside_side (T : Txt K mg) (O_direction_number : Okd P w K mg base CX0 1 "direction_number" ["direction"] (sp_direction_number K)) (O_direction_by : Okd P w K mg base CX0 1 "direction_by" ["number"] (sp_direction_by K)) {f : Addr} (cdv : Value) (A : Around) (outer : List PySem.Env) (s : Shared) (H : Hp) (E : XK) (hr : Room 1 (A.deeper (envOfC "beside_side" (defScope s_beside_side) s.heap.objs.size f cdv))) :
    PSs (cxOf CX0 P w K mg base N_beside_side "beside_side" (defScope s_beside_side) f cdv A outer s H E) (defBody s_beside_side) (t_beside_side K) := by
  have sc := sc_beside_side
  exact (pss_cons (ps_set (i := 1) sc.nd rfl (by first | exact Or.inl rfl | exact Or.inr rfl) (pe_callD O_direction_number hr (by decide) (pa_cons (pv 0) pa_nil)))
 (pss_one (ps_ret (pe_tup (pa_cons (pe_callD O_direction_by hr (by decide) (pa_cons (pe_op op_sub (pv 1) pe_int) pa_nil)) (pa_cons (pe_callD O_direction_by hr (by decide) (pa_cons (pe_op op_addU (pv 1) pe_int) pa_nil)) pa_nil))))))
def t_ordered_directions (K : PySem.W.Frag) : TS := (tRet (tM1 (rJoinU K) (tC (.str "")) (tLc (iSeqU K (tC (.str "ENWS"))) (gName 1) (tTest (tOp (rInU K) (tVar 1) (tVar 0))) (tVar 1) [1])))
theorem dv_ordered_directions (T : Txt K mg)  {f : Addr} (cdv : Value) (A : Around) (outer : List PySem.Env) (s : Shared) (H : Hp) (E : XK) (hr : Room 0 (A.deeper (envOfC "ordered_directions" (defScope s_ordered_directions) s.heap.objs.size f cdv))) :
    PSs (cxOf CX0 P w K mg base N_ordered_directions "ordered_directions" (defScope s_ordered_directions) f cdv A outer s H E) (defBody s_ordered_directions) (t_ordered_directions K) := by
  have sc := sc_ordered_directions
  exact (pss_one (ps_ret (pe_joinU pe_str (pe_lc (own := [("direction", 1)]) (g := (gName 1)) (tt := (tTest (tOp (rInU K) (tVar 1) (tVar 0)))) rfl sc.nd (pi_seqU (pe_gstr T.c_DIRECTIONS)) (blkOk_by (own := [("direction", 1)]) (N := N_ordered_directions) (sc := defScope s_ordered_directions) (by decide +kernel)) (fun _ _ _ _ _ => (pg_name (i := 1) sc.nd rfl (by first | exact Or.inl rfl | exact Or.inr rfl))) (fun _ _ _ _ _ => (pts_one (pt_cmpR op_inU (pv 1) (pv 0) rfl))) (fun _ _ _ _ _ => (pv 1))))))
def t_u_law_pool (K : PySem.W.Frag) : TS := (tSeq (tAsg (tLc (iSeqU K (tSl (rSlU K) (tVar 0) tNoPart (tPart (tC (.int 63))))) (gName 3) tYes (tIf (tTest (tOp rGeU (tVar 3) (tC (.int 0)))) (tVar 3) (tUn (rU fun i => .int (-i)) (tVar 3))) [3]) (gName 2))
 (tSeq (tIfS (tTest (tOp (rEqU K) (tCB (rLen K) (tCons (tVar 2) tNil)) (tC (.int 0)))) (tAsg (tLst (tCons (tC (.int 37)) tNil)) (gName 2)) tNext)
 (tSeq (tAsg (tLc (iSeqU K (tVar 2)) (gName 3) tYes (tIf (tTest (tOp rGeU (tVar 3) (tOp rPowU (tC (.int 10)) (tC (.int 18))))) (tVar 3) (tC (.int 0))) [3]) (gName 4))
 (tSeq (tAsg (tLst tNil) (gName 5))
 (tSeq (tFor (iRng1 (tCons (tVar 1) tNil)) (gName 6) (tSeq (tAsg (tOp rModU (tVar 6) (tCB (rLen K) (tCons (tVar 2) tNil))) (gName 7))
 (tIfS (tTest (tOp rGtU (tOp (rIx K) (tVar 4) (tVar 7)) (tC (.int 0)))) (tSeq (tDrop (tBM K "list" rAppend (tVar 5) (tCons (tOp rModU (tCB rIntU (tCons (tOp (rIx K) (tVar 4) (tVar 7)) tNil)) (tC (.int 9973))) tNil)))
 (tAsg (tOp rDivU (tOp (rIx K) (tVar 4) (tVar 7)) (tC (.int 9973))) (gSub (tVar 4) (tVar 7) rSetL))) (tSeq (tAsg (tOp rModU (tCB rIntU (tCons (tOp (rAddU K) (tOp (rAddU K) (tOp rMulU (tOp (rIx K) (tVar 2) (tVar 7)) (tC (.int 40503))) (tOp rMulU (tVar 6) (tC (.int 65521)))) (tC (.int 1301))) tNil)) (tC (.int 2147483647))) (gName 8))
 (tDrop (tBM K "list" rAppend (tVar 5) (tCons (tOp rDivU (tOp rModU (tCB rIntU (tCons (tOp (rAddU K) (tOp rMulU (tVar 8) (tC (.int 48271))) (tOp rMulU (tVar 6) (tC (.int 17)))) tNil)) (tC (.int 2147483647))) (tC (.int 3))) tNil)))))))
 (tRet (tVar 5)))))))
theorem dv_u_law_pool (T : Txt K mg)  {f : Addr} (cdv : Value) (A : Around) (outer : List PySem.Env) (s : Shared) (H : Hp) (E : XK) (hr : Room 0 (A.deeper (envOfC "_law_pool" (defScope s_u_law_pool) s.heap.objs.size f cdv))) :
    PSs (cxOf CX0 P w K mg base N_u_law_pool "_law_pool" (defScope s_u_law_pool) f cdv A outer s H E) (defBody s_u_law_pool) (t_u_law_pool K) := by
  have sc := sc_u_law_pool
  have pa : PassesOwn (model P w) (cxOf CX0 P w K mg base N_u_law_pool "_law_pool" (defScope s_u_law_pool) f cdv A outer s H E).A (cxOf CX0 P w K mg base N_u_law_pool "_law_pool" (defScope s_u_law_pool) f cdv A outer s H E).env (cxOf CX0 P w K mg base N_u_law_pool "_law_pool" (defScope s_u_law_pool) f cdv A outer s H E).xe := passes_of rfl
  exact (pss_cons (ps_setLc (i := 2) (own := [("cell", 3)]) (g := (gName 3)) (tt := tYes) rfl sc.nd rfl rfl (sw_true rfl rfl rfl (by decide +kernel)) (pi_seqU (pe_slice sl_U (pv 0) po_none (po_some pe_int))) (blkOk_by (own := [("cell", 3)]) (N := N_u_law_pool) (sc := defScope s_u_law_pool) (by decide +kernel)) (fun _ _ _ _ _ => (pg_name (i := 3) sc.nd rfl (by first | exact Or.inl rfl | exact Or.inr rfl))) (fun _ _ _ _ _ => pts_nil) (fun _ _ _ _ _ => (pe_ifExp (pt_cmpR op_geU (pv 3) pe_int (nomark _)) (pv 3) (pe_un un_neg (pv 3)))))
 (pss_cons (ps_if (pt_cmpR (op_eqU hr.units) (pe_callB (r := rLen _) call_len rfl T.f_len b_len (pa_cons (pv 2) pa_nil)) pe_int (nomark _)) (pss_one (ps_set (i := 2) sc.nd rfl (by first | exact Or.inl rfl | exact Or.inr rfl) (pe_lst (pa_cons pe_int pa_nil)))) pss_nil)
 (pss_cons (ps_setLc (i := 4) (own := [("cell", 3)]) (g := (gName 3)) (tt := tYes) rfl sc.nd rfl rfl (sw_true rfl rfl rfl (by decide +kernel)) (pi_seqU (pv 2)) (blkOk_by (own := [("cell", 3)]) (N := N_u_law_pool) (sc := defScope s_u_law_pool) (by decide +kernel)) (fun _ _ _ _ _ => (pg_name (i := 3) sc.nd rfl (by first | exact Or.inl rfl | exact Or.inr rfl))) (fun _ _ _ _ _ => pts_nil) (fun _ _ _ _ _ => (pe_ifExp (pt_cmpR op_geU (pv 3) (pe_op op_pow pe_int pe_int) (nomark _)) (pv 3) pe_int)))
 (pss_cons (ps_set (i := 5) sc.nd rfl (by first | exact Or.inl rfl | exact Or.inr rfl) (pe_lst pa_nil))
 (pss_cons (ps_for pa rfl (pi_range1 rfl T.f_range (pa_cons (pv 1) pa_nil)) (pg_name (i := 6) sc.nd rfl (by first | exact Or.inl rfl | exact Or.inr rfl)) (pss_cons (ps_set (i := 7) sc.nd rfl (by first | exact Or.inl rfl | exact Or.inr rfl) (pe_op op_mod (pv 6) (pe_callB (r := rLen _) call_len rfl T.f_len b_len (pa_cons (pv 2) pa_nil))))
 (pss_one (ps_if (pt_cmpR op_gtU (pe_ix ix_seq (pv 4) (pv 7) (fun _ _ => rfl)) pe_int (nomark _)) (pss_cons (ps_expr (pe_bm PySem.F.plainAttrs_list PySem.F.slot_list_append PySem.F.type_list_append mt_append (pv 5) (pa_cons (pe_op op_mod (pe_callTy (r := rIntU) call_int1 rfl T.f_int b_int (pa_cons (pe_ix ix_seq (pv 4) (pv 7) (fun _ _ => rfl)) pa_nil)) pe_int) pa_nil)))
 (pss_one (ps_asg (pe_op op_fdiv (pe_ix ix_seq (pv 4) (pv 7) (fun _ _ => rfl)) pe_int) (pg_sub (pv 4) (pv 7) set_list)))) (pss_cons (ps_set (i := 8) sc.nd rfl (by first | exact Or.inl rfl | exact Or.inr rfl) (pe_op op_mod (pe_callTy (r := rIntU) call_int1 rfl T.f_int b_int (pa_cons (pe_op op_addU (pe_op op_addU (pe_op op_mulU (pe_ix ix_seq (pv 2) (pv 7) (fun _ _ => rfl)) pe_int) (pe_op op_mulU (pv 6) pe_int)) pe_int) pa_nil)) pe_int))
 (pss_one (ps_expr (pe_bm PySem.F.plainAttrs_list PySem.F.slot_list_append PySem.F.type_list_append mt_append (pv 5) (pa_cons (pe_op op_fdiv (pe_op op_mod (pe_callTy (r := rIntU) call_int1 rfl T.f_int b_int (pa_cons (pe_op op_addU (pe_op op_mulU (pv 8) pe_int) (pe_op op_mulU (pv 6) pe_int)) pa_nil)) pe_int) pe_int) pa_nil)))))))))
 (pss_one (ps_ret (pv 5))))))))
def t_u_law_same (K : PySem.W.Frag) (sp : Sp) : TS := (tSeq (tIfS (tOr (tTest (tOp (rNeU K) (tCB (rIsi K) (tCons (tVar 1) (tCons (tC (.ty "tuple")) tNil))) (tCB (rIsi K) (tCons (tVar 0) (tCons (tC (.ty "tuple")) tNil))))) (tTest (tOp (rNeU K) (tCB (rIsi K) (tCons (tVar 1) (tCons (tC (.ty "list")) tNil))) (tCB (rIsi K) (tCons (tVar 0) (tCons (tC (.ty "list")) tNil)))))) (tRet (tC (.bl false))) tNext)
 (tSeq (tIfS (tOr (tTr K (tCB (rIsi K) (tCons (tVar 1) (tCons (tC (.ty "tuple")) tNil)))) (tTr K (tCB (rIsi K) (tCons (tVar 1) (tCons (tC (.ty "list")) tNil))))) (tSeq (tIfS (tTest (tOp (rNeU K) (tCB (rLen K) (tCons (tVar 0) tNil)) (tCB (rLen K) (tCons (tVar 1) tNil)))) (tRet (tC (.bl false))) tNext)
 (tSeq (tFor (iRng1 (tCons (tCB (rLen K) (tCons (tVar 1) tNil)) tNil)) (gName 2) (tIfS (tNot (tTr K (tCall sp [] E0 (tCons (tOp (rIx K) (tVar 0) (tVar 2)) (tCons (tOp (rIx K) (tVar 1) (tVar 2)) tNil))))) (tRet (tC (.bl false))) tNext))
 (tRet (tC (.bl true))))) tNext)
 (tSeq (tIfS (tB (tIsN (tVar 1))) (tRet (tIsN (tVar 0))) tNext)
 (tSeq (tIfS (tTr K (tCB (rIsi K) (tCons (tVar 1) (tCons (tC (.ty "bool")) tNil)))) (tRet (tAndV (tCB (rIsi K) (tCons (tVar 0) (tCons (tC (.ty "bool")) tNil))) (tOp (rEqU K) (tVar 0) (tVar 1)))) tNext)
 (tSeq (tIfS (tTr K (tCB (rIsi K) (tCons (tVar 1) (tCons (tC (.ty "str")) tNil)))) (tRet (tAndV (tCB (rIsi K) (tCons (tVar 0) (tCons (tC (.ty "str")) tNil))) (tOp (rEqU K) (tVar 0) (tVar 1)))) tNext)
 (tRet (tAndV (tCB (rIsi K) (tCons (tVar 0) (tCons (tC (.ty "int")) tNil))) (tAndV (tNotV (tCB (rIsi K) (tCons (tVar 0) (tCons (tC (.ty "bool")) tNil)))) (tOp (rEqU K) (tVar 0) (tVar 1))))))))))
theorem dv_u_law_same {k : Nat} {sp : Sp} (T : Txt K mg) (O_u_law_same : Okd P w K mg base CX0 k "_law_same" ["told", "due"] sp) {f : Addr} (cdv : Value) (A : Around) (outer : List PySem.Env) (s : Shared) (H : Hp) (E : XK) (hr : Room k (A.deeper (envOfC "_law_same" (defScope s_u_law_same) s.heap.objs.size f cdv))) :
    PSs (cxOf CX0 P w K mg base N_u_law_same "_law_same" (defScope s_u_law_same) f cdv A outer s H E) (defBody s_u_law_same) (t_u_law_same K sp) := by
  have sc := sc_u_law_same
  have pa : PassesOwn (model P w) (cxOf CX0 P w K mg base N_u_law_same "_law_same" (defScope s_u_law_same) f cdv A outer s H E).A (cxOf CX0 P w K mg base N_u_law_same "_law_same" (defScope s_u_law_same) f cdv A outer s H E).env (cxOf CX0 P w K mg base N_u_law_same "_law_same" (defScope s_u_law_same) f cdv A outer s H E).xe := passes_of rfl
  exact (pss_cons (ps_if (PW.pt (pw_or (pt_cmpR (op_neU hr.units) (pe_callB (r := rIsi _) call_isi rfl T.f_isinstance b_isinstance (pa_cons (pv 1) (pa_cons (pe_bltn (v := .ty "tuple") rfl T.f_tuple b_tuple rfl) pa_nil))) (pe_callB (r := rIsi _) call_isi rfl T.f_isinstance b_isinstance (pa_cons (pv 0) (pa_cons (pe_bltn (v := .ty "tuple") rfl T.f_tuple b_tuple rfl) pa_nil))) (nomark _)) (pw_or1 (pt_cmpR (op_neU hr.units) (pe_callB (r := rIsi _) call_isi rfl T.f_isinstance b_isinstance (pa_cons (pv 1) (pa_cons (pe_bltn (v := .ty "list") rfl T.f_list b_list rfl) pa_nil))) (pe_callB (r := rIsi _) call_isi rfl T.f_isinstance b_isinstance (pa_cons (pv 0) (pa_cons (pe_bltn (v := .ty "list") rfl T.f_list b_list rfl) pa_nil))) (nomark _))))) (pss_one (ps_ret pe_bl)) pss_nil)
 (pss_cons (ps_if (PW.pt (pw_or (pt_tr (pe_callB (r := rIsi _) call_isi rfl T.f_isinstance b_isinstance (pa_cons (pv 1) (pa_cons (pe_bltn (v := .ty "tuple") rfl T.f_tuple b_tuple rfl) pa_nil)))) (pw_or1 (pt_tr (pe_callB (r := rIsi _) call_isi rfl T.f_isinstance b_isinstance (pa_cons (pv 1) (pa_cons (pe_bltn (v := .ty "list") rfl T.f_list b_list rfl) pa_nil))))))) (pss_cons (ps_if (pt_cmpR (op_neU hr.units) (pe_callB (r := rLen _) call_len rfl T.f_len b_len (pa_cons (pv 0) pa_nil)) (pe_callB (r := rLen _) call_len rfl T.f_len b_len (pa_cons (pv 1) pa_nil)) (nomark _)) (pss_one (ps_ret pe_bl)) pss_nil)
 (pss_cons (ps_for pa rfl (pi_range1 rfl T.f_range (pa_cons (pe_callB (r := rLen _) call_len rfl T.f_len b_len (pa_cons (pv 1) pa_nil)) pa_nil)) (pg_name (i := 2) sc.nd rfl (by first | exact Or.inl rfl | exact Or.inr rfl)) (pss_one (ps_if (pt_not (pt_tr (pe_callD O_u_law_same hr (Nat.le_refl _) (pa_cons (pe_ix ix_seq (pv 0) (pv 2) (fun _ _ => rfl)) (pa_cons (pe_ix ix_seq (pv 1) (pv 2) (fun _ _ => rfl)) pa_nil))))) (pss_one (ps_ret pe_bl)) pss_nil)))
 (pss_one (ps_ret pe_bl)))) pss_nil)
 (pss_cons (ps_if (pt_cmp (pc_isN (pv 1))) (pss_one (ps_ret (pe_cmp (pc_isN (pv 0)) rfl))) pss_nil)
 (pss_cons (ps_if (pt_tr (pe_callB (r := rIsi _) call_isi rfl T.f_isinstance b_isinstance (pa_cons (pv 1) (pa_cons (pe_bltn (v := .ty "bool") rfl T.f_bool b_bool rfl) pa_nil)))) (pss_one (ps_ret (pe_and (pe_callB (r := rIsi _) call_isi rfl T.f_isinstance b_isinstance (pa_cons (pv 0) (pa_cons (pe_bltn (v := .ty "bool") rfl T.f_bool b_bool rfl) pa_nil))) (pe_one (pe_cmpR (op_eqU hr.units) (pv 0) (pv 1) (nomark _)))))) pss_nil)
 (pss_cons (ps_if (pt_tr (pe_callB (r := rIsi _) call_isi rfl T.f_isinstance b_isinstance (pa_cons (pv 1) (pa_cons (pe_bltn (v := .ty "str") rfl T.f_str b_str rfl) pa_nil)))) (pss_one (ps_ret (pe_and (pe_callB (r := rIsi _) call_isi rfl T.f_isinstance b_isinstance (pa_cons (pv 0) (pa_cons (pe_bltn (v := .ty "str") rfl T.f_str b_str rfl) pa_nil))) (pe_one (pe_cmpR (op_eqU hr.units) (pv 0) (pv 1) (nomark _)))))) pss_nil)
 (pss_one (ps_ret (pe_and (pe_callB (r := rIsi _) call_isi rfl T.f_isinstance b_isinstance (pa_cons (pv 0) (pa_cons (pe_bltn (v := .ty "int") rfl T.f_int b_int rfl) pa_nil))) (pe_and (pe_not (pe_callB (r := rIsi _) call_isi rfl T.f_isinstance b_isinstance (pa_cons (pv 0) (pa_cons (pe_bltn (v := .ty "bool") rfl T.f_bool b_bool rfl) pa_nil)))) (pe_one (pe_cmpR (op_eqU hr.units) (pv 0) (pv 1) (nomark _))))))))))))
def t_u_law_place (K : PySem.W.Frag) : TS := (tSeq (tIfS (tOr (tNot (tTr K (tCB (rIsi K) (tCons (tVar 0) (tCons (tC (.ty "str")) tNil))))) (tOr (tTest (tOp rLtU (tCB (rLen K) (tCons (tVar 0) tNil)) (tC (.int 1)))) (tTest (tOp rGtU (tCB (rLen K) (tCons (tVar 0) tNil)) (tC (.int 8)))))) (tRet (tLst (tCons (tC (.bl true)) (tCons (tUn (rU fun i => .int (-i)) (tC (.int 1))) tNil)))) tNext)
 (tSeq (tFor (iRng1 (tCons (tCB (rLen K) (tCons (tVar 0) tNil)) tNil)) (gName 1) (tSeq (tAsg (tIf (tTest (tOp (rEqU K) (tVar 1) (tC (.int 0)))) (tC (.str "abcdefghijklmnopqrstuvwxyz")) (tC (.str "abcdefghijklmnopqrstuvwxyz0123456789"))) (gName 2))
 (tIfS (tTest (tOp (rNinU K) (tOp (rIx K) (tVar 0) (tVar 1)) (tVar 2))) (tRet (tLst (tCons (tC (.bl true)) (tCons (tVar 1) tNil)))) tNext)))
 (tRet (tLst (tCons (tC (.bl false)) (tCons (tCB (rLen K) (tCons (tVar 0) tNil)) tNil))))))
theorem dv_u_law_place (T : Txt K mg)  {f : Addr} (cdv : Value) (A : Around) (outer : List PySem.Env) (s : Shared) (H : Hp) (E : XK) (hr : Room 0 (A.deeper (envOfC "_law_place" (defScope s_u_law_place) s.heap.objs.size f cdv))) :
    PSs (cxOf CX0 P w K mg base N_u_law_place "_law_place" (defScope s_u_law_place) f cdv A outer s H E) (defBody s_u_law_place) (t_u_law_place K) := by
  have sc := sc_u_law_place
  have pa : PassesOwn (model P w) (cxOf CX0 P w K mg base N_u_law_place "_law_place" (defScope s_u_law_place) f cdv A outer s H E).A (cxOf CX0 P w K mg base N_u_law_place "_law_place" (defScope s_u_law_place) f cdv A outer s H E).env (cxOf CX0 P w K mg base N_u_law_place "_law_place" (defScope s_u_law_place) f cdv A outer s H E).xe := passes_of rfl
  exact (pss_cons (ps_if (PW.pt (pw_or (pt_not (pt_tr (pe_callB (r := rIsi _) call_isi rfl T.f_isinstance b_isinstance (pa_cons (pv 0) (pa_cons (pe_bltn (v := .ty "str") rfl T.f_str b_str rfl) pa_nil))))) (pw_or (pt_cmpR op_ltU (pe_callB (r := rLen _) call_len rfl T.f_len b_len (pa_cons (pv 0) pa_nil)) pe_int (nomark _)) (pw_or1 (pt_cmpR op_gtU (pe_callB (r := rLen _) call_len rfl T.f_len b_len (pa_cons (pv 0) pa_nil)) pe_int (nomark _)))))) (pss_one (ps_ret (pe_lst (pa_cons pe_bl (pa_cons (pe_un un_neg pe_int) pa_nil))))) pss_nil)
 (pss_cons (ps_for pa rfl (pi_range1 rfl T.f_range (pa_cons (pe_callB (r := rLen _) call_len rfl T.f_len b_len (pa_cons (pv 0) pa_nil)) pa_nil)) (pg_name (i := 1) sc.nd rfl (by first | exact Or.inl rfl | exact Or.inr rfl)) (pss_cons (ps_set (i := 2) sc.nd rfl (by first | exact Or.inl rfl | exact Or.inr rfl) (pe_ifExp (pt_cmpR (op_eqU hr.units) (pv 1) pe_int (nomark _)) pe_str pe_str))
 (pss_one (ps_if (pt_cmpR op_ninU (pe_ix ix_seq (pv 0) (pv 1) (fun _ _ => rfl)) (pv 2) rfl) (pss_one (ps_ret (pe_lst (pa_cons pe_bl (pa_cons (pv 1) pa_nil))))) pss_nil))))
 (pss_one (ps_ret (pe_lst (pa_cons pe_bl (pa_cons (pe_callB (r := rLen _) call_len rfl T.f_len b_len (pa_cons (pv 0) pa_nil)) pa_nil)))))))
def ts_u_law_told (K : PySem.W.Frag) (a : Addr) (cls : Value) (d : Option Addr) : TS := (tSeq (tIfS (tOr (tNot (tTr K (tCB (rIsX K cls d a) (tCons (tVar 2) (tCons (tC (.ref (He.ga K "BadName"))) tNil))))) (tOr (tNot (tTr K (tCB (rIsX K cls d a) (tCons (tVar 2) (tCons (tC (.ref (He.ga K "DataError"))) tNil))))) (tNot (tTr K (tCB (rIsX K cls d a) (tCons (tVar 2) (tCons (tC (.ty "ValueError")) tNil))))))) (tRet (tLst (tCons (tC (.bl true)) (tCons (tC .non) tNil)))) tNext)
 (tSeq (tIfS (tOr (tTr K (tCB (rIsX K cls d a) (tCons (tVar 2) (tCons (tC (.ref (He.ga K "CallError"))) tNil)))) (tTr K (tCB (rIsX K cls d a) (tCons (tVar 2) (tCons (tC (.ref (He.ga K "TextError"))) tNil))))) (tRet (tLst (tCons (tC (.bl true)) (tCons (tC .non) tNil)))) tNext)
 (tRet (tLst (tCons (tC (.bl true)) (tCons (tXf a cls d (He.ga K "BadName") "at" (tVar 2)) tNil))))))
def t_u_law_told (K : PySem.W.Frag) : TS := (tSeq (tTryA K (.ref (He.ga K "PlanError")) 2 (ts_u_law_told K) (sp_check_name K) (tCons (tVar 0) tNil) 1)
 (tRet (tLst (tCons (tC (.bl false)) (tCons (tVar 1) tNil)))))
theorem dv_u_law_told (T : Txt K mg) (O_check_name : Okd P w K mg base (L2.CX P w) 3 "check_name" ["thing"] (sp_check_name K)) (X_BadName : ExOk P w K mg base 1 "BadName" ["at"]) {f : Addr} (cdv : Value) (A : Around) (outer : List PySem.Env) (s : Shared) (H : Hp) (E : XK) (hr : Room 3 (A.deeper (envOfC "_law_told" (defScope s_u_law_told) s.heap.objs.size f cdv))) :
    PSs (cxOf CX0 P w K mg base N_u_law_told "_law_told" (defScope s_u_law_told) f cdv A outer s H E) (defBody s_u_law_told) (t_u_law_told K) := by
  have sc := sc_u_law_told
  exact (pss_cons (ps_try_as (i := 2) (tb := fun W => tAsg (tCallS (sp_check_name K) (WE W) (tCons (tVar 0) tNil)) (gName 1)) (ts := ts_u_law_told K) (Wout := fun _ _ _ _ => False) rfl rfl sc.nd rfl rfl ⟨rfl, by decide, .inl T.g_PlanError⟩ takes0
 (fun W pn xe tk _ => pss_one (ps_set (i := 1) sc.nd rfl (by first | exact Or.inl rfl | exact Or.inr rfl) (by exact (pe_callDS O_check_name hr (by decide) tk (pa_cons (pv 0) pa_nil)))))
 (fun a oe cls d pn hz hf => (pss_cons (ps_if (PW.pt (pw_or (pt_not (pt_tr (pe_callB (r := rIsX _ cls d a) (call_isX hz hf) rfl T.f_isinstance b_isinstance (pa_cons (pv 2) (pa_cons (pe_gref T.g_BadName) pa_nil))))) (pw_or (pt_not (pt_tr (pe_callB (r := rIsX _ cls d a) (call_isX hz hf) rfl T.f_isinstance b_isinstance (pa_cons (pv 2) (pa_cons (pe_gref T.g_DataError) pa_nil))))) (pw_or1 (pt_not (pt_tr (pe_callB (r := rIsX _ cls d a) (call_isX hz hf) rfl T.f_isinstance b_isinstance (pa_cons (pv 2) (pa_cons (pe_bltn (v := .ty "ValueError") rfl T.f_ValueError b_ValueError rfl) pa_nil))))))))) (pss_one (ps_ret (pe_lst (pa_cons pe_bl (pa_cons pe_non pa_nil))))) pss_nil)
 (pss_cons (ps_if (PW.pt (pw_or (pt_tr (pe_callB (r := rIsX _ cls d a) (call_isX hz hf) rfl T.f_isinstance b_isinstance (pa_cons (pv 2) (pa_cons (pe_gref T.g_CallError) pa_nil)))) (pw_or1 (pt_tr (pe_callB (r := rIsX _ cls d a) (call_isX hz hf) rfl T.f_isinstance b_isinstance (pa_cons (pv 2) (pa_cons (pe_gref T.g_TextError) pa_nil))))))) (pss_one (ps_ret (pe_lst (pa_cons pe_bl (pa_cons pe_non pa_nil))))) pss_nil)
 (pss_one (ps_ret (pe_lst (pa_cons pe_bl (pa_cons (pe_xf X_BadName.ef.xf T.n_BadName_at hz hf (pv 2)) pa_nil)))))))))
 (pss_one (ps_ret (pe_lst (pa_cons pe_bl (pa_cons (pv 1) pa_nil))))))
def t_u_law_name (K : PySem.W.Frag) : TS := (tSeq (tAsg (tOp (rIx K) (tC (.str "abcdefghijklmnopqrstuvwxyz")) (tOp rModU (tOp (rIx K) (tVar 0) (tVar 1)) (tC (.int 26)))) (gName 3))
 (tSeq (tFor (iRng2 (tCons (tC (.int 1)) (tCons (tVar 2) tNil))) (gName 4) (tAsg (tOp (rAddU K) (tVar 3) (tOp (rIx K) (tC (.str "abcdefghijklmnopqrstuvwxyz0123456789")) (tOp rModU (tOp (rIx K) (tVar 0) (tOp (rAddU K) (tVar 1) (tVar 4))) (tC (.int 36))))) (gName 3)))
 (tRet (tVar 3))))
theorem dv_u_law_name (T : Txt K mg)  {f : Addr} (cdv : Value) (A : Around) (outer : List PySem.Env) (s : Shared) (H : Hp) (E : XK) (hr : Room 0 (A.deeper (envOfC "_law_name" (defScope s_u_law_name) s.heap.objs.size f cdv))) :
    PSs (cxOf CX0 P w K mg base N_u_law_name "_law_name" (defScope s_u_law_name) f cdv A outer s H E) (defBody s_u_law_name) (t_u_law_name K) := by
  have sc := sc_u_law_name
  have pa : PassesOwn (model P w) (cxOf CX0 P w K mg base N_u_law_name "_law_name" (defScope s_u_law_name) f cdv A outer s H E).A (cxOf CX0 P w K mg base N_u_law_name "_law_name" (defScope s_u_law_name) f cdv A outer s H E).env (cxOf CX0 P w K mg base N_u_law_name "_law_name" (defScope s_u_law_name) f cdv A outer s H E).xe := passes_of rfl
  exact (pss_cons (ps_set (i := 3) sc.nd rfl (by first | exact Or.inl rfl | exact Or.inr rfl) (pe_ix ix_seq pe_str (pe_op op_mod (pe_ix ix_seq (pv 0) (pv 1) (fun _ _ => rfl)) pe_int) (fun _ _ => rfl)))
 (pss_cons (ps_for pa rfl (pi_range2 rfl T.f_range (pa_cons pe_int (pa_cons (pv 2) pa_nil))) (pg_name (i := 4) sc.nd rfl (by first | exact Or.inl rfl | exact Or.inr rfl)) (pss_one (ps_set (i := 3) sc.nd rfl (by first | exact Or.inl rfl | exact Or.inr rfl) (pe_op op_addU (pv 3) (pe_ix ix_seq pe_str (pe_op op_mod (pe_ix ix_seq (pv 0) (pe_op op_addU (pv 1) (pv 4)) (fun _ _ => rfl)) pe_int) (fun _ _ => rfl))))))
 (pss_one (ps_ret (pv 3)))))
def t_u_law_exchanged (K : PySem.W.Frag) : TS := (tSeq (tAsg (tC (.str "`{/:\x40[AZ_ -~!.*E")) (gName 3))
 (tSeq (tIfS (tAnd (tTest (tOp (rEqU K) (tVar 1) (tC (.int 0)))) (tTest (tOp (rEqU K) (tOp rModU (tVar 2) (tC (.int 5))) (tC (.int 0))))) (tAsg (tC (.str "0123456789")) (gName 3)) tNext)
 (tRet (tOp (rAddU K) (tOp (rAddU K) (tSl (rSlU K) (tVar 0) tNoPart (tPart (tVar 1))) (tOp (rIx K) (tVar 3) (tOp rModU (tOp rDivU (tVar 2) (tC (.int 5))) (tCB (rLen K) (tCons (tVar 3) tNil))))) (tSl (rSlU K) (tVar 0) (tPart (tOp (rAddU K) (tVar 1) (tC (.int 1)))) tNoPart)))))
theorem dv_u_law_exchanged (T : Txt K mg)  {f : Addr} (cdv : Value) (A : Around) (outer : List PySem.Env) (s : Shared) (H : Hp) (E : XK) (hr : Room 0 (A.deeper (envOfC "_law_exchanged" (defScope s_u_law_exchanged) s.heap.objs.size f cdv))) :
    PSs (cxOf CX0 P w K mg base N_u_law_exchanged "_law_exchanged" (defScope s_u_law_exchanged) f cdv A outer s H E) (defBody s_u_law_exchanged) (t_u_law_exchanged K) := by
  have sc := sc_u_law_exchanged
  exact (pss_cons (ps_set (i := 3) sc.nd rfl (by first | exact Or.inl rfl | exact Or.inr rfl) pe_str)
 (pss_cons (ps_if (PW.pt (pw_and (pt_cmpR (op_eqU hr.units) (pv 1) pe_int (nomark _)) (pw_and1 (pt_cmpR (op_eqU hr.units) (pe_op op_mod (pv 2) pe_int) pe_int (nomark _))))) (pss_one (ps_set (i := 3) sc.nd rfl (by first | exact Or.inl rfl | exact Or.inr rfl) pe_str)) pss_nil)
 (pss_one (ps_ret (pe_op op_addU (pe_op op_addU (pe_slice sl_U (pv 0) po_none (po_some (pv 1))) (pe_ix ix_seq (pv 3) (pe_op op_mod (pe_op op_fdiv (pv 2) pe_int) (pe_callB (r := rLen _) call_len rfl T.f_len b_len (pa_cons (pv 3) pa_nil))) (fun _ _ => rfl))) (pe_slice sl_U (pv 0) (po_some (pe_op op_addU (pv 1) pe_int)) po_none))))))
def t_u_law_names (K : PySem.W.Frag) : TS := (tSeq (tAsg (tLst tNil) (gName 1))
 (tSeq (tFor (iRng1 (tCons (tC (.int 2)) tNil)) (gName 2) (tSeq (tAsg (tOp rMulU (tVar 2) (tC (.int 24))) (gName 3))
 (tSeq (tAsg (tOp (rAddU K) (tC (.int 1)) (tOp rModU (tOp (rIx K) (tVar 0) (tVar 3)) (tC (.int 8)))) (gName 4))
 (tSeq (tIfS (tTest (tOp (rEqU K) (tOp rModU (tOp (rIx K) (tVar 0) (tOp (rAddU K) (tVar 3) (tC (.int 1)))) (tC (.int 4))) (tC (.int 0)))) (tAsg (tIf (tTest (tOp (rEqU K) (tOp rModU (tOp (rIx K) (tVar 0) (tVar 3)) (tC (.int 2))) (tC (.int 0)))) (tC (.int 8)) (tC (.int 1))) (gName 4)) tNext)
 (tSeq (tAsg (tCall (sp_u_law_name K) [] E0 (tCons (tVar 0) (tCons (tOp (rAddU K) (tVar 3) (tC (.int 2))) (tCons (tVar 4) tNil)))) (gName 5))
 (tSeq (tAsg (tOp rModU (tOp (rIx K) (tVar 0) (tOp (rAddU K) (tVar 3) (tC (.int 10)))) (tVar 4)) (gName 6))
 (tSeq (tAsg (tCall (sp_u_law_exchanged K) [] E0 (tCons (tVar 5) (tCons (tVar 6) (tCons (tOp (rIx K) (tVar 0) (tOp (rAddU K) (tVar 3) (tC (.int 11)))) tNil)))) (gName 7))
 (tSeq (tAug 1 (tLst (tCons (tVar 5) (tCons (tVar 7) (tCons (tCall (sp_u_law_exchanged K) [] E0 (tCons (tVar 7) (tCons (tOp rModU (tOp (rIx K) (tVar 0) (tOp (rAddU K) (tVar 3) (tC (.int 12)))) (tVar 4)) (tCons (tOp (rIx K) (tVar 0) (tOp (rAddU K) (tVar 3) (tC (.int 13)))) tNil)))) tNil)))) rIAddU)
 (tSeq (tAsg (tOp (rAddU K) (tVar 5) (tCall (sp_u_law_name K) [] E0 (tCons (tVar 0) (tCons (tOp (rAddU K) (tVar 3) (tC (.int 14))) (tCons (tOp rSubU (tC (.int 9)) (tVar 4)) tNil))))) (gName 8))
 (tSeq (tAug 1 (tLst (tCons (tVar 8) (tCons (tCall (sp_u_law_exchanged K) [] E0 (tCons (tVar 8) (tCons (tOp rModU (tOp (rIx K) (tVar 0) (tOp (rAddU K) (tVar 3) (tC (.int 23)))) (tC (.int 9))) (tCons (tOp (rIx K) (tVar 0) (tOp (rAddU K) (tVar 3) (tC (.int 11)))) tNil)))) (tCons (tOp (rAddU K) (tVar 8) (tVar 5)) tNil)))) rIAddU)
 (tAug 1 (tLst (tCons (tSl (rSlU K) (tVar 8) tNoPart (tPart (tC (.int 8)))) (tCons (tSl (rSlU K) (tVar 8) (tPart (tC (.int 1))) tNoPart) (tCons (tOp (rAddU K) (tVar 5) (tC (.str " "))) (tCons (tOp (rAddU K) (tC (.str " ")) (tVar 5)) tNil))))) rIAddU)))))))))))
 (tRet (tVar 1))))
theorem dv_u_law_names (T : Txt K mg) (O_u_law_name : Okd P w K mg base CX0 1 "_law_name" ["pool", "begin", "many"] (sp_u_law_name K)) (O_u_law_exchanged : Okd P w K mg base CX0 1 "_law_exchanged" ["name", "place", "pick"] (sp_u_law_exchanged K)) {f : Addr} (cdv : Value) (A : Around) (outer : List PySem.Env) (s : Shared) (H : Hp) (E : XK) (hr : Room 1 (A.deeper (envOfC "_law_names" (defScope s_u_law_names) s.heap.objs.size f cdv))) :
    PSs (cxOf CX0 P w K mg base N_u_law_names "_law_names" (defScope s_u_law_names) f cdv A outer s H E) (defBody s_u_law_names) (t_u_law_names K) := by
  have sc := sc_u_law_names
  have pa : PassesOwn (model P w) (cxOf CX0 P w K mg base N_u_law_names "_law_names" (defScope s_u_law_names) f cdv A outer s H E).A (cxOf CX0 P w K mg base N_u_law_names "_law_names" (defScope s_u_law_names) f cdv A outer s H E).env (cxOf CX0 P w K mg base N_u_law_names "_law_names" (defScope s_u_law_names) f cdv A outer s H E).xe := passes_of rfl
  exact (pss_cons (ps_set (i := 1) sc.nd rfl (by first | exact Or.inl rfl | exact Or.inr rfl) (pe_lst pa_nil))
 (pss_cons (ps_for pa rfl (pi_range1 rfl T.f_range (pa_cons pe_int pa_nil)) (pg_name (i := 2) sc.nd rfl (by first | exact Or.inl rfl | exact Or.inr rfl)) (pss_cons (ps_set (i := 3) sc.nd rfl (by first | exact Or.inl rfl | exact Or.inr rfl) (pe_op op_mulU (pv 2) pe_int))
 (pss_cons (ps_set (i := 4) sc.nd rfl (by first | exact Or.inl rfl | exact Or.inr rfl) (pe_op op_addU pe_int (pe_op op_mod (pe_ix ix_seq (pv 0) (pv 3) (fun _ _ => rfl)) pe_int)))
 (pss_cons (ps_if (pt_cmpR (op_eqU hr.units) (pe_op op_mod (pe_ix ix_seq (pv 0) (pe_op op_addU (pv 3) pe_int) (fun _ _ => rfl)) pe_int) pe_int (nomark _)) (pss_one (ps_set (i := 4) sc.nd rfl (by first | exact Or.inl rfl | exact Or.inr rfl) (pe_ifExp (pt_cmpR (op_eqU hr.units) (pe_op op_mod (pe_ix ix_seq (pv 0) (pv 3) (fun _ _ => rfl)) pe_int) pe_int (nomark _)) pe_int pe_int))) pss_nil)
 (pss_cons (ps_set (i := 5) sc.nd rfl (by first | exact Or.inl rfl | exact Or.inr rfl) (pe_callD O_u_law_name hr (by decide) (pa_cons (pv 0) (pa_cons (pe_op op_addU (pv 3) pe_int) (pa_cons (pv 4) pa_nil)))))
 (pss_cons (ps_set (i := 6) sc.nd rfl (by first | exact Or.inl rfl | exact Or.inr rfl) (pe_op op_mod (pe_ix ix_seq (pv 0) (pe_op op_addU (pv 3) pe_int) (fun _ _ => rfl)) (pv 4)))
 (pss_cons (ps_set (i := 7) sc.nd rfl (by first | exact Or.inl rfl | exact Or.inr rfl) (pe_callD O_u_law_exchanged hr (by decide) (pa_cons (pv 5) (pa_cons (pv 6) (pa_cons (pe_ix ix_seq (pv 0) (pe_op op_addU (pv 3) pe_int) (fun _ _ => rfl)) pa_nil)))))
 (pss_cons (ps_aug (i := 1) sc.nd rfl (by first | exact Or.inl rfl | exact Or.inr rfl) (pe_lst (pa_cons (pv 5) (pa_cons (pv 7) (pa_cons (pe_callD O_u_law_exchanged hr (by decide) (pa_cons (pv 7) (pa_cons (pe_op op_mod (pe_ix ix_seq (pv 0) (pe_op op_addU (pv 3) pe_int) (fun _ _ => rfl)) (pv 4)) (pa_cons (pe_ix ix_seq (pv 0) (pe_op op_addU (pv 3) pe_int) (fun _ _ => rfl)) pa_nil)))) pa_nil)))) ip_addU)
 (pss_cons (ps_set (i := 8) sc.nd rfl (by first | exact Or.inl rfl | exact Or.inr rfl) (pe_op op_addU (pv 5) (pe_callD O_u_law_name hr (by decide) (pa_cons (pv 0) (pa_cons (pe_op op_addU (pv 3) pe_int) (pa_cons (pe_op op_sub pe_int (pv 4)) pa_nil))))))
 (pss_cons (ps_aug (i := 1) sc.nd rfl (by first | exact Or.inl rfl | exact Or.inr rfl) (pe_lst (pa_cons (pv 8) (pa_cons (pe_callD O_u_law_exchanged hr (by decide) (pa_cons (pv 8) (pa_cons (pe_op op_mod (pe_ix ix_seq (pv 0) (pe_op op_addU (pv 3) pe_int) (fun _ _ => rfl)) pe_int) (pa_cons (pe_ix ix_seq (pv 0) (pe_op op_addU (pv 3) pe_int) (fun _ _ => rfl)) pa_nil)))) (pa_cons (pe_op op_addU (pv 8) (pv 5)) pa_nil)))) ip_addU)
 (pss_one (ps_aug (i := 1) sc.nd rfl (by first | exact Or.inl rfl | exact Or.inr rfl) (pe_lst (pa_cons (pe_slice sl_U (pv 8) po_none (po_some pe_int)) (pa_cons (pe_slice sl_U (pv 8) (po_some pe_int) po_none) (pa_cons (pe_op op_addU (pv 5) pe_str) (pa_cons (pe_op op_addU pe_str (pv 5)) pa_nil))))) ip_addU))))))))))))
 (pss_one (ps_ret (pv 1)))))
def t_law (K : PySem.W.Frag) : TS := (tSeq (tAsg (tCall (sp_u_law_pool K) [] E0 (tCons (tVar 0) (tCons (tC (.int 70)) tNil))) (gName 1))
 (tSeq (tAsg (tLst (tCons (tC (.str "rooms")) tNil)) (gName 2))
 (tSeq (tAsg (tOp (rAddU K) (tCall (sp_u_law_names K) [] E0 (tCons (tVar 1) tNil)) (tLst (tCons (tC (.str "")) (tCons (tC (.str "E")) (tCons (tC (.str "a")) (tCons (tC (.str "z9")) (tCons (tC (.str "9z")) (tCons (tC (.str "aB")) (tCons (tC (.str "EN")) (tCons (tC (.str "zzzzzzzz")) (tCons (tC (.str "rooms")) (tCons (tC (.str "a`")) (tCons (tC (.str "z{")) (tCons (tC (.str "a/")) (tCons (tC (.str "a:")) tNil))))))))))))))) (gName 3))
 (tSeq (tAug 3 (tLst (tCons (tOp rMulU (tC (.str "a")) (tOp (rAddU K) (tC (.int 9)) (tOp rModU (tOp (rIx K) (tVar 1) (tC (.int 48))) (tC (.int 40))))) (tCons (tOp rMulU (tC (.str "b")) (tC (.int 8))) tNil))) rIAddU)
 (tSeq (tAug 3 (tLst (tCons (tC .non) (tCons (tC (.bl true)) (tCons (tC (.bl false)) (tCons (tC (.int 0)) (tCons (tC (.int 1)) (tCons (tUn (rU fun i => .int (-i)) (tC (.int 1))) (tCons (tOp (rAddU K) (tOp rPowU (tC (.int 10)) (tC (.int 40))) (tOp (rIx K) (tVar 1) (tC (.int 49)))) (tCons (tTup tNil) (tCons (tTup (tCons (tC (.str "a")) tNil)) (tCons (tLst (tCons (tC (.str "a")) tNil)) (tCons (tVar 2) (tCons (tTup (tCons (tC (.str "E")) (tCons (tC (.str "N")) tNil))) (tCons (tLst (tCons (tC (.bl true)) tNil)) tNil)))))))))))))) rIAddU)
 (tSeq (tAsg (tC (.int 0)) (gName 4))
 (tSeq (tFor (iSeqU K (tVar 3)) (gName 5) (tSeq (tIfS (tNot (tTr K (tCall (sp_u_law_same K) [] E0 (tCons (tCall (sp_u_law_told K) [] E0 (tCons (tVar 5) tNil)) (tCons (tCall (sp_u_law_place K) [] E0 (tCons (tVar 5) tNil)) tNil))))) (tRet (tC (.bl false))) tNext)
 (tSeq (tIfS (tNot (tTr K (tOp (rIx K) (tCall (sp_u_law_place K) [] E0 (tCons (tVar 5) tNil)) (tC (.int 0))))) (tAug 4 (tC (.int 1)) rIAddU) tNext)
 (tIfS (tNot (tTr K (tCall (sp_u_law_same K) [] E0 (tCons (tCall (sp_is_side K) [] E0 (tCons (tVar 5) tNil)) (tCons (tAndV (tCB (rIsi K) (tCons (tVar 5) (tCons (tC (.ty "str")) tNil))) (tOp (rInU K) (tVar 5) (tTup (tCons (tC (.str "E")) (tCons (tC (.str "N")) (tCons (tC (.str "W")) (tCons (tC (.str "S")) tNil))))))) tNil))))) (tRet (tC (.bl false))) tNext))))
 (tSeq (tIfS (tOr (tTest (tOp (rNeU K) (tVar 2) (tLst (tCons (tC (.str "rooms")) tNil)))) (tTest (tOp rLtU (tVar 4) (tC (.int 3))))) (tRet (tC (.bl false))) tNext)
 (tSeq (tFor (iSeqU K (tLst (tCons (tC (.str "e")) (tCons (tC (.str "n")) (tCons (tC (.str "w")) (tCons (tC (.str "s")) (tCons (tC (.str "NW")) (tCons (tC (.str "ENWS")) (tCons (tC (.str "E ")) (tCons (tC (.str " S")) (tCons (tC (.str "NN")) (tCons (tTup (tCons (tC (.str "N")) tNil)) (tCons (tLst (tCons (tC (.str "W")) tNil)) (tCons (tTup (tCons (tC (.str "E")) (tCons (tC (.str "N")) (tCons (tC (.str "W")) (tCons (tC (.str "S")) tNil))))) tNil)))))))))))))) (gName 5) (tIfS (tTest (tOp rNotB (tCall (sp_is_side K) [] E0 (tCons (tVar 5) tNil)) (tC (.bl false)))) (tRet (tC (.bl false))) tNext))
 (tSeq (tAsg (tLst (tCons (tC (.str "E")) (tCons (tC (.str "N")) (tCons (tC (.str "W")) (tCons (tC (.str "S")) tNil))))) (gName 6))
 (tSeq (tFor (iRng1 (tCons (tC (.int 4)) tNil)) (gName 7) (tSeq (tIfS (tTest (tOp rNotB (tCall (sp_is_side K) [] E0 (tCons (tOp (rIx K) (tVar 6) (tVar 7)) tNil)) (tC (.bl true)))) (tRet (tC (.bl false))) tNext)
 (tSeq (tFor (iSeqU K (tLst (tCons (tC (.int 0)) (tCons (tC (.int 1)) (tCons (tUn (rU fun i => .int (-i)) (tC (.int 1))) (tCons (tC (.int 2)) (tCons (tUn (rU fun i => .int (-i)) (tC (.int 2))) (tCons (tC (.int 3)) (tCons (tUn (rU fun i => .int (-i)) (tC (.int 3))) (tCons (tC (.int 4)) (tCons (tC (.int 5)) (tCons (tUn (rU fun i => .int (-i)) (tC (.int 5))) (tCons (tC (.int 1000)) (tCons (tUn (rU fun i => .int (-i)) (tC (.int 1000))) (tCons (tOp rSubU (tOp rModU (tOp (rIx K) (tVar 1) (tC (.int 50))) (tC (.int 2001))) (tC (.int 1000))) (tCons (tOp rSubU (tOp rModU (tOp (rIx K) (tVar 1) (tC (.int 51))) (tC (.int 2001))) (tC (.int 1000))) tNil)))))))))))))))) (gName 8) (tIfS (tNot (tTr K (tCall (sp_u_law_same K) [] E0 (tCons (tCall (sp_turned_direction K) [] E0 (tCons (tOp (rIx K) (tVar 6) (tVar 7)) (tCons (tVar 8) tNil))) (tCons (tOp (rIx K) (tVar 6) (tOp rModU (tOp (rAddU K) (tVar 7) (tVar 8)) (tC (.int 4)))) tNil))))) (tRet (tC (.bl false))) tNext))
 (tSeq (tFor (iRng1 (tCons (tC (.int 4)) tNil)) (gName 9) (tIfS (tNot (tTr K (tCall (sp_u_law_same K) [] E0 (tCons (tCall (sp_quarters_between K) [] E0 (tCons (tOp (rIx K) (tVar 6) (tVar 7)) (tCons (tOp (rIx K) (tVar 6) (tVar 9)) tNil))) (tCons (tOp rModU (tOp rSubU (tVar 9) (tVar 7)) (tC (.int 4))) tNil))))) (tRet (tC (.bl false))) tNext))
 (tSeq (tIfS (tNot (tTr K (tCall (sp_u_law_same K) [] E0 (tCons (tCall (sp_opposite_of K) [] E0 (tCons (tOp (rIx K) (tVar 6) (tVar 7)) tNil)) (tCons (tOp (rIx K) (tVar 6) (tOp rModU (tOp (rAddU K) (tVar 7) (tC (.int 2))) (tC (.int 4)))) tNil))))) (tRet (tC (.bl false))) tNext)
 (tSeq (tIfS (tNot (tTr K (tCall (sp_u_law_same K) [] E0 (tCons (tCall (sp_mirrored_direction K) [] E0 (tCons (tOp (rIx K) (tVar 6) (tVar 7)) tNil)) (tCons (tOp (rIx K) (tLst (tCons (tC (.str "W")) (tCons (tC (.str "N")) (tCons (tC (.str "E")) (tCons (tC (.str "S")) tNil))))) (tVar 7)) tNil))))) (tRet (tC (.bl false))) tNext)
 (tIfS (tNot (tTr K (tCall (sp_u_law_same K) [] E0 (tCons (tCall (sp_beside_side K) [] E0 (tCons (tOp (rIx K) (tVar 6) (tVar 7)) tNil)) (tCons (tTup (tCons (tOp (rIx K) (tVar 6) (tOp rModU (tOp (rAddU K) (tVar 7) (tC (.int 3))) (tC (.int 4)))) (tCons (tOp (rIx K) (tVar 6) (tOp rModU (tOp (rAddU K) (tVar 7) (tC (.int 1))) (tC (.int 4)))) tNil))) tNil))))) (tRet (tC (.bl false))) tNext)))))))
 (tSeq (tAsg (tLc (iRng1 (tCons (tOp rModU (tOp (rIx K) (tVar 1) (tC (.int 52))) (tC (.int 13))) tNil)) (gName 7) tYes (tOp (rIx K) (tVar 6) (tOp rModU (tOp (rIx K) (tVar 1) (tOp (rAddU K) (tC (.int 53)) (tVar 7))) (tC (.int 4)))) [7]) (gName 10))
 (tSeq (tAsg (tOp (rAddU K) (tOp rMulU (tLst (tCons (tOp (rIx K) (tVar 6) (tOp rModU (tOp (rIx K) (tVar 1) (tC (.int 66))) (tC (.int 4)))) tNil)) (tOp (rAddU K) (tC (.int 1)) (tOp rModU (tOp (rIx K) (tVar 1) (tC (.int 67))) (tC (.int 30))))) (tLst (tCons (tOp (rIx K) (tVar 6) (tOp rModU (tOp (rIx K) (tVar 1) (tC (.int 68))) (tC (.int 4)))) tNil))) (gName 11))
 (tSeq (tFor (iSeqU K (tLst (tCons (tVar 10) (tCons (tLst tNil) (tCons (tVar 6) (tCons (tVar 11) (tCons (tSl (rSlU K) (tVar 11) (tPart (tC (.int 1))) tNoPart) (tCons (tLst (tCons (tC (.str "S")) (tCons (tC (.str "W")) (tCons (tC (.str "N")) tNil)))) (tCons (tOp (rAddU K) (tSl (rSlU K) (tVar 10) (tPart (tC (.int 1))) tNoPart) (tSl (rSlU K) (tVar 10) tNoPart (tPart (tC (.int 1))))) (tCons (tLst (tCons (tC (.str "N")) (tCons (tC (.str "E")) (tCons (tC (.str "N")) tNil)))) tNil)))))))))) (gName 12) (tSeq (tAsg (tM1 (rJoinU K) (tC (.str "")) (tLc (iSeqU K (tVar 6)) (gName 14) (tTest (tOp (rInU K) (tVar 14) (tVar 12))) (tVar 14) [14])) (gName 13))
 (tIfS (tNot (tTr K (tCall (sp_u_law_same K) [] E0 (tCons (tCall (sp_ordered_directions K) [] E0 (tCons (tCB (rTupU K) (tCons (tVar 12) tNil)) tNil)) (tCons (tVar 13) tNil))))) (tRet (tC (.bl false))) tNext)))
 (tRet (tC (.bl true)))))))))))))))))
theorem dv_law (T : Txt K mg) (O_u_law_pool : Okd P w K mg base CX0 1 "_law_pool" ["script", "many"] (sp_u_law_pool K)) (O_u_law_names : Okd P w K mg base CX0 2 "_law_names" ["pool"] (sp_u_law_names K)) (O_u_law_same : Okd P w K mg base CX0 2 "_law_same" ["told", "due"] (sp_u_law_same K)) (O_is_side : Okd P w K mg base CX0 1 "is_side" ["thing"] (sp_is_side K)) (O_u_law_told : Okd P w K mg base CX0 4 "_law_told" ["thing"] (sp_u_law_told K)) (O_u_law_place : Okd P w K mg base CX0 1 "_law_place" ["thing"] (sp_u_law_place K)) (O_opposite_of : Okd P w K mg base CX0 2 "opposite_of" ["direction"] (sp_opposite_of K)) (O_mirrored_direction : Okd P w K mg base CX0 2 "mirrored_direction" ["direction"] (sp_mirrored_direction K)) (O_beside_side : Okd P w K mg base CX0 2 "beside_side" ["side"] (sp_beside_side K)) (O_ordered_directions : Okd P w K mg base CX0 1 "ordered_directions" ["directions"] (sp_ordered_directions K)) (O_turned_direction : Okd P w K mg base CX0 2 "turned_direction" ["direction", "n"] (sp_turned_direction K)) (O_quarters_between : Okd P w K mg base CX0 2 "quarters_between" ["one", "other"] (sp_quarters_between K)) {f : Addr} (cdv : Value) (A : Around) (outer : List PySem.Env) (s : Shared) (H : Hp) (E : XK) (hr : Room 4 (A.deeper (envOfC "law" (defScope s_law) s.heap.objs.size f cdv))) :
    PSs (cxOf CX0 P w K mg base N_law "law" (defScope s_law) f cdv A outer s H E) (defBody s_law) (t_law K) := by
  have sc := sc_law
  have pa : PassesOwn (model P w) (cxOf CX0 P w K mg base N_law "law" (defScope s_law) f cdv A outer s H E).A (cxOf CX0 P w K mg base N_law "law" (defScope s_law) f cdv A outer s H E).env (cxOf CX0 P w K mg base N_law "law" (defScope s_law) f cdv A outer s H E).xe := passes_of rfl
  exact (pss_cons (ps_set (i := 1) sc.nd rfl (by first | exact Or.inl rfl | exact Or.inr rfl) (pe_callD O_u_law_pool hr (by decide) (pa_cons (pv 0) (pa_cons pe_int pa_nil))))
 (pss_cons (ps_set (i := 2) sc.nd rfl (by first | exact Or.inl rfl | exact Or.inr rfl) (pe_lst (pa_cons pe_str pa_nil)))
 (pss_cons (ps_set (i := 3) sc.nd rfl (by first | exact Or.inl rfl | exact Or.inr rfl) (pe_op op_addU (pe_callD O_u_law_names hr (by decide) (pa_cons (pv 1) pa_nil)) (pe_lst (pa_cons pe_str (pa_cons pe_str (pa_cons pe_str (pa_cons pe_str (pa_cons pe_str (pa_cons pe_str (pa_cons pe_str (pa_cons pe_str (pa_cons pe_str (pa_cons pe_str (pa_cons pe_str (pa_cons pe_str (pa_cons pe_str pa_nil))))))))))))))))
 (pss_cons (ps_aug (i := 3) sc.nd rfl (by first | exact Or.inl rfl | exact Or.inr rfl) (pe_lst (pa_cons (pe_op op_mulU pe_str (pe_op op_addU pe_int (pe_op op_mod (pe_ix ix_seq (pv 1) pe_int (fun _ _ => rfl)) pe_int))) (pa_cons (pe_op op_mulU pe_str pe_int) pa_nil))) ip_addU)
 (pss_cons (ps_aug (i := 3) sc.nd rfl (by first | exact Or.inl rfl | exact Or.inr rfl) (pe_lst (pa_cons pe_non (pa_cons pe_bl (pa_cons pe_bl (pa_cons pe_int (pa_cons pe_int (pa_cons (pe_un un_neg pe_int) (pa_cons (pe_op op_addU (pe_op op_pow pe_int pe_int) (pe_ix ix_seq (pv 1) pe_int (fun _ _ => rfl))) (pa_cons (pe_tup pa_nil) (pa_cons (pe_tup (pa_cons pe_str pa_nil)) (pa_cons (pe_lst (pa_cons pe_str pa_nil)) (pa_cons (pv 2) (pa_cons (pe_tup (pa_cons pe_str (pa_cons pe_str pa_nil))) (pa_cons (pe_lst (pa_cons pe_bl pa_nil)) pa_nil)))))))))))))) ip_addU)
 (pss_cons (ps_set (i := 4) sc.nd rfl (by first | exact Or.inl rfl | exact Or.inr rfl) pe_int)
 (pss_cons (ps_for pa rfl (pi_seqU (pv 3)) (pg_name (i := 5) sc.nd rfl (by first | exact Or.inl rfl | exact Or.inr rfl)) (pss_cons (ps_if (pt_not (pt_tr (pe_callD O_u_law_same hr (by decide) (pa_cons (pe_callD O_u_law_told hr (by decide) (pa_cons (pv 5) pa_nil)) (pa_cons (pe_callD O_u_law_place hr (by decide) (pa_cons (pv 5) pa_nil)) pa_nil))))) (pss_one (ps_ret pe_bl)) pss_nil)
 (pss_cons (ps_if (pt_not (pt_tr (pe_ix ix_seq (pe_callD O_u_law_place hr (by decide) (pa_cons (pv 5) pa_nil)) pe_int (fun _ _ => rfl)))) (pss_one (ps_aug (i := 4) sc.nd rfl (by first | exact Or.inl rfl | exact Or.inr rfl) pe_int ip_addU)) pss_nil)
 (pss_one (ps_if (pt_not (pt_tr (pe_callD O_u_law_same hr (by decide) (pa_cons (pe_callD O_is_side hr (by decide) (pa_cons (pv 5) pa_nil)) (pa_cons (pe_and (pe_callB (r := rIsi _) call_isi rfl T.f_isinstance b_isinstance (pa_cons (pv 5) (pa_cons (pe_bltn (v := .ty "str") rfl T.f_str b_str rfl) pa_nil))) (pe_one (pe_cmpR op_inU (pv 5) (pe_tup (pa_cons pe_str (pa_cons pe_str (pa_cons pe_str (pa_cons pe_str pa_nil))))) rfl))) pa_nil))))) (pss_one (ps_ret pe_bl)) pss_nil)))))
 (pss_cons (ps_if (PW.pt (pw_or (pt_cmpR (op_neU hr.units) (pv 2) (pe_lst (pa_cons pe_str pa_nil)) (nomark _)) (pw_or1 (pt_cmpR op_ltU (pv 4) pe_int (nomark _))))) (pss_one (ps_ret pe_bl)) pss_nil)
 (pss_cons (ps_for pa rfl (pi_seqU (pe_lst (pa_cons pe_str (pa_cons pe_str (pa_cons pe_str (pa_cons pe_str (pa_cons pe_str (pa_cons pe_str (pa_cons pe_str (pa_cons pe_str (pa_cons pe_str (pa_cons (pe_tup (pa_cons pe_str pa_nil)) (pa_cons (pe_lst (pa_cons pe_str pa_nil)) (pa_cons (pe_tup (pa_cons pe_str (pa_cons pe_str (pa_cons pe_str (pa_cons pe_str pa_nil))))) pa_nil)))))))))))))) (pg_name (i := 5) sc.nd rfl (by first | exact Or.inl rfl | exact Or.inr rfl)) (pss_one (ps_if (pt_cmpR op_notBl (pe_callD O_is_side hr (by decide) (pa_cons (pv 5) pa_nil)) pe_bl (nomark _)) (pss_one (ps_ret pe_bl)) pss_nil)))
 (pss_cons (ps_set (i := 6) sc.nd rfl (by first | exact Or.inl rfl | exact Or.inr rfl) (pe_lst (pa_cons pe_str (pa_cons pe_str (pa_cons pe_str (pa_cons pe_str pa_nil))))))
 (pss_cons (ps_for pa rfl (pi_range1 rfl T.f_range (pa_cons pe_int pa_nil)) (pg_name (i := 7) sc.nd rfl (by first | exact Or.inl rfl | exact Or.inr rfl)) (pss_cons (ps_if (pt_cmpR op_notBl (pe_callD O_is_side hr (by decide) (pa_cons (pe_ix ix_seq (pv 6) (pv 7) (fun _ _ => rfl)) pa_nil)) pe_bl (nomark _)) (pss_one (ps_ret pe_bl)) pss_nil)
 (pss_cons (ps_for pa rfl (pi_seqU (pe_lst (pa_cons pe_int (pa_cons pe_int (pa_cons (pe_un un_neg pe_int) (pa_cons pe_int (pa_cons (pe_un un_neg pe_int) (pa_cons pe_int (pa_cons (pe_un un_neg pe_int) (pa_cons pe_int (pa_cons pe_int (pa_cons (pe_un un_neg pe_int) (pa_cons pe_int (pa_cons (pe_un un_neg pe_int) (pa_cons (pe_op op_sub (pe_op op_mod (pe_ix ix_seq (pv 1) pe_int (fun _ _ => rfl)) pe_int) pe_int) (pa_cons (pe_op op_sub (pe_op op_mod (pe_ix ix_seq (pv 1) pe_int (fun _ _ => rfl)) pe_int) pe_int) pa_nil)))))))))))))))) (pg_name (i := 8) sc.nd rfl (by first | exact Or.inl rfl | exact Or.inr rfl)) (pss_one (ps_if (pt_not (pt_tr (pe_callD O_u_law_same hr (by decide) (pa_cons (pe_callD O_turned_direction hr (by decide) (pa_cons (pe_ix ix_seq (pv 6) (pv 7) (fun _ _ => rfl)) (pa_cons (pv 8) pa_nil))) (pa_cons (pe_ix ix_seq (pv 6) (pe_op op_mod (pe_op op_addU (pv 7) (pv 8)) pe_int) (fun _ _ => rfl)) pa_nil))))) (pss_one (ps_ret pe_bl)) pss_nil)))
 (pss_cons (ps_for pa rfl (pi_range1 rfl T.f_range (pa_cons pe_int pa_nil)) (pg_name (i := 9) sc.nd rfl (by first | exact Or.inl rfl | exact Or.inr rfl)) (pss_one (ps_if (pt_not (pt_tr (pe_callD O_u_law_same hr (by decide) (pa_cons (pe_callD O_quarters_between hr (by decide) (pa_cons (pe_ix ix_seq (pv 6) (pv 7) (fun _ _ => rfl)) (pa_cons (pe_ix ix_seq (pv 6) (pv 9) (fun _ _ => rfl)) pa_nil))) (pa_cons (pe_op op_mod (pe_op op_sub (pv 9) (pv 7)) pe_int) pa_nil))))) (pss_one (ps_ret pe_bl)) pss_nil)))
 (pss_cons (ps_if (pt_not (pt_tr (pe_callD O_u_law_same hr (by decide) (pa_cons (pe_callD O_opposite_of hr (by decide) (pa_cons (pe_ix ix_seq (pv 6) (pv 7) (fun _ _ => rfl)) pa_nil)) (pa_cons (pe_ix ix_seq (pv 6) (pe_op op_mod (pe_op op_addU (pv 7) pe_int) pe_int) (fun _ _ => rfl)) pa_nil))))) (pss_one (ps_ret pe_bl)) pss_nil)
 (pss_cons (ps_if (pt_not (pt_tr (pe_callD O_u_law_same hr (by decide) (pa_cons (pe_callD O_mirrored_direction hr (by decide) (pa_cons (pe_ix ix_seq (pv 6) (pv 7) (fun _ _ => rfl)) pa_nil)) (pa_cons (pe_ix ix_seq (pe_lst (pa_cons pe_str (pa_cons pe_str (pa_cons pe_str (pa_cons pe_str pa_nil))))) (pv 7) (fun _ _ => rfl)) pa_nil))))) (pss_one (ps_ret pe_bl)) pss_nil)
 (pss_one (ps_if (pt_not (pt_tr (pe_callD O_u_law_same hr (by decide) (pa_cons (pe_callD O_beside_side hr (by decide) (pa_cons (pe_ix ix_seq (pv 6) (pv 7) (fun _ _ => rfl)) pa_nil)) (pa_cons (pe_tup (pa_cons (pe_ix ix_seq (pv 6) (pe_op op_mod (pe_op op_addU (pv 7) pe_int) pe_int) (fun _ _ => rfl)) (pa_cons (pe_ix ix_seq (pv 6) (pe_op op_mod (pe_op op_addU (pv 7) pe_int) pe_int) (fun _ _ => rfl)) pa_nil))) pa_nil))))) (pss_one (ps_ret pe_bl)) pss_nil))))))))
 (pss_cons (ps_setLc (i := 10) (own := [("k", 7)]) (g := (gName 7)) (tt := tYes) rfl sc.nd rfl rfl (sw_true rfl rfl rfl (by decide +kernel)) (pi_range1 rfl T.f_range (pa_cons (pe_op op_mod (pe_ix ix_seq (pv 1) pe_int (fun _ _ => rfl)) pe_int) pa_nil)) (blkOk_by (own := [("k", 7)]) (N := N_law) (sc := defScope s_law) (by decide +kernel)) (fun _ _ _ _ _ => (pg_name (i := 7) sc.nd rfl (by first | exact Or.inl rfl | exact Or.inr rfl))) (fun _ _ _ _ _ => pts_nil) (fun _ _ _ _ _ => (pe_ix ix_seq (pv 6) (pe_op op_mod (pe_ix ix_seq (pv 1) (pe_op op_addU pe_int (pv 7)) (fun _ _ => rfl)) pe_int) (fun _ _ => rfl))))
 (pss_cons (ps_set (i := 11) sc.nd rfl (by first | exact Or.inl rfl | exact Or.inr rfl) (pe_op op_addU (pe_op op_mulU (pe_lst (pa_cons (pe_ix ix_seq (pv 6) (pe_op op_mod (pe_ix ix_seq (pv 1) pe_int (fun _ _ => rfl)) pe_int) (fun _ _ => rfl)) pa_nil)) (pe_op op_addU pe_int (pe_op op_mod (pe_ix ix_seq (pv 1) pe_int (fun _ _ => rfl)) pe_int))) (pe_lst (pa_cons (pe_ix ix_seq (pv 6) (pe_op op_mod (pe_ix ix_seq (pv 1) pe_int (fun _ _ => rfl)) pe_int) (fun _ _ => rfl)) pa_nil))))
 (pss_cons (ps_for pa rfl (pi_seqU (pe_lst (pa_cons (pv 10) (pa_cons (pe_lst pa_nil) (pa_cons (pv 6) (pa_cons (pv 11) (pa_cons (pe_slice sl_U (pv 11) (po_some pe_int) po_none) (pa_cons (pe_lst (pa_cons pe_str (pa_cons pe_str (pa_cons pe_str pa_nil)))) (pa_cons (pe_op op_addU (pe_slice sl_U (pv 10) (po_some pe_int) po_none) (pe_slice sl_U (pv 10) po_none (po_some pe_int))) (pa_cons (pe_lst (pa_cons pe_str (pa_cons pe_str (pa_cons pe_str pa_nil)))) pa_nil)))))))))) (pg_name (i := 12) sc.nd rfl (by first | exact Or.inl rfl | exact Or.inr rfl)) (pss_cons (ps_set (i := 13) sc.nd rfl (by first | exact Or.inl rfl | exact Or.inr rfl) (pe_joinU pe_str (pe_lc (own := [("direction", 14)]) (g := (gName 14)) (tt := (tTest (tOp (rInU K) (tVar 14) (tVar 12)))) rfl sc.nd (pi_seqU (pv 6)) (blkOk_by (own := [("direction", 14)]) (N := N_law) (sc := defScope s_law) (by decide +kernel)) (fun _ _ _ _ _ => (pg_name (i := 14) sc.nd rfl (by first | exact Or.inl rfl | exact Or.inr rfl))) (fun _ _ _ _ _ => (pts_one (pt_cmpR op_inU (pv 14) (pv 12) rfl))) (fun _ _ _ _ _ => (pv 14)))))
 (pss_one (ps_if (pt_not (pt_tr (pe_callD O_u_law_same hr (by decide) (pa_cons (pe_callD O_ordered_directions hr (by decide) (pa_cons (pe_callTy (r := rTupU _) call_tupleU rfl T.f_tuple b_tuple (pa_cons (pv 12) pa_nil)) pa_nil)) (pa_cons (pv 13) pa_nil))))) (pss_one (ps_ret pe_bl)) pss_nil))))
 (pss_one (ps_ret pe_bl))))))))))))))))
end
end K01

set_option maxHeartbeats 4000000
namespace K01
open PySem PySem.Spec PyProof.Rows L2 DL
local macro_rules | `(tactic| walk_at "sz") => `(tactic| first
  | assumption
  | decide
  | omega
  | (rw [sizeLine_eq]; omega)
  | (simp only [sizeLine_eq, len_app, len_rep, len_one, List.length_append, List.length_cons, List.length_nil, List.length_map, List.length_replicate] <;> omega)
  | (simp only [sizeLine_eq, len_app, len_rep, len_one, List.length_append, List.length_cons, List.length_nil, List.length_map, List.length_replicate] at * <;> omega))
local macro_rules | `(tactic| walk_at "flat") => `(tactic| first
  | rfl
  | assumption
  | decide)
local macro_rules | `(tactic| walk_at "ix") => `(tactic| first
  | rfl
  | exact atI_ints (by walk_at "sz") (by walk_at "sz")
  | exact atI_strs (by walk_at "sz") (by walk_at "sz")
  | exact atI_nn PyData.none (by walk_at "sz") (by walk_at "sz")
  | exact atI_nn (α := Nat) 0 (by walk_at "sz") (by walk_at "sz"))
local macro_rules | `(tactic| walk_at "odx") => `(tactic| first
  | fail "odx")
local macro_rules | `(tactic| walk_at "od") => `(tactic| first
  | ((with_reducible apply od_addI))
  | ((with_reducible apply od_sub))
  | ((with_reducible apply od_cmpI))
  | ((with_reducible apply od_eqI))
  | ((with_reducible apply od_neI))
  | ((with_reducible apply od_cmpS))
  | ((with_reducible apply od_eqS))
  | ((with_reducible apply od_neS))
  | ((with_reducible apply od_eqB))
  | ((with_reducible apply od_neB))
  | ((with_reducible apply od_isB))
  | ((with_reducible apply od_notB))
  | ((with_reducible apply od_inC))
  | ((with_reducible apply od_ninC))
  | ((with_reducible apply od_mod); (· walk_at "sz"))
  | ((with_reducible apply od_div); (· walk_at "sz"))
  | ((with_reducible apply od_mulI); (· first | exact Or.inr (by decide) | exact Or.inl (by decide) | exact Or.inr (by omega) | exact Or.inl (by omega)))
  | ((with_reducible apply od_addS); (· walk_at "sz"))
  | ((with_reducible apply od_addT); (· walk_at "sz"))
  | ((with_reducible apply od_ixL); (· walk_at "ix"))
  | ((with_reducible apply od_ixT); (· walk_at "ix"))
  | ((with_reducible apply od_ixS); (· walk_at "sz"); (· walk_at "ix"))
  | ((with_reducible apply od_inT); (· walk_at "flat"); (· walk_at "flat"))
  | ((with_reducible apply od_ninT); (· walk_at "flat"); (· walk_at "flat"))
  | ((with_reducible apply od_inL); (· walk_at "flat"); (· walk_at "flat"))
  | ((with_reducible apply od_ninL); (· walk_at "flat"); (· walk_at "flat"))
  | ((with_reducible apply od_pow); (· walk_at "sz"))
  | ((with_reducible apply od_mulS); (· walk_at "sz"); (· walk_at "sz"); (· walk_at "sz"))
  | exact od_inC
  | exact od_ninC
  | walk_at "odx")
local macro_rules | `(tactic| walk_at "ea") => `(tactic| first
  | ((with_reducible apply ea_nil))
  | ((with_reducible apply ea_cons); (· walk_at "ev"); (· walk_at "ea")))
local macro_rules | `(tactic| walk_at "cdx") => `(tactic| first
  | fail "cdx")
local macro_rules | `(tactic| walk_at "cd") => `(tactic| first
  | ((with_reducible apply cd_lenL))
  | ((with_reducible apply cd_lenT))
  | ((with_reducible apply cd_lenS); (· walk_at "sz"))
  | ((with_reducible apply cd_int))
  | ((with_reducible apply cd_tupL))
  | ((with_reducible apply cd_tupT))
  | walk_at "cdx")
local macro_rules | `(tactic| walk_at "eo") => `(tactic| first
  | ((with_reducible apply eo_none))
  | ((with_reducible apply eo_some); (· walk_at "ev")))
local macro_rules | `(tactic| walk_at "cnx") => `(tactic| first
  | fail "cnx")
local macro_rules | `(tactic| walk_at "evnx") => `(tactic| first
  | fail "evnx")
local macro_rules | `(tactic| walk_at "evn") => `(tactic| first
  | ((with_reducible apply en_lst); (· walk_at "ea"); (· walk_at "sz"))
  | ((with_reducible apply en_slL); (· walk_at "ev"); (· walk_at "eo"); (· walk_at "eo"))
  | ((with_reducible apply en_slScr); (· walk_at "ev"); (· walk_at "eo"); (· walk_at "eo"))
  | ((with_reducible apply en_op); (· walk_at "ev"); (· walk_at "ev"); (· first | ((with_reducible apply on_addL); (· walk_at "sz")) | ((with_reducible apply on_mulL); (· walk_at "sz"); (· walk_at "sz"); (· walk_at "sz"))))
  | ((with_reducible apply en_cb); (· walk_at "ea"); (· first | with_reducible exact cn_listL | with_reducible exact cn_listT | walk_at "cnx"))
  | walk_at "evnx")
local macro_rules | `(tactic| walk_at "sd") => `(tactic| first
  | assumption
  | rfl
  | omega
  | decide
  | (constructor <;> omega)
  | (simp only [*]; done))
local macro_rules | `(tactic| walk_at "relx") => `(tactic| first
  | fail "relx")
local macro_rules | `(tactic| walk_at "rel") => `(tactic| first
  | exact ⟨_, rfl, by rfl⟩
  | exact ⟨_, rfl, by walk_at "sd", by rfl⟩
  | exact ⟨_, _, rfl, by rfl⟩
  | exact ⟨_, _, rfl, by walk_at "sd", by rfl⟩
  | exact ⟨_, _, rfl, by walk_at "sd", by walk_at "sd", by rfl⟩
  | walk_at "relx")
local macro_rules | `(tactic| walk_at "evx") => `(tactic| first
  | fail "evx")
local macro_rules | `(tactic| walk_at "isi") => `(tactic| first
  | rfl
  | assumption
  | (simp only [isDicD, tyD]; done))
local macro_rules | `(tactic| walk_at "ok") => `(tactic| first
  | rfl
  | assumption
  | decide
  | (simp only [*]; done))
local macro_rules | `(tactic| walk_at "ev") => `(tactic| first
  | ((with_reducible apply ev_var); (· exact rfl))
  | ((with_reducible apply ev_int))
  | ((with_reducible apply ev_str))
  | ((with_reducible apply ev_bl))
  | ((with_reducible apply ev_non))
  | ((with_reducible apply ev_neg); (· walk_at "ev"))
  | ((with_reducible apply ev_ixO); (· exact rfl); (· walk_at "ev"); (· walk_at "ix"))
  | ((with_reducible apply ev_lenO); (· exact rfl))
  | ((with_reducible apply ev_inO); (· walk_at "ev"); (· exact rfl); (· walk_at "flat"); (· walk_at "flat"))
  | ((with_reducible apply ev_ninO); (· walk_at "ev"); (· exact rfl); (· walk_at "flat"); (· walk_at "flat"))
  | ((with_reducible apply ev_op); (· walk_at "ev"); (· walk_at "ev"); (· walk_at "od"))
  | ((with_reducible apply ev_cb); (· walk_at "ea"); (· walk_at "cd"))
  | ((with_reducible apply ev_call); (· walk_at "ea"); (· walk_at "rel"))
  | ((with_reducible apply ev_tup); (· walk_at "ea"); (· walk_at "sz"))
  | ((with_reducible apply ev_isi); (· walk_at "ev"); (· walk_at "isi"); (· first | exact (show kitB _ _ = some true from rfl) | exact (show kitB _ _ = some false from rfl)))
  | ((with_reducible apply ev_isN); (· walk_at "ev"))
  | ((with_reducible apply ev_notN); (· walk_at "ev"))
  | ((with_reducible apply ev_and0); (· exact ev_is (by walk_at "ev") (congrArg PyData.bool (by walk_at "ok"))))
  | ((with_reducible apply ev_or1); (· exact ev_is (by walk_at "ev") (congrArg PyData.bool (by walk_at "ok"))))
  | ((with_reducible apply ev_andV); (· walk_at "ev"); (· intro _; walk_at "ev"))
  | ((with_reducible apply ev_orV); (· walk_at "ev"); (· intro _; walk_at "ev"))
  | ((with_reducible apply ev_notV); (· walk_at "ev"))
  | ((with_reducible apply ev_if1); (· exact et_is (by walk_at "et") (by walk_at "ok")); (· walk_at "ev"))
  | ((with_reducible apply ev_if0); (· exact et_is (by walk_at "et") (by walk_at "ok")); (· walk_at "ev"))
  | ((with_reducible apply ev_ite); (· walk_at "et"); (· intro _; walk_at "ev"); (· intro _; walk_at "ev"))
  | ((with_reducible apply ev_slS); (· walk_at "ev"); (· walk_at "sz"); (· walk_at "eo"); (· walk_at "eo"))
  | ((with_reducible apply ev_slT); (· walk_at "ev"); (· walk_at "eo"); (· walk_at "eo"))
  | ((with_reducible apply ev_chain); (· walk_at "ev"); (· walk_at "ev"); (· walk_at "od"); (· intro _; walk_at "ev"); (· intro _; walk_at "od"))
  | ((with_reducible apply ev_N); (· walk_at "evn"))
  | walk_at "evx")
local macro_rules | `(tactic| walk_at "et!") => `(tactic| first
  | exact et_is (by walk_at "et") (by walk_at "ok"))
local macro_rules | `(tactic| walk_at "et") => `(tactic| first
  | ((with_reducible apply et_or1); (· exact et_is (by walk_at "et") (by walk_at "ok")))
  | ((with_reducible apply et_and0); (· exact et_is (by walk_at "et") (by walk_at "ok")))
  | ((with_reducible apply et_test); (· walk_at "ev"))
  | ((with_reducible apply et_B); (· walk_at "ev"))
  | ((with_reducible apply et_not); (· walk_at "et"))
  | ((with_reducible apply et_and); (· walk_at "et"); (· intro _; walk_at "et"))
  | ((with_reducible apply et_or); (· walk_at "et"); (· intro _; walk_at "et"))
  | ((with_reducible apply et_trB); (· walk_at "ev"))
  | ((with_reducible apply et_trO); (· exact rfl))
  | ((with_reducible apply et_tr); (· walk_at "ev"); (· walk_at "isi"); (· walk_at "sz")))
section
variable {P : Program} {w : World} {K : PySem.W.Frag} {mg : Str → Option Value} {base : Heap}
abbrev FnP (K : PySem.W.Frag) (x : Str) (st : Stmt) : Prop := ∃ fd, FunD K x x (defArgs st) (defBody st) (defScope st) [] [] (He.ga K x) fd
theorem ok_name_fault (T : Txt K mg) (hd : FnP K "name_fault" s_name_fault) (hm : mg "name_fault" = some (.ref (He.ga K "name_fault"))) : Okd P w K mg base CX0 1 "name_fault" ["thing"] (sp_name_fault K) := by
  obtain ⟨fd, F⟩ := hd
  refine ⟨hm, fd, fn_pf F sc_name_fault ?_ (fun cdv A outer s H E hr => ⟨_, dv_name_fault T cdv A outer s H E hr, ?_⟩), F.bindsN (fun _ _ _ _ _ _ us hl => match us, hl with | [_], _ => rfl), F.kp⟩
  · rintro ds d ⟨x, rfl, _⟩
    rfl
  · rintro ds d ⟨x, rfl, hx, rfl⟩
    refine ST.mono (P := fun o => o = .rt (nfD x)) ?_ fun o h => .inl h
    show ST K E0 (t_name_fault K) [.fr x, .no, .no] _
    unfold t_name_fault
    cases x with
    | dict => cases hx
    | str z =>
      have hz : z.length ≤ 1000 := of_decide_eq_true hx
      have hz' : z.length ≤ sizeLine := by rw [sizeLine_eq]; omega
      refine q_when (b := !lenOk z) (by walk_at "et!") (fun hb => st_ret (by walk_at "ev") ?_) fun hb => ?_
      · show Oc.rt _ = Oc.rt (if lenOk z = true then _ else _)
        rw [if_neg (by simpa using hb)]
      · refine q_for (ei_enumS (by walk_at "ea")) (fun i ρ => (∀ j, j < i → badAt z j = false) ∧ ∃ s1 s2, ρ = [.fr (.str z), s1, s2]) ⟨fun j hj => absurd hj (Nat.not_lt_zero _), _, _, rfl⟩ ?_ ?_
        · rintro i ρ hi ⟨hb2, s1, s2, rfl⟩
          refine ⟨_, _, gt_tup rfl (gts_cons gt_name (gts_cons gt_name gts_nil)), ?_⟩
          refine st_if (b := badAt z i) (by walk_at "et!") (fun hb3 => st_ret (by walk_at "ev") ?_) (fun hb3 => st_next ?_)
          · show Oc.rt _ = Oc.rt (if lenOk z = true then _ else _)
            rw [if_pos (by simpa using hb), firstP_some hi hb2 hb3]
            rfl
          · refine ⟨fun j hj => ?_, _, _, rfl⟩
            by_cases e : j = i
            · rw [e]; exact hb3
            · exact hb2 j (by omega)
        · rintro ρ ⟨hb2, s1, s2, rfl⟩
          refine st_ret (by walk_at "ev") ?_
          show Oc.rt _ = Oc.rt (if lenOk z = true then _ else _)
          rw [if_pos (by simpa using hb), firstP_none hb2]
          rfl
    | _ => exact q_yes (by walk_at "et!") (st_ret (by walk_at "ev") (by rfl))
theorem ok_check_name (T : Txt K mg) (hd : FnP K "check_name" s_check_name) (hm : mg "check_name" = some (.ref (He.ga K "check_name"))) (O1 : Okd P w K mg base CX0 1 "name_fault" ["thing"] (sp_name_fault K)) (X1 : ExOk P w K mg base 1 "BadName" ["at"]) :
    Okd P w K mg base (L2.CX P w) 3 "check_name" ["thing"] (sp_check_name K) := by
  obtain ⟨fd, F⟩ := hd
  refine ⟨hm, fd, fn_px F sc_check_name ?_ ?_ (fun cdv A outer s H E hr => ⟨_, dv_check_name T O1 X1 cdv A outer s H E hr, ?_, ?_⟩), F.bindsN (fun _ _ _ _ _ _ us hl => match us, hl with | [_], _ => rfl), F.kp⟩
  · rintro ds d ⟨x, rfl, _⟩
    rfl
  · rintro ds C fl ⟨x, rfl, _⟩
    rfl
  · rintro ds d ⟨x, rfl, hx, hn, rfl⟩
    refine ST.mono (P := fun o => o = .rt (.int (lenD x))) ?_ fun o h => .inl h
    show ST K E (t_check_name K E) [.fr x, .no] _
    unfold t_check_name
    refine q_asg (ev_call (R := fun ds d => ∃ x, ds = [x] ∧ okD x = true ∧ d = nfD x) (by walk_at "ea") (by walk_at "rel")) ?_
    refine q_no (et_is (by walk_at "et") (by rw [hn]; rfl)) ?_
    cases x with
    | str z =>
      have hz : z.length ≤ 1000 := of_decide_eq_true hx
      exact st_ret (by walk_at "ev") (by rfl)
    | _ => cases hn
  · rintro ds C fl ⟨x, rfl, hx, hn, rfl, rfl⟩
    show ST K E (t_check_name K E) [.fr x, .no] _
    unfold t_check_name
    refine q_asg (ev_call (R := fun ds d => ∃ x, ds = [x] ∧ okD x = true ∧ d = nfD x) (by walk_at "ea") (by walk_at "rel")) ?_
    refine q_yes (et_is (by walk_at "et") (by rw [isNone_ne hn]; rfl)) ?_
    exact st_raiseO (by walk_at "ea") (by rfl) (by show 1 ≤ 1000; decide) (by rfl)
theorem ev_SIDES (T : Txt K mg) {ρ : List Sl} : EV K (tC (.ref (He.ga K "SIDES"))) ρ (.tuple [.str "E", .str "N", .str "W", .str "S"]) := ev_glob fun G => .tup (T.t_SIDES G) (.cons (.str _) (.cons (.str _) (.cons (.str _) (.cons (.str _) .nil))))
theorem ok_is_side (T : Txt K mg) (hd : FnP K "is_side" s_is_side) (hm : mg "is_side" = some (.ref (He.ga K "is_side"))) : Okd P w K mg base CX0 1 "is_side" ["thing"] (sp_is_side K) := by
  obtain ⟨fd, F⟩ := hd
  refine ⟨hm, fd, fn_pf F sc_is_side ?_ (fun cdv A outer s H E hr => ⟨_, dv_is_side T cdv A outer s H E hr, ?_⟩), F.bindsN (fun _ _ _ _ _ _ us hl => match us, hl with | [_], _ => rfl), F.kp⟩
  · rintro ds d ⟨x, rfl, _⟩
    rfl
  · rintro ds d ⟨x, rfl, hx, rfl⟩
    refine ST.mono (P := fun o => o = .rt (.bool (isSideD x))) ?_ fun o h => .inl h
    show ST K E0 (t_is_side K) [.fr x] _
    unfold t_is_side
    cases x with
    | dict => cases hx
    | str z => exact st_ret (ev_andV (b := inD (.str z) [.str "E", .str "N", .str "W", .str "S"]) (by walk_at "ev") (fun _ => ev_op (by walk_at "ev") (ev_SIDES T) (by walk_at "od"))) (by rfl)
    | _ => exact st_ret (by walk_at "ev") (by rfl)
/-! directions -/
theorem cases4 {k : Int} (h : 0 ≤ k ∧ k < 4) : k = 0 ∨ k = 1 ∨ k = 2 ∨ k = 3 := by omega
theorem od_dir {m : Int} (h : 0 ≤ m ∧ m < 4) : OD K (rIx K) (.str "ENWS") (.int m) (.str (dirS m)) := by
  rcases cases4 h with rfl | rfl | rfl | rfl
  · exact od_ixS (by decide) rfl
  · exact od_ixS (by decide) rfl
  · exact od_ixS (by decide) rfl
  · exact od_ixS (by decide) rfl
theorem ok_direction_number (T : Txt K mg) (hd : FnP K "direction_number" s_direction_number) (hm : mg "direction_number" = some (.ref (He.ga K "direction_number"))) : Okd P w K mg base CX0 1 "direction_number" ["direction"] (sp_direction_number K) := by
  obtain ⟨fd, F⟩ := hd
  refine ⟨hm, fd, fn_pf F sc_direction_number ?_ (fun cdv A outer s H E hr => ⟨_, dv_direction_number T cdv A outer s H E hr, ?_⟩), F.bindsN (fun _ _ _ _ _ _ us hl => match us, hl with | [_], _ => rfl), F.kp⟩
  · rintro ds d ⟨x, rfl, _⟩
    rfl
  · rintro ds d ⟨k, rfl, hk, rfl⟩
    refine ST.mono (P := fun o => o = .rt (.int k)) ?_ fun o h => .inl h
    show ST K E0 (t_direction_number K) [.fr (.str (dirS k))] _
    unfold t_direction_number
    rcases cases4 hk with rfl | rfl | rfl | rfl
    · exact st_ret (ev_sindex (i := 0) (rest := []) (by walk_at "ev") (by walk_at "ev") (by decide +kernel)) (by rfl)
    · exact st_ret (ev_sindex (i := 1) (rest := []) (by walk_at "ev") (by walk_at "ev") (by decide +kernel)) (by rfl)
    · exact st_ret (ev_sindex (i := 2) (rest := []) (by walk_at "ev") (by walk_at "ev") (by decide +kernel)) (by rfl)
    · exact st_ret (ev_sindex (i := 3) (rest := []) (by walk_at "ev") (by walk_at "ev") (by decide +kernel)) (by rfl)
theorem ok_direction_by (T : Txt K mg) (hd : FnP K "direction_by" s_direction_by) (hm : mg "direction_by" = some (.ref (He.ga K "direction_by"))) : Okd P w K mg base CX0 1 "direction_by" ["number"] (sp_direction_by K) := by
  obtain ⟨fd, F⟩ := hd
  refine ⟨hm, fd, fn_pf F sc_direction_by ?_ (fun cdv A outer s H E hr => ⟨_, dv_direction_by T cdv A outer s H E hr, ?_⟩), F.bindsN (fun _ _ _ _ _ _ us hl => match us, hl with | [_], _ => rfl), F.kp⟩
  · rintro ds d ⟨x, rfl, _⟩
    rfl
  · rintro ds d ⟨n, rfl, rfl⟩
    refine ST.mono (P := fun o => o = .rt (.str (dirS (n % 4)))) ?_ fun o h => .inl h
    show ST K E0 (t_direction_by K) [.fr (.int n)] _
    unfold t_direction_by
    exact st_ret (ev_op (by walk_at "ev") (by walk_at "ev") (od_dir (by omega))) (by rfl)
theorem ok_turned_direction (T : Txt K mg) (hd : FnP K "turned_direction" s_turned_direction) (hm : mg "turned_direction" = some (.ref (He.ga K "turned_direction"))) (O1 : Okd P w K mg base CX0 1 "direction_by" ["number"] (sp_direction_by K)) (O2 : Okd P w K mg base CX0 1 "direction_number" ["direction"] (sp_direction_number K)) :
    Okd P w K mg base CX0 2 "turned_direction" ["direction", "n"] (sp_turned_direction K) := by
  obtain ⟨fd, F⟩ := hd
  refine ⟨hm, fd, fn_pf F sc_turned_direction ?_ (fun cdv A outer s H E hr => ⟨_, dv_turned_direction T O1 O2 cdv A outer s H E hr, ?_⟩), F.bindsN (fun _ _ _ _ _ _ us hl => match us, hl with | [_, _], _ => rfl), F.kp⟩
  · rintro ds d ⟨x, y, rfl, _⟩
    rfl
  · rintro ds d ⟨k, n, rfl, hk, rfl⟩
    refine ST.mono (P := fun o => o = .rt (.str (dirS ((k + n) % 4)))) ?_ fun o h => .inl h
    show ST K E0 (t_turned_direction K) [.fr (.str (dirS k)), .fr (.int n)] _
    unfold t_turned_direction sp_direction_by sp_direction_number
    exact st_ret (by walk_at "ev") (by rfl)
theorem ok_opposite_of (T : Txt K mg) (hd : FnP K "opposite_of" s_opposite_of) (hm : mg "opposite_of" = some (.ref (He.ga K "opposite_of"))) (O1 : Okd P w K mg base CX0 1 "direction_by" ["number"] (sp_direction_by K)) (O2 : Okd P w K mg base CX0 1 "direction_number" ["direction"] (sp_direction_number K)) :
    Okd P w K mg base CX0 2 "opposite_of" ["direction"] (sp_opposite_of K) := by
  obtain ⟨fd, F⟩ := hd
  refine ⟨hm, fd, fn_pf F sc_opposite_of ?_ (fun cdv A outer s H E hr => ⟨_, dv_opposite_of T O1 O2 cdv A outer s H E hr, ?_⟩), F.bindsN (fun _ _ _ _ _ _ us hl => match us, hl with | [_], _ => rfl), F.kp⟩
  · rintro ds d ⟨x, rfl, _⟩
    rfl
  · rintro ds d ⟨k, rfl, hk, rfl⟩
    refine ST.mono (P := fun o => o = .rt (.str (dirS ((k + 2) % 4)))) ?_ fun o h => .inl h
    show ST K E0 (t_opposite_of K) [.fr (.str (dirS k))] _
    unfold t_opposite_of sp_direction_by sp_direction_number
    exact st_ret (by walk_at "ev") (by rfl)
theorem ok_mirrored_direction (T : Txt K mg) (hd : FnP K "mirrored_direction" s_mirrored_direction) (hm : mg "mirrored_direction" = some (.ref (He.ga K "mirrored_direction"))) (O1 : Okd P w K mg base CX0 1 "direction_by" ["number"] (sp_direction_by K)) (O2 : Okd P w K mg base CX0 1 "direction_number" ["direction"] (sp_direction_number K)) :
    Okd P w K mg base CX0 2 "mirrored_direction" ["direction"] (sp_mirrored_direction K) := by
  obtain ⟨fd, F⟩ := hd
  refine ⟨hm, fd, fn_pf F sc_mirrored_direction ?_ (fun cdv A outer s H E hr => ⟨_, dv_mirrored_direction T O1 O2 cdv A outer s H E hr, ?_⟩), F.bindsN (fun _ _ _ _ _ _ us hl => match us, hl with | [_], _ => rfl), F.kp⟩
  · rintro ds d ⟨x, rfl, _⟩
    rfl
  · rintro ds d ⟨k, rfl, hk, rfl⟩
    refine ST.mono (P := fun o => o = .rt (.str (dirS ((2 - k) % 4)))) ?_ fun o h => .inl h
    show ST K E0 (t_mirrored_direction K) [.fr (.str (dirS k))] _
    unfold t_mirrored_direction sp_direction_by sp_direction_number
    exact st_ret (by walk_at "ev") (by rfl)
theorem ok_quarters_between (T : Txt K mg) (hd : FnP K "quarters_between" s_quarters_between) (hm : mg "quarters_between" = some (.ref (He.ga K "quarters_between"))) (O2 : Okd P w K mg base CX0 1 "direction_number" ["direction"] (sp_direction_number K)) :
    Okd P w K mg base CX0 2 "quarters_between" ["one", "other"] (sp_quarters_between K) := by
  obtain ⟨fd, F⟩ := hd
  refine ⟨hm, fd, fn_pf F sc_quarters_between ?_ (fun cdv A outer s H E hr => ⟨_, dv_quarters_between T O2 cdv A outer s H E hr, ?_⟩), F.bindsN (fun _ _ _ _ _ _ us hl => match us, hl with | [_, _], _ => rfl), F.kp⟩
  · rintro ds d ⟨x, y, rfl, _⟩
    rfl
  · rintro ds d ⟨k, j, rfl, hk, hj, rfl⟩
    refine ST.mono (P := fun o => o = .rt (.int ((j - k) % 4))) ?_ fun o h => .inl h
    show ST K E0 (t_quarters_between K) [.fr (.str (dirS k)), .fr (.str (dirS j))] _
    unfold t_quarters_between sp_direction_number
    exact st_ret (by walk_at "ev") (by rfl)
theorem ok_beside_side (T : Txt K mg) (hd : FnP K "beside_side" s_beside_side) (hm : mg "beside_side" = some (.ref (He.ga K "beside_side"))) (O1 : Okd P w K mg base CX0 1 "direction_number" ["direction"] (sp_direction_number K)) (O2 : Okd P w K mg base CX0 1 "direction_by" ["number"] (sp_direction_by K)) :
    Okd P w K mg base CX0 2 "beside_side" ["side"] (sp_beside_side K) := by
  obtain ⟨fd, F⟩ := hd
  refine ⟨hm, fd, fn_pf F sc_beside_side ?_ (fun cdv A outer s H E hr => ⟨_, dv_beside_side T O1 O2 cdv A outer s H E hr, ?_⟩), F.bindsN (fun _ _ _ _ _ _ us hl => match us, hl with | [_], _ => rfl), F.kp⟩
  · rintro ds d ⟨x, rfl, _⟩
    rfl
  · rintro ds d ⟨k, rfl, hk, rfl⟩
    refine ST.mono (P := fun o => o = .rt (.tuple [.str (dirS ((k - 1) % 4)), .str (dirS ((k + 1) % 4))])) ?_ fun o h => .inl h
    show ST K E0 (t_beside_side K) [.fr (.str (dirS k)), .no] _
    unfold t_beside_side sp_direction_by sp_direction_number
    refine q_asg (by walk_at "ev") ?_
    exact st_ret (by walk_at "ev") (by rfl)
theorem ord_size (p : D → Bool) : ((ordS p).map (·.length)).sum + (ordS p).length * (("" : Str)).length ≤ 16777216 := by
  unfold ordS
  simp only [List.filter_cons, List.filter_nil]
  cases p (.str "E") <;> cases p (.str "N") <;> cases p (.str "W") <;> cases p (.str "S") <;> decide
theorem lcD_ord (p : D → Bool) (f : Nat → D) (h0 : f 0 = .str "E") (h1 : f 1 = .str "N") (h2 : f 2 = .str "W") (h3 : f 3 = .str "S") : lcD 4 (fun i => p (f i)) f = (ordS p).map PyData.str := by
  unfold ordS
  simp only [List.filter_cons, List.filter_nil, lcD, h0, h1, h2, h3]
  cases p (.str "E") <;> cases p (.str "N") <;> cases p (.str "W") <;> cases p (.str "S") <;> rfl
theorem ok_ordered_directions (T : Txt K mg) (hd : FnP K "ordered_directions" s_ordered_directions) (hm : mg "ordered_directions" = some (.ref (He.ga K "ordered_directions"))) : Okd P w K mg base CX0 1 "ordered_directions" ["directions"] (sp_ordered_directions K) := by
  obtain ⟨fd, F⟩ := hd
  refine ⟨hm, fd, fn_pf F sc_ordered_directions ?_ (fun cdv A outer s H E hr => ⟨_, dv_ordered_directions T cdv A outer s H E hr, ?_⟩), F.bindsN (fun _ _ _ _ _ _ us hl => match us, hl with | [_], _ => rfl), F.kp⟩
  · rintro ds d ⟨x, rfl, _⟩
    rfl
  · rintro ds d ⟨ts, rfl, hts, rfl⟩
    refine ST.mono (P := fun o => o = .rt (.str (Txt.join Str.empty (ordS fun x => inD x ts)))) ?_ fun o h => .inl h
    show ST K E0 (t_ordered_directions K) [.fr (.tuple ts), .no] _
    unfold t_ordered_directions
    refine st_ret (ev_joinL (ys := ordS fun x => inD x ts) (by walk_at "ev") (ev_N (en_is (en_lc (b := fun i => inD (chD "ENWS" i) ts) (f := chD "ENWS") (ei_str (by walk_at "ev")) (by decide) fun i hi => ⟨_, _, gt_name, by simp, ?_, fun _ => by walk_at "ev"⟩) ?_)) (ord_size _)) (by rfl)
    · exact et_test (ev_op (by walk_at "ev") (by walk_at "ev") (od_inT (by rfl) hts))
    · exact congrArg PyData.list (lcD_ord (fun x => inD x ts) (chD "ENWS") rfl rfl rfl rfl)

/-! the law's pool -/
theorem map_cut {ns : List Int} (lo hi : Option Int) : ∃ ms : List Int, cutDs (ns.map PyData.int) lo hi = ms.map PyData.int ∧ ms.length ≤ ns.length := by
  refine ⟨(ns.drop (HT.sIx ns.length 0 lo)).take (HT.sIx ns.length ns.length hi - HT.sIx ns.length 0 lo), ?_, ?_⟩
  · unfold cutDs
    rw [List.length_map, List.map_take, List.map_drop]
  · rw [List.length_take, List.length_drop]
    omega
theorem lcD_all {b : Nat → Bool} {f : Nat → D} {g : Nat → Int} (hb : ∀ i, b i = true) : ∀ {n : Nat}, (∀ i, i < n → f i = .int (g i)) → lcD n b f = ((List.range n).map g).map PyData.int
  | 0, _ => rfl
  | n + 1, h => by
    unfold lcD
    rw [if_pos (hb n), lcD_all hb (fun i hi => h i (by omega)), List.range_succ, List.map_append, List.map_append, h n (by omega)]
    rfl
theorem getD_map_int {ms : List Int} {i : Nat} (hi : i < ms.length) : (ms.map PyData.int).getD i .none = .int (ms.getD i 0) := by
  rw [List.getD_eq_getElem?_getD, List.getD_eq_getElem?_getD, List.getElem?_map]
  simp [hi]
theorem map_set {ms : List Int} {j : Nat} {v : Int} : (ms.map PyData.int).set j (.int v) = (ms.set j v).map PyData.int := (List.map_set ..).symm
theorem map_add {ms : List Int} {v : Int} : ms.map PyData.int ++ [PyData.int v] = (ms ++ [v]).map PyData.int := by rw [List.map_append]; rfl
theorem ok_u_law_pool (T : Txt K mg) (hd : FnP K "_law_pool" s_u_law_pool) (hm : mg "_law_pool" = some (.ref (He.ga K "_law_pool"))) : Okd P w K mg base CX0 1 "_law_pool" ["script", "many"] (sp_u_law_pool K) := by
  obtain ⟨fd, F⟩ := hd
  refine ⟨hm, fd, fn_pq F sc_u_law_pool ?_ (fun cdv A outer s H E hr => ⟨_, dv_u_law_pool T cdv A outer s H E hr, ?_⟩), F.bindsN (fun _ _ _ _ _ _ us hl => match us, hl with | [_, _], _ => rfl), F.kp⟩
  · rintro ds ⟨ns, m, rfl, _⟩
    rfl
  · rintro ds ⟨ns, m, rfl, hns, h0, h1⟩
    show ST K E0 (t_u_law_pool K) [.fr (.dict [(.none, .list (ns.map PyData.int))]), .fr (.int m), .no, .no, .no, .no, .no, .no, .no] _
    unfold t_u_law_pool
    -- cells = [..]
    obtain ⟨ms, e1, hms⟩ := map_cut (ns := ns) none (some 63)
    refine q_asg (ev_N (en_lc (b := fun _ => true) (f := fun i => .int (if decide (0 ≤ ms.getD i 0) = true then ms.getD i 0 else - ms.getD i 0)) (ei_list (ds := ms.map PyData.int) (ev_is (ev_N (by walk_at "evn")) (congrArg PyData.list e1))) (by rw [List.length_map]; omega) fun i hi => ?_)) ?_
    · rw [List.length_map] at hi
      refine ⟨_, _, gt_name, by simp, et_yes, fun _ => ?_⟩
      rw [getD_map_int hi]
      refine ev_is (ev_ite (by walk_at "et") (fun _ => by walk_at "ev") (fun _ => by walk_at "ev")) ?_
      by_cases h : 0 ≤ ms.getD i 0
      · rw [decide_eq_true h]; rfl
      · rw [decide_eq_false h]; rfl
    rw [lcD_all (fun _ => rfl) (fun i _ => rfl), List.length_map]
    -- if len(cells) == 0: cells = [37]
    refine q_cut (fun ρ => ∃ cs : List Int, 1 ≤ cs.length ∧ cs.length ≤ 63 ∧ ρ = [.fr (.dict [(.none, .list (ns.map PyData.int))]), .fr (.int m), .fr (.list (cs.map PyData.int)), .no, .no, .no, .no, .no, .no]) ?_ ?_
    · refine st_if (by walk_at "et") (fun hb => st_asg (by walk_at "ev") ?_) (fun hb => st_next ?_)
      · exact ⟨[_], by decide, by decide, rfl⟩
      · refine ⟨_, ?_, ?_, rfl⟩
        · have := of_decide_eq_false hb
          rw [List.length_map] at this
          omega
        · rw [List.length_map, List.length_range]
          omega
    rintro ρ ⟨cs, hc1, hc2, rfl⟩
    -- rest = [..]
    refine q_asgN (en_lc (b := fun _ => true) (f := fun i => .int (if decide ((10 : Int) ^ (18 : Int).toNat ≤ cs.getD i 0) = true then cs.getD i 0 else 0)) (ei_list (by walk_at "ev")) (by rw [List.length_map]; omega) fun i hi => ?_) ?_
    · rw [List.length_map] at hi
      refine ⟨_, _, gt_name, by simp, et_yes, fun _ => ?_⟩
      rw [getD_map_int hi]
      refine ev_is (ev_ite (by walk_at "et") (fun _ => by walk_at "ev") (fun _ => by walk_at "ev")) ?_
      by_cases h : (10 : Int) ^ (18 : Int).toNat ≤ cs.getD i 0
      · rw [decide_eq_true h]; rfl
      · rw [decide_eq_false h]; rfl
    rw [lcD_all (fun _ => rfl) (fun i _ => rfl), List.length_map]
    -- pool = []
    refine q_asgN (by walk_at "evn") ?_
    -- for k in range(many)
    refine q_for (ei_rng1 (by walk_at "ea") (by omega) (by omega)) (fun i ρ => ∃ (rs ps : List Int) (s6 s7 s8 : Sl), rs.length = cs.length ∧ ps.length = i ∧
      ρ = [.fr (.dict [(.none, .list (ns.map PyData.int))]), .fr (.int m), .fr (.list (cs.map PyData.int)), .no, .ow (.list (rs.map PyData.int)), .ow (.list (ps.map PyData.int)), s6, s7, s8]) ⟨_, [], _, _, _, ?_, rfl, rfl⟩ ?_ ?_
    · rw [List.length_map, List.length_range]
    · rintro i ρ hi ⟨rs, ps, s6, s7, s8, hr1, hp1, rfl⟩
      refine ⟨_, _, gt_name, ?_⟩
      have hcl : 0 < ((cs.map PyData.int).length : Int) := by rw [List.length_map]; omega
      have hm0 : 0 ≤ (i : Int) % ((cs.map PyData.int).length : Int) := Int.emod_nonneg _ (by omega)
      have hm1 : (i : Int) % ((cs.map PyData.int).length : Int) < (cs.map PyData.int).length := Int.emod_lt_of_pos _ hcl
      refine q_asg (by walk_at "ev") ?_
      have hm2 : (i : Int) % ((cs.map PyData.int).length : Int) < cs.length := by rw [List.length_map] at hm1; rw [List.length_map]; exact hm1
      have hm3 : (i : Int) % ((cs.map PyData.int).length : Int) < rs.length := by rw [hr1]; exact hm2
      generalize (i : Int) % ((cs.map PyData.int).length : Int) = a at hm0 hm1 hm2 hm3
      refine st_if (by walk_at "et") (fun hb => ?_) (fun hb => ?_)
      · refine q_append (by rfl) (by walk_at "ev") (by rw [List.length_map]; omega) ?_
        rw [map_add]
        refine st_setL (by rfl) (by walk_at "ev") (by walk_at "ev") (ixN_nn hm0 (by rw [List.length_map]; exact hm3)) ?_
        rw [map_set]
        exact ⟨_, _, _, _, _, by rw [List.length_set]; exact hr1, by rw [List.length_append, hp1]; rfl, rfl⟩
      · refine q_asg (by walk_at "ev") ?_
        refine st_append (by rfl) (by walk_at "ev") (by rw [List.length_map]; omega) ?_
        rw [map_add]
        exact ⟨_, _, _, _, _, hr1, by rw [List.length_append, hp1]; rfl, rfl⟩
    · rintro ρ ⟨rs, ps, s6, s7, s8, hr1, hp1, rfl⟩
      refine q_frz (i := 5) rfl ?_
      refine st_ret (by walk_at "ev") ?_
      exact ⟨_, rfl, m, _, ps, rfl, rfl, by omega⟩

/-! _law_same of equal things -/
theorem flat_same {x : D} (h : flatD x = true) : x = .none ∨ (∃ b, x = .bool b) ∨ (∃ i, x = .int i) ∨ ∃ z, x = .str z := by
  cases x with
  | none => exact .inl rfl
  | bool b => exact .inr (.inl ⟨b, rfl⟩)
  | int i => exact .inr (.inr (.inl ⟨i, rfl⟩))
  | str z => exact .inr (.inr (.inr ⟨z, rfl⟩))
  | _ => cases h
def sp_same0 (K : PySem.W.Frag) : Sp := PF K fun ds d => ∃ x, ds = [x, x] ∧ flatD x = true ∧ d = .bool true
theorem all_getD {ds : List D} (h : ds.all flatD = true) {i : Nat} (hi : i < ds.length) : flatD (ds.getD i .none) = true := by
  rw [List.getD_eq_getElem?_getD, List.getElem?_eq_getElem hi]
  exact List.all_eq_true.mp h _ (List.getElem_mem hi)
theorem same_flat {sp : Sp} {x : D} (h : flatD x = true) : ST K E0 (t_u_law_same K sp) [.fr x, .fr x, .no] (fun o => o = .rt (.bool true)) := by
  unfold t_u_law_same
  rcases flat_same h with rfl | ⟨b, rfl⟩ | ⟨i, rfl⟩ | ⟨z, rfl⟩
  · refine q_no (by walk_at "et!") ?_
    refine q_no (by walk_at "et!") ?_
    exact q_yes (by walk_at "et!") (st_ret (by walk_at "ev") (by rfl))
  · refine q_no (by walk_at "et!") ?_
    refine q_no (by walk_at "et!") ?_
    refine q_no (by walk_at "et!") ?_
    refine q_yes (by walk_at "et!") (st_ret (by walk_at "ev") ?_)
    show Oc.rt _ = Oc.rt _
    simp
  · refine q_no (by walk_at "et!") ?_
    refine q_no (by walk_at "et!") ?_
    refine q_no (by walk_at "et!") ?_
    refine q_no (by walk_at "et!") ?_
    refine q_no (by walk_at "et!") ?_
    refine st_ret (by walk_at "ev") ?_
    show Oc.rt _ = Oc.rt _
    simp
  · refine q_no (by walk_at "et!") ?_
    refine q_no (by walk_at "et!") ?_
    refine q_no (by walk_at "et!") ?_
    refine q_no (by walk_at "et!") ?_
    refine q_yes (by walk_at "et!") (st_ret (by walk_at "ev") ?_)
    show Oc.rt _ = Oc.rt _
    simp
theorem ok_same0 (T : Txt K mg) (hd : FnP K "_law_same" s_u_law_same) (hm : mg "_law_same" = some (.ref (He.ga K "_law_same"))) : Okd P w K mg base CX0 1 "_law_same" ["told", "due"] (sp_same0 K) := by
  obtain ⟨fd, F⟩ := hd
  have b := F.bindsN (ps := ["told", "due"]) (fun _ _ _ _ _ _ us hl => match us, hl with | [_, _], _ => rfl)
  have O0 : Okd P w K mg base CX0 0 "_law_same" ["told", "due"] (fun _ _ _ _ => False) := ⟨hm, fd, ⟨fun _ _ _ _ h => h.elim, fun _ _ _ _ _ _ _ _ _ _ _ _ _ h => h.elim⟩, b, F.kp⟩
  refine ⟨hm, fd, fn_pf F sc_u_law_same ?_ (fun cdv A outer s H E hr => ⟨_, dv_u_law_same T O0 cdv A outer s H E hr, ?_⟩), b, F.kp⟩
  · rintro ds d ⟨x, rfl, _⟩
    rfl
  · rintro ds d ⟨x, rfl, hx, rfl⟩
    exact ST.mono (P := fun o => o = .rt (.bool true)) (same_flat hx) fun o h => .inl h
theorem ok_u_law_same (T : Txt K mg) (hd : FnP K "_law_same" s_u_law_same) (hm : mg "_law_same" = some (.ref (He.ga K "_law_same"))) : Okd P w K mg base CX0 2 "_law_same" ["told", "due"] (sp_u_law_same K) := by
  have O0 : Okd P w K mg base CX0 1 "_law_same" ["told", "due"] (sp_same0 K) := ok_same0 T hd hm
  obtain ⟨fd, F⟩ := hd
  refine ⟨hm, fd, fn_pf F sc_u_law_same ?_ (fun cdv A outer s H E hr => ⟨_, dv_u_law_same T O0 cdv A outer s H E hr, ?_⟩), F.bindsN (fun _ _ _ _ _ _ us hl => match us, hl with | [_, _], _ => rfl), F.kp⟩
  · rintro ds d ⟨x, rfl, _⟩
    rfl
  · rintro ds d ⟨x, rfl, hx, rfl⟩
    refine ST.mono (P := fun o => o = .rt (.bool true)) ?_ fun o h => .inl h
    cases x with
    | list ds =>
      obtain ⟨h1, h2⟩ := Bool.and_eq_true_iff.mp hx
      have h2 := of_decide_eq_true h2
      show ST K E0 (t_u_law_same K (sp_same0 K)) [.fr (.list ds), .fr (.list ds), .no] _
      unfold t_u_law_same sp_same0
      refine q_no (by walk_at "et!") ?_
      refine q_yes (by walk_at "et!") ?_
      refine q_no (et_is (by walk_at "et") (by simp)) ?_
      refine q_for (ei_rng1 (by walk_at "ea") (by omega) (by omega)) (fun i ρ => ∃ s, ρ = [.fr (.list ds), .fr (.list ds), s]) ⟨_, rfl⟩ ?_ ?_
      · rintro i ρ hi ⟨s2, rfl⟩
        have hi : i < ds.length := by omega
        refine ⟨_, _, gt_name, ?_⟩
        refine st_no (et_is (et_not (et_trB (ev_call (by walk_at "ea") ⟨_, rfl, all_getD h1 hi, by rfl⟩))) (by rfl)) (st_next ⟨_, rfl⟩)
      · rintro ρ ⟨s2, rfl⟩
        exact st_ret (by walk_at "ev") (by rfl)
    | tuple ds =>
      obtain ⟨h1, h2⟩ := Bool.and_eq_true_iff.mp hx
      have h2 := of_decide_eq_true h2
      show ST K E0 (t_u_law_same K (sp_same0 K)) [.fr (.tuple ds), .fr (.tuple ds), .no] _
      unfold t_u_law_same sp_same0
      refine q_no (by walk_at "et!") ?_
      refine q_yes (by walk_at "et!") ?_
      refine q_no (et_is (by walk_at "et") (by simp)) ?_
      refine q_for (ei_rng1 (by walk_at "ea") (by omega) (by omega)) (fun i ρ => ∃ s, ρ = [.fr (.tuple ds), .fr (.tuple ds), s]) ⟨_, rfl⟩ ?_ ?_
      · rintro i ρ hi ⟨s2, rfl⟩
        have hi : i < ds.length := by omega
        refine ⟨_, _, gt_name, ?_⟩
        refine st_no (et_is (et_not (et_trB (ev_call (by walk_at "ea") ⟨_, rfl, all_getD h1 hi, by rfl⟩))) (by rfl)) (st_next ⟨_, rfl⟩)
      · rintro ρ ⟨s2, rfl⟩
        exact st_ret (by walk_at "ev") (by rfl)
    | dict => cases hx
    | none => exact same_flat hx
    | bool b => exact same_flat hx
    | int i => exact same_flat hx
    | str z => exact same_flat hx
/-! _law_place, _law_told -/
theorem lf_mem (c : Nat) : decide (c ∈ sLF.cps.toList) = (decide (c ∈ sL.cps.toList) || decide (c ∈ sF.cps.toList)) := by
  have e : sLF.cps.toList = sL.cps.toList ++ sF.cps.toList := by decide +kernel
  rw [e, Bool.eq_iff_iff]
  simp
theorem ok_u_law_place (T : Txt K mg) (hd : FnP K "_law_place" s_u_law_place) (hm : mg "_law_place" = some (.ref (He.ga K "_law_place"))) : Okd P w K mg base CX0 1 "_law_place" ["thing"] (sp_u_law_place K) := by
  obtain ⟨fd, F⟩ := hd
  refine ⟨hm, fd, fn_pf F sc_u_law_place ?_ (fun cdv A outer s H E hr => ⟨_, dv_u_law_place T cdv A outer s H E hr, ?_⟩), F.bindsN (fun _ _ _ _ _ _ us hl => match us, hl with | [_], _ => rfl), F.kp⟩
  · rintro ds d ⟨x, rfl, _⟩
    rfl
  · rintro ds d ⟨x, rfl, hx, rfl⟩
    refine ST.mono (P := fun o => o = .rt (plD x)) ?_ fun o h => .inl h
    show ST K E0 (t_u_law_place K) [.fr x, .no, .no] _
    unfold t_u_law_place
    cases x with
    | dict => cases hx
    | str z =>
      have hz : z.length ≤ 1000 := of_decide_eq_true hx
      have hz' : z.length ≤ sizeLine := by rw [sizeLine_eq]; omega
      refine q_when (b := !lenOk z) (et_is (by walk_at "et") ?_) (fun hb => st_ret (by walk_at "ev") ?_) fun hb => ?_
      · unfold lenOk
        rw [Bool.eq_iff_iff]
        simp
      · show Oc.rt _ = Oc.rt (if lenOk z = true then _ else _)
        rw [if_neg (by simpa using hb)]
      · refine q_for (ei_rng1 (by walk_at "ea") (by omega) (by omega)) (fun i ρ => (∀ j, j < i → badAt z j = false) ∧ ∃ s1 s2, ρ = [.fr (.str z), s1, s2]) ⟨fun j hj => absurd hj (Nat.not_lt_zero _), _, _, rfl⟩ ?_ ?_
        · rintro i ρ hi ⟨hb2, s1, s2, rfl⟩
          have hi : i < z.cps.size := by
            have e : z.length = z.cps.size := rfl
            omega
          refine ⟨_, _, gt_name, ?_⟩
          have hix : atI z.cps.toList ((i : Nat) : Int) = some (z.cps.getD i 0) := by
            refine atI_nat ?_
            simp [hi]
          refine q_asg (d := .str (if (i : Int) = 0 then sL else sLF)) (ev_is (ev_ite (by walk_at "et") (fun _ => by walk_at "ev") (fun _ => by walk_at "ev")) ?_) ?_
          · by_cases e : (i : Int) = 0
            · rw [decide_eq_true e, if_pos e]; rfl
            · rw [decide_eq_false e, if_neg e]; rfl
          refine st_if (b := badAt z i) (et_is (et_test (ev_op (ev_op (by walk_at "ev") (by walk_at "ev") (od_ixS hz' hix)) (by walk_at "ev") od_ninC)) ?_) (fun hb3 => st_ret (by walk_at "ev") ?_) (fun hb3 => st_next ?_)
          · unfold badAt
            by_cases e : (i : Int) = 0
            · rw [if_pos e, decide_eq_true e, Bool.true_or, Bool.and_true]
            · rw [if_neg e, decide_eq_false e, lf_mem, Bool.false_or, Bool.not_or]
          · show Oc.rt _ = Oc.rt (if lenOk z = true then _ else _)
            rw [if_pos (by simpa using hb), firstP_some hi hb2 hb3]
          · refine ⟨fun j hj => ?_, _, _, rfl⟩
            by_cases e : j = i
            · rw [e]; exact hb3
            · exact hb2 j (by omega)
        · rintro ρ ⟨hb2, s1, s2, rfl⟩
          refine st_ret (by walk_at "ev") ?_
          show Oc.rt _ = Oc.rt (if lenOk z = true then _ else _)
          rw [if_pos (by simpa using hb), firstP_none (fun j hj => hb2 j (by have e : z.length = z.cps.size := rfl; omega))]
    | _ => exact q_yes (by walk_at "et!") (st_ret (by walk_at "ev") (by rfl))
theorem pl_nf {x : D} (h : nfD x ≠ .none) : plD x = .list [.bool true, nfD x] := by
  cases x with
  | str z =>
    unfold plD nfD at *
    dsimp only at h ⊢
    by_cases e : lenOk z = true
    · rw [if_pos e] at h
      rw [if_pos e, if_pos e]
      cases q : firstP (badAt z) z.cps.size with
      | none => rw [q] at h; exact absurd rfl h
      | some i => rfl
    · rw [if_neg e, if_neg e]
  | _ => rfl
theorem pl_nn {x : D} (h : nfD x = .none) : plD x = .list [.bool false, .int (lenD x)] := by
  cases x with
  | str z =>
    unfold plD nfD at *
    dsimp only at h ⊢
    by_cases e : lenOk z = true
    · rw [if_pos e] at h
      rw [if_pos e]
      cases q : firstP (badAt z) z.cps.size with
      | none => rfl
      | some i => rw [q] at h; cases h
    · rw [if_neg e] at h
      cases h
  | _ => cases h
theorem ok_u_law_told (T : Txt K mg) (hd : FnP K "_law_told" s_u_law_told) (hm : mg "_law_told" = some (.ref (He.ga K "_law_told"))) (O1 : Okd P w K mg base (L2.CX P w) 3 "check_name" ["thing"] (sp_check_name K)) (X1 : ExOk P w K mg base 1 "BadName" ["at"]) : Okd P w K mg base CX0 4 "_law_told" ["thing"] (sp_u_law_told K) := by
  obtain ⟨fd, F⟩ := hd
  refine ⟨hm, fd, fn_pf F sc_u_law_told ?_ (fun cdv A outer s H E hr => ⟨_, dv_u_law_told T O1 X1 cdv A outer s H E hr, ?_⟩), F.bindsN (fun _ _ _ _ _ _ us hl => match us, hl with | [_], _ => rfl), F.kp⟩
  · rintro ds d ⟨x, rfl, _⟩
    rfl
  · rintro ds d ⟨x, rfl, hx, rfl⟩
    refine ST.mono (P := fun o => o = .rt (plD x)) ?_ fun o h => .inl h
    show ST K E0 (t_u_law_told K) [.fr x, .no, .no] _
    unfold t_u_law_told sp_check_name
    by_cases hn : nfD x = .none
    · refine st_seq (st_tryA (by walk_at "ea") (.inl ⟨_, ⟨_, rfl, hx, hn, rfl⟩, ?_⟩))
      refine st_ret (by walk_at "ev") ?_
      rw [pl_nn hn]
    · refine st_seq (st_tryA (by walk_at "ea") (.inr ⟨_, _, ⟨_, rfl, hx, hn, rfl, rfl⟩, T.e_BadName_PlanError, fun a dd => ?_⟩))
      unfold ts_u_law_told
      have isB : ∀ ρ : List Sl, ρ[2]? = some (Sl.ex a dd [(("at" : Str), nfD x)]) → EV K (tCB (rIsX K (.ref (He.ga K "BadName")) (some dd) a) (tCons (tVar 2) (tCons (tC (.ref (He.ga K "BadName"))) tNil))) ρ (.bool true) := fun ρ h => ev_isX h T.x_BadName.exc (fun _ z => z) T.k_BadName_BadName
      have isD : ∀ ρ : List Sl, ρ[2]? = some (Sl.ex a dd [(("at" : Str), nfD x)]) → EV K (tCB (rIsX K (.ref (He.ga K "BadName")) (some dd) a) (tCons (tVar 2) (tCons (tC (.ref (He.ga K "DataError"))) tNil))) ρ (.bool true) := fun ρ h => ev_isX h T.x_BadName.exc (fun _ z => z) T.k_BadName_DataError
      have isV : ∀ ρ : List Sl, ρ[2]? = some (Sl.ex a dd [(("at" : Str), nfD x)]) → EV K (tCB (rIsX K (.ref (He.ga K "BadName")) (some dd) a) (tCons (tVar 2) (tCons (tC (.ty "ValueError")) tNil))) ρ (.bool true) := fun ρ h => ev_isX h T.x_BadName.exc (fun _ z => z) T.k_BadName_ValueError
      have isC : ∀ ρ : List Sl, ρ[2]? = some (Sl.ex a dd [(("at" : Str), nfD x)]) → EV K (tCB (rIsX K (.ref (He.ga K "BadName")) (some dd) a) (tCons (tVar 2) (tCons (tC (.ref (He.ga K "CallError"))) tNil))) ρ (.bool false) := fun ρ h => ev_isX h T.x_BadName.exc (fun _ z => z) T.k_BadName_CallError
      have isT : ∀ ρ : List Sl, ρ[2]? = some (Sl.ex a dd [(("at" : Str), nfD x)]) → EV K (tCB (rIsX K (.ref (He.ga K "BadName")) (some dd) a) (tCons (tVar 2) (tCons (tC (.ref (He.ga K "TextError"))) tNil))) ρ (.bool false) := fun ρ h => ev_isX h T.x_BadName.exc (fun _ z => z) T.k_BadName_TextError
      refine q_no (et_is (et_or (et_not (et_trB (isB _ rfl))) fun _ => et_or (et_not (et_trB (isD _ rfl))) fun _ => et_not (et_trB (isV _ rfl))) (by rfl)) ?_
      refine q_no (et_is (et_or (et_trB (isC _ rfl)) fun _ => et_trB (isT _ rfl)) (by rfl)) ?_
      refine st_ret (ev_N (en_lst (ea_cons (by walk_at "ev") (ea_cons (ev_xf (d := nfD x) rfl rfl) ea_nil)) (by walk_at "sz"))) ?_
      show Oc.rt _ = Oc.rt _
      rw [pl_nf hn]

theorem pI_nn {ps : List Int} {i : Int} : ps.getD i.toNat 0 = pI ps i := rfl
theorem nm_len (ps : List Int) (b : Int) : ∀ n, (nmS ps b n).length = n + 1
  | 0 => rfl
  | n + 1 => by
    unfold nmS
    rw [len_app, nm_len ps b n]
    rfl
theorem lenL26 : ((sL.cps.toList.length : Nat) : Int) = 26 := by decide +kernel
theorem lenLF36 : ((sLF.cps.toList.length : Nat) : Int) = 36 := by decide +kernel
theorem at_ints {ps : List Int} {i : Int} (h0 : 0 ≤ i) (h1 : i < ps.length) : atI (ps.map PyData.int) i = some (.int (pI ps i)) := atI_ints h0 h1
theorem at_chs {z : Str} {i : Int} (h0 : 0 ≤ i) (h1 : i < z.cps.toList.length) : atI z.cps.toList i = some (z.cps.toList.getD i.toNat 0) := atI_nn (α := Nat) 0 h0 h1
theorem ok_u_law_name (T : Txt K mg) (hd : FnP K "_law_name" s_u_law_name) (hm : mg "_law_name" = some (.ref (He.ga K "_law_name"))) : Okd P w K mg base CX0 1 "_law_name" ["pool", "begin", "many"] (sp_u_law_name K) := by
  obtain ⟨fd, F⟩ := hd
  refine ⟨hm, fd, fn_pf F sc_u_law_name ?_ (fun cdv A outer s H E hr => ⟨_, dv_u_law_name T cdv A outer s H E hr, ?_⟩), F.bindsN (fun _ _ _ _ _ _ us hl => match us, hl with | [_, _, _], _ => rfl), F.kp⟩
  · rintro ds d ⟨ps, b, m, rfl, _⟩
    rfl
  · rintro ds d ⟨ps, b, m, rfl, hb, hm0, hm9, hl1, hl2, rfl⟩
    refine ST.mono (P := fun o => o = .rt (.str (nmS ps b (m - 1).toNat))) ?_ fun o h => .inl h
    show ST K E0 (t_u_law_name K) [.fr (.list (ps.map PyData.int)), .fr (.int b), .fr (.int m), .no, .no] _
    unfold t_u_law_name
    refine q_asg (d := .str (nmS ps b 0)) (ev_op (by walk_at "ev") (ev_op (ev_op (by walk_at "ev") (by walk_at "ev") (od_ixL (at_ints hb hl1))) (by walk_at "ev") (od_mod (by decide))) (od_ixS (by decide) (at_chs (Int.emod_nonneg _ (by decide)) (by rw [lenL26]; exact Int.emod_lt_of_pos _ (by decide))))) ?_
    refine q_for (ei_rng2 (by walk_at "ea") ⟨by omega, by omega, by omega, by omega⟩) (fun i ρ => ∃ s4 : Sl, ρ = [.fr (.list (ps.map PyData.int)), .fr (.int b), .fr (.int m), .fr (.str (nmS ps b i)), s4]) ⟨_, rfl⟩ ?_ ?_
    · rintro i ρ hi ⟨s4, rfl⟩
      refine ⟨_, _, gt_name, ?_⟩
      refine st_asg (d := .str (nmS ps b (i + 1))) (ev_op (by walk_at "ev") (ev_op (by walk_at "ev") (ev_op (ev_op (by walk_at "ev") (by walk_at "ev") (od_ixL (at_ints (i := b + (1 + (i : Nat))) (by omega) (by omega)))) (by walk_at "ev") (od_mod (by decide))) (od_ixS (by decide) (at_chs (Int.emod_nonneg _ (by decide)) (by rw [lenLF36]; exact Int.emod_lt_of_pos _ (by decide))))) (od_addS ?_)) ?_
      · rw [nm_len, len_one, sizeLine_eq]
        omega
      · exact ⟨_, rfl⟩
    · rintro ρ ⟨s4, rfl⟩
      exact st_ret (by walk_at "ev") rfl
theorem near_pos (p k : Int) : 1 ≤ (nearS p k).length ∧ (nearS p k).length ≤ 16 := by
  unfold nearS
  split <;> decide
theorem ok_u_law_exchanged (T : Txt K mg) (hd : FnP K "_law_exchanged" s_u_law_exchanged) (hm : mg "_law_exchanged" = some (.ref (He.ga K "_law_exchanged"))) : Okd P w K mg base CX0 1 "_law_exchanged" ["name", "place", "pick"] (sp_u_law_exchanged K) := by
  obtain ⟨fd, F⟩ := hd
  refine ⟨hm, fd, fn_pf F sc_u_law_exchanged ?_ (fun cdv A outer s H E hr => ⟨_, dv_u_law_exchanged T cdv A outer s H E hr, ?_⟩), F.bindsN (fun _ _ _ _ _ _ us hl => match us, hl with | [_, _, _], _ => rfl), F.kp⟩
  · rintro ds d ⟨z, p, k, rfl, _⟩
    rfl
  · rintro ds d ⟨z, p, k, rfl, hz, rfl⟩
    refine ST.mono (P := fun o => o = .rt (.str (exS z p k))) ?_ fun o h => .inl h
    show ST K E0 (t_u_law_exchanged K) [.fr (.str z), .fr (.int p), .fr (.int k), .no] _
    unfold t_u_law_exchanged
    refine q_asg (by walk_at "ev") ?_
    refine q_ifAsg (d := .str "0123456789") (d' := .str "`{/:\x40[AZ_ -~!.*E") rfl (by walk_at "et") (fun _ => by walk_at "ev") ?_
    have e : (if (decide (p = 0) && decide (k % 5 = 0)) = true then (PyData.str "0123456789") else .str "`{/:\x40[AZ_ -~!.*E") = .str (nearS p k) := by
      unfold nearS
      split <;> rfl
    rw [e]
    have hn := near_pos p k
    have hz1 : z.length ≤ sizeLine := by rw [sizeLine_eq]; omega
    have hn1 : (nearS p k).length ≤ sizeLine := by rw [sizeLine_eq]; omega
    have h0 : 0 ≤ k / 5 % ((nearS p k).length : Int) := Int.emod_nonneg _ (by omega)
    have h1 : k / 5 % ((nearS p k).length : Int) < ((nearS p k).cps.toList.length : Nat) := by
      rw [Array.length_toList]
      exact Int.emod_lt_of_pos _ (show (0 : Int) < (nearS p k).length by omega)
    have c1 := len_cut z none (some p)
    have c2 := len_cut z (some (p + 1)) none
    refine st_ret (d := .str (exS z p k)) (ev_op (ev_op (by walk_at "ev") (ev_op (by walk_at "ev") (ev_op (ev_op (by walk_at "ev") (by walk_at "ev") (od_div (by decide))) (by walk_at "ev") (od_mod (by omega))) (od_ixS hn1 (at_chs h0 h1))) (od_addS ?_)) (by walk_at "ev") (od_addS ?_)) rfl
    · rw [len_one, sizeLine_eq]
      omega
    · rw [len_app, len_one, sizeLine_eq]
      omega
theorem ex_len (z : Str) (p k : Int) : (exS z p k).length ≤ 2 * z.length + 1 := by
  have c1 := len_cut z none (some p)
  have c2 := len_cut z (some (p + 1)) none
  unfold exS
  rw [len_app, len_app]
  have : (chS (nearS p k) (k / 5 % (nearS p k).length)).length = 1 := rfl
  omega
theorem many_b (ps : List Int) (b : Int) : 1 ≤ manyI ps b ∧ manyI ps b ≤ 8 := by
  unfold manyI
  split
  · split <;> omega
  · omega
theorem names_len (ps : List Int) : ∀ n, (namesN ps n).length = 10 * n
  | 0 => rfl
  | n + 1 => by
    unfold namesN
    rw [List.length_append, names_len ps n]
    rfl
theorem ok_u_law_names (T : Txt K mg) (hd : FnP K "_law_names" s_u_law_names) (hm : mg "_law_names" = some (.ref (He.ga K "_law_names"))) (O1 : Okd P w K mg base CX0 1 "_law_name" ["pool", "begin", "many"] (sp_u_law_name K)) (O2 : Okd P w K mg base CX0 1 "_law_exchanged" ["name", "place", "pick"] (sp_u_law_exchanged K)) : Okd P w K mg base CX0 2 "_law_names" ["pool"] (sp_u_law_names K) := by
  obtain ⟨fd, F⟩ := hd
  refine ⟨hm, fd, fn_pf F sc_u_law_names ?_ (fun cdv A outer s H E hr => ⟨_, dv_u_law_names T O1 O2 cdv A outer s H E hr, ?_⟩), F.bindsN (fun _ _ _ _ _ _ us hl => match us, hl with | [_], _ => rfl), F.kp⟩
  · rintro ds d ⟨ps, rfl, _⟩
    rfl
  · rintro ds d ⟨ps, rfl, hl, rfl⟩
    refine ST.mono (P := fun o => o = .rt (.list ((namesN ps 2).map PyData.str))) ?_ fun o h => .inl h
    show ST K E0 (t_u_law_names K) [.fr (.list (ps.map PyData.int)), .no, .no, .no, .no, .no, .no, .no, .no] _
    unfold t_u_law_names
    refine q_asgN (by walk_at "evn") ?_
    refine q_for (ei_rng1 (by walk_at "ea") (by decide) (by decide)) (fun i ρ => ∃ s2 s3 s4 s5 s6 s7 s8 : Sl, ρ = [.fr (.list (ps.map PyData.int)), .ow (.list ((namesN ps i).map PyData.str)), s2, s3, s4, s5, s6, s7, s8]) ⟨_, _, _, _, _, _, _, rfl⟩ ?_ ?_
    · rintro i ρ hi ⟨s2, s3, s4, s5, s6, s7, s8, rfl⟩
      have hi2 : i < 2 := hi
      refine ⟨_, _, gt_name, ?_⟩
      refine q_asg (by walk_at "ev") ?_
      have hb : 0 ≤ (i : Int) * 24 ∧ (i : Int) * 24 ≤ 24 := by omega
      have hln := names_len ps i
      show ST K _ _ _ (loopP (fun ρ => ∃ s2 s3 s4 s5 s6 s7 s8 : Sl, ρ = [.fr (.list (ps.map PyData.int)), .ow (.list ((namesN ps i ++ namesT ps ((i : Nat) * 24)).map PyData.str)), s2, s3, s4, s5, s6, s7, s8]) _)
      generalize (i : Int) * 24 = b at hb
      have ix : ∀ (ρ : List Sl) (te : TE) (j : Int), ρ[0]? = some (.fr (.list (ps.map PyData.int))) → EV K te ρ (.int j) → 0 ≤ j → j < 70 → EV K (tOp (rIx K) (tVar 0) te) ρ (.int (pI ps j)) := fun ρ te j h0 h1 h2 h3 => ev_op (ev_var h0) h1 (od_ixL (at_ints h2 (by rw [hl]; exact h3)))
      refine q_asg (d := .int (1 + pI ps b % 8)) (ev_op (by walk_at "ev") (ev_op (ix _ _ _ rfl (by walk_at "ev") (by omega) (by omega)) (by walk_at "ev") (od_mod (by decide))) od_addI) ?_
      refine q_ifAsg (d := .int (if decide (pI ps b % 2 = 0) = true then 8 else 1)) (d' := .int (1 + pI ps b % 8)) rfl (et_test (ev_op (ev_op (ix _ _ _ rfl (by walk_at "ev") (by omega) (by omega)) (by walk_at "ev") (od_mod (by decide))) (by walk_at "ev") od_eqI)) (fun _ => ev_is (ev_ite (et_test (ev_op (ev_op (ix _ _ _ rfl (by walk_at "ev") (by omega) (by omega)) (by walk_at "ev") (od_mod (by decide))) (by walk_at "ev") od_eqI)) (fun _ => by walk_at "ev") (fun _ => by walk_at "ev")) (by split <;> rfl)) ?_
      have e : (if decide (pI ps (b + 1) % 4 = 0) = true then (PyData.int (if decide (pI ps b % 2 = 0) = true then 8 else 1)) else .int (1 + pI ps b % 8)) = .int (manyI ps b) := by
        unfold manyI
        split <;> rfl
      rw [e]
      obtain ⟨m1, m8⟩ := many_b ps b
      have hz := nm_len ps (b + 2) (manyI ps b - 1).toNat
      have hy := nm_len ps (b + 14) (9 - manyI ps b - 1).toNat
      have ht : namesT ps b = [nmS ps (b + 2) (manyI ps b - 1).toNat, exS (nmS ps (b + 2) (manyI ps b - 1).toNat) (pI ps (b + 10) % manyI ps b) (pI ps (b + 11)), exS (exS (nmS ps (b + 2) (manyI ps b - 1).toNat) (pI ps (b + 10) % manyI ps b) (pI ps (b + 11))) (pI ps (b + 12) % manyI ps b) (pI ps (b + 13)),
        nmS ps (b + 2) (manyI ps b - 1).toNat ++ nmS ps (b + 14) (9 - manyI ps b - 1).toNat, exS (nmS ps (b + 2) (manyI ps b - 1).toNat ++ nmS ps (b + 14) (9 - manyI ps b - 1).toNat) (pI ps (b + 23) % 9) (pI ps (b + 11)), (nmS ps (b + 2) (manyI ps b - 1).toNat ++ nmS ps (b + 14) (9 - manyI ps b - 1).toNat) ++ nmS ps (b + 2) (manyI ps b - 1).toNat,
        cutS (nmS ps (b + 2) (manyI ps b - 1).toNat ++ nmS ps (b + 14) (9 - manyI ps b - 1).toNat) none (some 8), cutS (nmS ps (b + 2) (manyI ps b - 1).toNat ++ nmS ps (b + 14) (9 - manyI ps b - 1).toNat) (some 1) none, nmS ps (b + 2) (manyI ps b - 1).toNat ++ " ", " " ++ nmS ps (b + 2) (manyI ps b - 1).toNat] := rfl
      rw [ht]
      generalize manyI ps b = m at *
      refine q_asg (ev_call (by walk_at "ea") ⟨_, _, _, rfl, by omega, by omega, by omega, by omega, by omega, rfl⟩) ?_
      generalize nmS ps (b + 2) (m - 1).toNat = z at *
      have exl1 := ex_len z (pI ps (b + 10) % m) (pI ps (b + 11))
      refine q_asg (d := .int (pI ps (b + 10) % m)) (ev_op (ix _ _ _ rfl (by walk_at "ev") (by omega) (by omega)) (by walk_at "ev") (od_mod (by omega))) ?_
      refine q_asg (ev_call (ea_cons (by walk_at "ev") (ea_cons (by walk_at "ev") (ea_cons (ix _ _ _ rfl (by walk_at "ev") (by omega) (by omega)) ea_nil))) ⟨_, _, _, rfl, by omega, rfl⟩) ?_
      generalize exS z (pI ps (b + 10) % m) (pI ps (b + 11)) = one at *
      refine q_augO rfl (ev_N (en_lst (ea_cons (by walk_at "ev") (ea_cons (by walk_at "ev") (ea_cons (ev_call (ea_cons (by walk_at "ev") (ea_cons (ev_op (ix _ _ _ rfl (by walk_at "ev") (by omega) (by omega)) (by walk_at "ev") (od_mod (by omega))) (ea_cons (ix _ _ _ rfl (by walk_at "ev") (by omega) (by omega)) ea_nil))) ⟨_, _, _, rfl, by omega, rfl⟩) ea_nil))) (by walk_at "sz"))) ?_ ?_
      · simp only [List.length_map, List.length_cons, List.length_nil]
        omega
      refine q_asg (ev_op (by walk_at "ev") (ev_call (by walk_at "ea") ⟨_, _, _, rfl, by omega, by omega, by omega, by omega, by omega, rfl⟩) (od_addS (by rw [sizeLine_eq]; omega))) ?_
      have hl2 := len_app z (nmS ps (b + 14) (9 - m - 1).toNat)
      generalize z ++ nmS ps (b + 14) (9 - m - 1).toNat = y at *
      refine q_augO rfl (ev_N (en_lst (ea_cons (by walk_at "ev") (ea_cons (ev_call (ea_cons (by walk_at "ev") (ea_cons (ev_op (ix _ _ _ rfl (by walk_at "ev") (by omega) (by omega)) (by walk_at "ev") (od_mod (by decide))) (ea_cons (ix _ _ _ rfl (by walk_at "ev") (by omega) (by omega)) ea_nil))) ⟨_, _, _, rfl, by omega, rfl⟩) (ea_cons (ev_op (by walk_at "ev") (by walk_at "ev") (od_addS (by rw [sizeLine_eq]; omega))) ea_nil))) (by walk_at "sz"))) ?_ ?_
      · simp only [List.length_map, List.length_cons, List.length_nil, List.length_append]
        omega
      have hs : ((" " : Str)).length = 1 := by decide
      have hys : y.length ≤ sizeLine := by rw [sizeLine_eq]; omega
      refine st_augO rfl (ev_N (en_lst (ea_cons (by walk_at "ev") (ea_cons (by walk_at "ev") (ea_cons (ev_op (by walk_at "ev") (by walk_at "ev") (od_addS (by rw [sizeLine_eq]; omega))) (ea_cons (ev_op (by walk_at "ev") (by walk_at "ev") (od_addS (by rw [sizeLine_eq]; omega))) ea_nil)))) (by walk_at "sz"))) ?_ ?_
      · simp only [List.length_map, List.length_cons, List.length_nil, List.length_append]
        omega
      simp only [List.append_assoc, List.map_append]
      exact ⟨_, _, _, _, _, _, _, rfl⟩
    · rintro ρ ⟨s2, s3, s4, s5, s6, s7, s8, rfl⟩
      exact q_frz (i := 1) rfl (st_ret (by walk_at "ev") rfl)

def okN (x : D) : Bool := isNoneD (nfD x)
theorem okN_t {x : D} (h : okN x = true) : nfD x = .none := by
  unfold okN at h
  cases e : nfD x with
  | none => rfl
  | _ => rw [e] at h; cases h
theorem okN_f {x : D} (h : okN x = false) : nfD x ≠ .none := by
  intro e
  rw [show okN x = isNoneD (nfD x) from rfl, e] at h
  cases h
theorem flat_nf (x : D) : flatD (nfD x) = true := by
  cases x with
  | str z =>
    unfold nfD
    dsimp only
    split
    · cases firstP (badAt z) z.cps.size <;> rfl
    · rfl
  | _ => rfl
theorem pl_form (x : D) : ∃ p, plD x = .list [.bool (!okN x), p] ∧ flatD p = true := by
  cases h : okN x with
  | true => exact ⟨_, pl_nn (okN_t h), rfl⟩
  | false => exact ⟨_, pl_nf (okN_f h), flat_nf x⟩
theorem cmp_pl (x : D) : cmpD (plD x) = true := by
  obtain ⟨p, e, h⟩ := pl_form x
  rw [e]
  show ((true && (flatD p && true)) && true) = true
  rw [h]
  rfl
theorem ev_same {te tu : TE} {ρ : List Sl} {x : D} (h1 : EV K te ρ x) (h2 : EV K tu ρ x) (hc : cmpD x = true) : ET K (tNot (tTr K (tCall (sp_u_law_same K) [] E0 (tCons te (tCons tu tNil))))) ρ false :=
  et_is (et_not (et_trB (ev_call (ea_cons h1 (ea_cons h2 ea_nil)) ⟨x, rfl, hc, rfl⟩))) rfl
theorem ev_place {te : TE} {ρ : List Sl} {x : D} (h : EV K te ρ x) (hx : okD x = true) : EV K (tCall (sp_u_law_place K) [] E0 (tCons te tNil)) ρ (plD x) := ev_call (ea_cons h ea_nil) ⟨x, rfl, hx, rfl⟩
theorem ev_told {te : TE} {ρ : List Sl} {x : D} (h : EV K te ρ x) (hx : okD x = true) : EV K (tCall (sp_u_law_told K) [] E0 (tCons te tNil)) ρ (plD x) := ev_call (ea_cons h ea_nil) ⟨x, rfl, hx, rfl⟩
theorem ev_side {te : TE} {ρ : List Sl} {x : D} (h : EV K te ρ x) (hx : okD x = true) : EV K (tCall (sp_is_side K) [] E0 (tCons te tNil)) ρ (.bool (isSideD x)) := ev_call (ea_cons h ea_nil) ⟨x, rfl, hx, rfl⟩
theorem ok_nd {x : D} (h : okD x = true) : isDicD x = false := by
  cases x with
  | dict _ => cases h
  | _ => rfl
theorem ev_due {ρ : List Sl} {n : Nat} {x : D} (hi : ρ[n]? = some (.fr x)) (hx : okD x = true) : EV K (tAndV (tCB (rIsi K) (tCons (tVar n) (tCons (tC (.ty "str")) tNil))) (tOp (rInU K) (tVar n) (tTup (tCons (tC (.str "E")) (tCons (tC (.str "N")) (tCons (tC (.str "W")) (tCons (tC (.str "S")) tNil))))))) ρ (.bool (isSideD x)) := by
  cases x with
  | str z =>
    refine ev_is (d := .bool (true && inD (.str z) [.str "E", .str "N", .str "W", .str "S"])) ?_ rfl
    refine ev_andV (ev_isi (ev_var hi) rfl rfl) fun _ => ?_
    exact ev_op (ev_var hi) (by walk_at "ev") (od_inT rfl rfl)
  | dict _ => cases hx
  | _ => exact ev_and0 (ev_isi (ev_var hi) rfl rfl)
/-- the order of the directions, a list -/
def ordD : D := .list [.str "E", .str "N", .str "W", .str "S"]
theorem at_ord {k : Int} (h0 : 0 ≤ k) (h1 : k < 4) : atI [PyData.str "E", .str "N", .str "W", .str "S"] k = some (.str (dirS k)) := by
  have : k = 0 ∨ k = 1 ∨ k = 2 ∨ k = 3 := by omega
  rcases this with rfl | rfl | rfl | rfl <;> rfl
theorem at_mir {k : Int} (h0 : 0 ≤ k) (h1 : k < 4) : atI [PyData.str "W", .str "N", .str "E", .str "S"] k = some (.str (dirS ((2 - k) % 4))) := by
  have : k = 0 ∨ k = 1 ∨ k = 2 ∨ k = 3 := by omega
  rcases this with rfl | rfl | rfl | rfl <;> rfl
theorem ev_ord {ρ : List Sl} {te : TE} {j : Int} (hi : ρ[6]? = some (.fr ordD)) (h : EV K te ρ (.int j)) (h0 : 0 ≤ j) (h1 : j < 4) : EV K (tOp (rIx K) (tVar 6) te) ρ (.str (dirS j)) := ev_op (ev_var hi) h (od_ixL (at_ord h0 h1))
theorem side_dir {k : Int} (h0 : 0 ≤ k) (h1 : k < 4) : isSideD (.str (dirS k)) = true := by
  have : k = 0 ∨ k = 1 ∨ k = 2 ∨ k = 3 := by omega
  rcases this with rfl | rfl | rfl | rfl <;> decide +kernel
theorem lcS_all {b : Nat → Bool} {f : Nat → D} {g : Nat → Str} (hb : ∀ i, b i = true) : ∀ {n : Nat}, (∀ i, i < n → f i = .str (g i)) → lcD n b f = ((List.range n).map g).map PyData.str
  | 0, _ => rfl
  | n + 1, h => by
    unfold lcD
    rw [if_pos (hb n), lcS_all hb (fun i hi => h i (by omega)), List.range_succ, List.map_append, List.map_append, h n (by omega)]
    rfl
theorem getD_all {α : Type} {p : α → Bool} {ds : List α} {z : α} (h : ds.all p = true) {i : Nat} (hi : i < ds.length) : p (ds.getD i z) = true := by
  rw [List.getD_eq_getElem?_getD, List.getElem?_eq_getElem hi]
  exact List.all_eq_true.mp h _ (List.getElem_mem hi)
theorem count_step {ds : List D} {i : Nat} (hi : i < ds.length) : ((ds.take (i + 1)).countP okN : Int) = (ds.take i).countP okN + if okN (ds.getD i .none) = true then 1 else 0 := by
  rw [List.take_succ, List.getElem?_eq_getElem hi, List.countP_append, List.getD_eq_getElem?_getD, List.getElem?_eq_getElem hi]
  show (((ds.take i).countP okN + [ds[i]].countP okN : Nat) : Int) = _
  rw [List.countP_singleton]
  show _ = _ + if okN ds[i] = true then (1 : Int) else 0
  split <;> simp
theorem names_small (ps : List Int) : (namesN ps 2).all (fun z => decide (z.length ≤ 1000)) = true := by
  have one : ∀ b, (namesT ps b).all (fun z => decide (z.length ≤ 1000)) = true := fun b => by
    obtain ⟨m1, m8⟩ := many_b ps b
    have hz := nm_len ps (b + 2) (manyI ps b - 1).toNat
    have hy := nm_len ps (b + 14) (9 - manyI ps b - 1).toNat
    unfold namesT
    dsimp only
    generalize manyI ps b = m at *
    generalize nmS ps (b + 2) (m - 1).toNat = z at *
    generalize nmS ps (b + 14) (9 - m - 1).toNat = y at *
    have e1 := ex_len z (pI ps (b + 10) % m) (pI ps (b + 11))
    generalize exS z (pI ps (b + 10) % m) (pI ps (b + 11)) = o at *
    have e2 := ex_len o (pI ps (b + 12) % m) (pI ps (b + 13))
    have e3 := len_app z y
    generalize z ++ y = l at *
    have e4 := ex_len l (pI ps (b + 23) % 9) (pI ps (b + 11))
    have e5 := len_app l z
    have e6 := len_cut l none (some 8)
    have e7 := len_cut l (some 1) none
    have e8 := len_app z " "
    have e9 := len_app " " z
    have hs : ((" " : Str)).length = 1 := by decide
    simp only [List.all_cons, List.all_nil, Bool.and_true, Bool.and_eq_true, decide_eq_true_eq]
    omega
  show (([] ++ namesT ps _) ++ namesT ps _).all _ = true
  rw [List.all_append, List.all_append, one, one]
  rfl
theorem names_ok (ps : List Int) : ((namesN ps 2).map PyData.str).all okD = true := by
  rw [List.all_map]
  exact names_small ps
def th1 : List D := [.str "", .str "E", .str "a", .str "z9", .str "9z", .str "aB", .str "EN", .str "zzzzzzzz", .str "rooms", .str "a`", .str "z{", .str "a/", .str "a:"]
def th2 (k : Int) : List D := [.str (repS "a" k), .str (repS "b" 8)]
def th3 (k : Int) : List D := [.none, .bool true, .bool false, .int 0, .int 1, .int (-1), .int (10 ^ (40 : Int).toNat + k), .tuple [], .tuple [.str "a"], .list [.str "a"], .list [.str "rooms"], .tuple [.str "E", .str "N"], .list [.bool true]]
theorem th1_ok : th1.all okD = true := by decide +kernel
theorem th1_c : 3 ≤ th1.countP okN := by decide +kernel
theorem th2_ok {k : Int} (h : k ≤ 100) : (th2 k).all okD = true := by
  have e := len_rep "a" k
  have e1 : (("a" : Str)).length = 1 := by decide
  rw [e1, Nat.mul_one] at e
  have e2 : okD (.str (repS "b" 8)) = true := by decide +kernel
  show (decide ((repS "a" k).length ≤ 1000) && (okD (.str (repS "b" 8)) && true)) = true
  rw [e2, decide_eq_true (by omega)]
  rfl
theorem th3_ok {k : Int} : (th3 k).all okD = true := rfl
def gv (gs : List (List D)) : List D := gs.map PyData.list
theorem gv_getD {gs : List (List D)} {i : Nat} (hi : i < (gv gs).length) : (gv gs).getD i .none = .list (gs.getD i []) := by
  have hi' : i < gs.length := by
    have : (gv gs).length = gs.length := List.length_map ..
    omega
  rw [List.getD_eq_getElem?_getD, List.getD_eq_getElem?_getD, gv, List.getElem?_map]
  simp [hi']
theorem all_cut {ds : List D} {p : D → Bool} (h : ds.all p = true) (lo hi : Option Int) : (cutDs ds lo hi).all p = true := by
  rw [List.all_eq_true] at h ⊢
  intro x hx
  unfold cutDs at hx
  exact h x (List.mem_of_mem_drop (List.mem_of_mem_take hx))
theorem all_strs (zs : List Str) : (zs.map PyData.str).all flatD = true := by
  rw [List.all_map]
  exact List.all_eq_true.mpr fun _ _ => rfl

theorem st_no {Ex : XK} {ρ : List Sl} {tt : TT} {t : TS} {P : Oc → Prop} (h : ET K tt ρ false) (q : P (.nx ρ)) : ST K Ex (tIfS tt t tNext) ρ P := st_if h (fun z => nomatch z) (fun _ => st_next q)
theorem dir_ok {k : Int} (h0 : 0 ≤ k) (h1 : k < 4) : okD (.str (dirS k)) = true := by
  have : k = 0 ∨ k = 1 ∨ k = 2 ∨ k = 3 := by omega
  rcases this with rfl | rfl | rfl | rfl <;> decide +kernel
def th4 : List D := [.str "e", .str "n", .str "w", .str "s", .str "NW", .str "ENWS", .str "E ", .str " S", .str "NN", .tuple [.str "N"], .list [.str "W"], .tuple [.str "E", .str "N", .str "W", .str "S"]]
theorem th4_ok : th4.all (fun x => okD x && !isSideD x) = true := by decide +kernel
theorem cutD_len (ds : List D) (lo hi : Option Int) : (cutDs ds lo hi).length ≤ ds.length := by
  unfold cutDs
  rw [List.length_take, List.length_drop]
  omega
theorem rep_len {n : Nat} {x : D} : (List.replicate n [x]).flatten.length = n * 1 := by
  induction n with
  | zero => rfl
  | succ n ih =>
    rw [List.replicate_succ, List.flatten_cons, List.length_append, ih]
    show 1 + n * 1 = _
    omega
theorem ok_law (T : Txt K mg) {fd : FuncData} (F : FunD K "law" "law" (defArgs s_law) (defBody s_law) (defScope s_law) [] [] (He.ga K "law") fd) (O_u_law_pool : Okd P w K mg base CX0 1 "_law_pool" ["script", "many"] (sp_u_law_pool K)) (O_u_law_names : Okd P w K mg base CX0 2 "_law_names" ["pool"] (sp_u_law_names K)) (O_u_law_same : Okd P w K mg base CX0 2 "_law_same" ["told", "due"] (sp_u_law_same K))
    (O_is_side : Okd P w K mg base CX0 1 "is_side" ["thing"] (sp_is_side K)) (O_u_law_told : Okd P w K mg base CX0 4 "_law_told" ["thing"] (sp_u_law_told K)) (O_u_law_place : Okd P w K mg base CX0 1 "_law_place" ["thing"] (sp_u_law_place K)) (O_opposite_of : Okd P w K mg base CX0 2 "opposite_of" ["direction"] (sp_opposite_of K))
    (O_mirrored_direction : Okd P w K mg base CX0 2 "mirrored_direction" ["direction"] (sp_mirrored_direction K)) (O_beside_side : Okd P w K mg base CX0 2 "beside_side" ["side"] (sp_beside_side K)) (O_ordered_directions : Okd P w K mg base CX0 1 "ordered_directions" ["directions"] (sp_ordered_directions K)) (O_turned_direction : Okd P w K mg base CX0 2 "turned_direction" ["direction", "n"] (sp_turned_direction K))
    (O_quarters_between : Okd P w K mg base CX0 2 "quarters_between" ["one", "other"] (sp_quarters_between K)) : FnOk P w K mg base CX0 5 (He.ga K "law") fd ["script"] (sp_law K) := by
  refine fn_pf F sc_law ?_ (fun cdv A outer s H E hr => ⟨_, dv_law T O_u_law_pool O_u_law_names O_u_law_same O_is_side O_u_law_told O_u_law_place O_opposite_of O_mirrored_direction O_beside_side O_ordered_directions O_turned_direction O_quarters_between cdv A outer s H E hr, ?_⟩)
  · rintro ds d ⟨ns, rfl, _⟩
    rfl
  · rintro ds d ⟨ns, rfl, hns, rfl⟩
    refine ST.mono (P := fun o => o = .rt (.bool true)) ?_ fun o h => .inl h
    show ST K E0 (t_law K) [.fr (.dict [(.none, .list (ns.map .int))]), .no, .no, .no, .no, .no, .no, .no, .no, .no, .no, .no, .no, .no, .no] _
    unfold t_law
    refine q_asgQ (by walk_at "ea") ⟨ns, 70, rfl, hns, by decide, by decide⟩ ?_
    rintro _ ⟨m, c, ps, e, rfl, hl⟩
    have hl : ps.length = 70 := by
      injection e with _ e
      injection e with e _
      injection e with e
      omega
    generalize PyData.dict [(.none, .list (ns.map .int))] = cd
    have ix : ∀ (ρ : List Sl) (te : TE) (j : Int), ρ[1]? = some (.fr (.list (ps.map PyData.int))) → EV K te ρ (.int j) → 0 ≤ j → j < 70 → EV K (tOp (rIx K) (tVar 1) te) ρ (.int (pI ps j)) := fun ρ te j h0 h1 h2 h3 => ev_op (ev_var h0) h1 (od_ixL (at_ints h2 (by rw [hl]; exact h3)))
    refine q_asgN (by walk_at "evn") ?_
    refine q_frz (i := 2) rfl ?_
    have hn20 := names_len ps 2
    refine q_asgN (en_op (ev_call (by walk_at "ea") ⟨ps, rfl, hl, rfl⟩) (by walk_at "ev") (on_addL ?_)) ?_
    · rw [List.length_map, hn20, sizeLine_eq]
      show 10 * 2 + 13 ≤ 16777216
      decide
    have ha1 : 0 ≤ pI ps 48 % 40 := Int.emod_nonneg _ (by decide)
    have ha2 : pI ps 48 % 40 < 40 := Int.emod_lt_of_pos _ (by decide)
    refine q_augO rfl (ev_N (en_lst (ea_cons (ev_op (by walk_at "ev") (ev_op (by walk_at "ev") (ev_op (ix _ _ _ rfl (by walk_at "ev") (by decide) (by decide)) (by walk_at "ev") (od_mod (by decide))) od_addI) (od_mulS (by omega) (by omega) ?_)) (ea_cons (ev_op (by walk_at "ev") (by walk_at "ev") (od_mulS (by decide) (by decide) (by decide))) ea_nil)) (by walk_at "sz"))) ?_ ?_
    · have e1 : (("a" : Str)).length = 1 := by decide
      rw [e1, Nat.one_mul, sizeLine_eq]
      omega
    · rw [List.length_append, List.length_map, hn20]
      show 10 * 2 + 13 + 2 ≤ 16000000
      decide
    refine q_augO rfl (ev_N (en_lst (ea_cons (by walk_at "ev") (ea_cons (by walk_at "ev") (ea_cons (by walk_at "ev") (ea_cons (by walk_at "ev") (ea_cons (by walk_at "ev") (ea_cons (by walk_at "ev") (ea_cons (ev_op (ev_op (by walk_at "ev") (by walk_at "ev") (od_pow (by decide))) (ix _ _ _ rfl (by walk_at "ev") (by decide) (by decide)) od_addI) (by walk_at "ea")))))))) (by walk_at "sz"))) ?_ ?_
    · rw [List.length_append, List.length_append, List.length_map, hn20]
      show 10 * 2 + 13 + 2 + 13 ≤ 16000000
      decide
    refine q_asg (by walk_at "ev") ?_
    refine q_frz (i := 3) rfl ?_
    obtain ⟨ts, ets, hok, hc, hlen⟩ : ∃ ts, (namesN ps 2).map PyData.str ++ th1 ++ th2 (9 + pI ps 48 % 40) ++ th3 (pI ps 49) = ts ∧ ts.all okD = true ∧ 3 ≤ ts.countP okN ∧ ts.length ≤ 1000 := by
      refine ⟨_, rfl, ?_, ?_, ?_⟩
      · rw [List.all_append, List.all_append, List.all_append, names_ok, th1_ok, th2_ok (by omega), th3_ok]
        rfl
      · rw [List.countP_append, List.countP_append, List.countP_append]
        have := th1_c
        omega
      · rw [List.length_append, List.length_append, List.length_append, List.length_map, hn20]
        show 10 * 2 + 13 + 2 + 13 ≤ 1000
        decide
    show ST K E0 _ [.fr cd, .fr (.list (ps.map PyData.int)), .fr (.list [.str "rooms"]), .fr (.list ((namesN ps 2).map PyData.str ++ th1 ++ th2 (9 + pI ps 48 % 40) ++ th3 (pI ps 49))), .fr (.int 0), .no, .no, .no, .no, .no, .no, .no, .no, .no, .no] _
    rw [ets]
    refine q_for (ei_list (by walk_at "ev")) (fun i ρ => ∃ s5 : Sl, ρ = [.fr cd, .fr (.list (ps.map PyData.int)), .fr (.list [.str "rooms"]), .fr (.list ts), .fr (.int ((ts.take i).countP okN)), s5, .no, .no, .no, .no, .no, .no, .no, .no, .no]) ⟨_, rfl⟩ ?_ ?_
    · rintro i ρ hi ⟨s5, rfl⟩
      have hx := getD_all (z := PyData.none) hok hi
      have hcs := count_step hi
      generalize ts.getD i .none = x at hx hcs ⊢
      refine ⟨_, _, gt_name, ?_⟩
      refine q_no (ev_same (ev_told (by walk_at "ev") hx) (ev_place (by walk_at "ev") hx) (cmp_pl x)) ?_
      obtain ⟨p, ep, hp⟩ := pl_form x
      refine q_cut (fun ρ => ρ = [.fr cd, .fr (.list (ps.map PyData.int)), .fr (.list [.str "rooms"]), .fr (.list ts), .fr (.int ((ts.take (i + 1)).countP okN)), .fr x, .no, .no, .no, .no, .no, .no, .no, .no, .no]) ?_ ?_
      · refine st_if (b := okN x) (et_is (et_not (et_trB (b := !okN x) (ev_op (ev_is (ev_place (by walk_at "ev") hx) ep) (by walk_at "ev") (od_ixL rfl)))) (Bool.not_not _)) (fun hb => st_augI rfl (by walk_at "ev") ?_) (fun hb => st_next ?_)
        · rw [hcs, if_pos hb]
          rfl
        · rw [hcs, if_neg (by rw [hb]; exact Bool.false_ne_true), Int.add_zero]
          rfl
      · rintro ρ rfl
        exact st_no (ev_same (ev_side (by walk_at "ev") hx) (ev_due rfl hx) rfl) ⟨_, rfl⟩
    rintro ρ ⟨s5, rfl⟩
    have hy : ¬ (((ts.take ts.length).countP okN : Int) < 3) := by
      rw [List.take_length]
      omega
    have heq : PyData.eqv (.list [.str "rooms"]) (.list [.str "rooms"]) = true := by decide +kernel
    refine q_no (et_is (et_or (et_test (ev_op (by walk_at "ev") (by walk_at "ev") (od_neD (by decide +kernel) (by decide +kernel)))) fun _ => et_test (ev_op (by walk_at "ev") (by walk_at "ev") od_cmpI)) (by rw [heq, decide_eq_false hy]; rfl)) ?_
    generalize PyData.int ((ts.take ts.length).countP okN) = y
    refine q_for (ei_list (ds := th4) (ev_is (by walk_at "ev") (by rfl))) (fun i ρ => ∃ s5 : Sl, ρ = [.fr cd, .fr (.list (ps.map PyData.int)), .fr (.list [.str "rooms"]), .fr (.list ts), .fr y, s5, .no, .no, .no, .no, .no, .no, .no, .no, .no]) ⟨_, rfl⟩ ?_ ?_
    · rintro i ρ hi ⟨s5, rfl⟩
      have hx := getD_all (z := PyData.none) th4_ok hi
      rw [Bool.and_eq_true] at hx
      generalize th4.getD i .none = x at hx ⊢
      refine ⟨_, _, gt_name, ?_⟩
      refine st_no (et_is (et_test (ev_op (ev_side (by walk_at "ev") hx.1) (by walk_at "ev") od_notB)) ?_) ⟨_, rfl⟩
      have := hx.2
      cases h : isSideD x with
      | true => rw [h] at this; cases this
      | false => rfl
    rintro ρ ⟨s5, rfl⟩
    refine q_asgN (by walk_at "evn") ?_
    refine q_frz (i := 6) rfl ?_
    show ST K E0 _ [.fr cd, .fr (.list (ps.map PyData.int)), .fr (.list [.str "rooms"]), .fr (.list ts), .fr y, s5, .fr ordD, .no, .no, .no, .no, .no, .no, .no, .no] _
    generalize PyData.list [.str "rooms"] = s2
    generalize PyData.list ts = s3
    refine q_for (ei_rng1 (by walk_at "ea") (by decide) (by decide)) (fun i ρ => ∃ s7 s8 s9 : Sl, ρ = [.fr cd, .fr (.list (ps.map PyData.int)), .fr s2, .fr s3, .fr y, s5, .fr ordD, s7, s8, s9, .no, .no, .no, .no, .no]) ⟨_, _, _, rfl⟩ ?_ ?_
    · rintro i ρ hi ⟨s7, s8, s9, rfl⟩
      have hk : 0 ≤ (i : Int) ∧ (i : Int) < 4 := by
        have : i < 4 := hi
        omega
      refine ⟨_, _, gt_name, ?_⟩
      generalize (i : Int) = k at hk
      refine q_no (et_is (et_test (ev_op (ev_side (ev_ord rfl (by walk_at "ev") hk.1 hk.2) (dir_ok hk.1 hk.2)) (by walk_at "ev") od_notB)) (by rw [side_dir hk.1 hk.2]; rfl)) ?_
      refine q_for (ei_list (ds := ([0, 1, -1, 2, -2, 3, -3, 4, 5, -5, 1000, -1000, pI ps 50 % 2001 - 1000, pI ps 51 % 2001 - 1000] : List Int).map PyData.int) (ev_is (ev_N (en_lst (ea_cons (by walk_at "ev") (ea_cons (by walk_at "ev") (ea_cons (by walk_at "ev") (ea_cons (by walk_at "ev") (ea_cons (by walk_at "ev") (ea_cons (by walk_at "ev") (ea_cons (by walk_at "ev") (ea_cons (by walk_at "ev") (ea_cons (by walk_at "ev") (ea_cons (by walk_at "ev") (ea_cons (by walk_at "ev") (ea_cons (by walk_at "ev")
        (ea_cons (ev_op (ev_op (ix _ _ _ rfl (by walk_at "ev") (by decide) (by decide)) (by walk_at "ev") (od_mod (by decide))) (by walk_at "ev") od_sub) (ea_cons (ev_op (ev_op (ix _ _ _ rfl (by walk_at "ev") (by decide) (by decide)) (by walk_at "ev") (od_mod (by decide))) (by walk_at "ev") od_sub) ea_nil)))))))))))))) (by walk_at "sz"))) (by rfl)))
        (fun i ρ => ∃ s8 : Sl, ρ = [.fr cd, .fr (.list (ps.map PyData.int)), .fr s2, .fr s3, .fr y, s5, .fr ordD, .fr (.int k), s8, s9, .no, .no, .no, .no, .no]) ⟨_, rfl⟩ ?_ ?_
      · rintro j ρ hj ⟨s8, rfl⟩
        obtain ⟨n, en⟩ : ∃ n : Int, (([0, 1, -1, 2, -2, 3, -3, 4, 5, -5, 1000, -1000, pI ps 50 % 2001 - 1000, pI ps 51 % 2001 - 1000] : List Int).map PyData.int).getD j .none = .int n := ⟨_, getD_map_int (by rw [List.length_map] at hj; exact hj)⟩
        rw [en]
        refine ⟨_, _, gt_name, ?_⟩
        exact st_no (ev_same (ev_call (ea_cons (ev_ord rfl (by walk_at "ev") hk.1 hk.2) (ea_cons (by walk_at "ev") ea_nil)) ⟨k, n, rfl, hk, rfl⟩) (ev_ord rfl (ev_op (by walk_at "ev") (by walk_at "ev") (od_mod (by decide))) (Int.emod_nonneg _ (by decide)) (Int.emod_lt_of_pos _ (by decide))) rfl) ⟨_, rfl⟩
      rintro ρ ⟨s8, rfl⟩
      refine q_for (ei_rng1 (by walk_at "ea") (by decide) (by decide)) (fun i ρ => ∃ s9 : Sl, ρ = [.fr cd, .fr (.list (ps.map PyData.int)), .fr s2, .fr s3, .fr y, s5, .fr ordD, .fr (.int k), s8, s9, .no, .no, .no, .no, .no]) ⟨_, rfl⟩ ?_ ?_
      · rintro j ρ hj ⟨s9, rfl⟩
        have hj : 0 ≤ (j : Int) ∧ (j : Int) < 4 := by
          have : j < 4 := hj
          omega
        refine ⟨_, _, gt_name, ?_⟩
        generalize (j : Int) = n at hj
        exact st_no (ev_same (ev_call (ea_cons (ev_ord rfl (by walk_at "ev") hk.1 hk.2) (ea_cons (ev_ord rfl (by walk_at "ev") hj.1 hj.2) ea_nil)) ⟨k, n, rfl, hk, hj, rfl⟩) (by walk_at "ev") rfl) ⟨_, rfl⟩
      rintro ρ ⟨s9, rfl⟩
      refine q_no (ev_same (ev_call (ea_cons (ev_ord rfl (by walk_at "ev") hk.1 hk.2) ea_nil) ⟨k, rfl, hk, rfl⟩) (ev_ord rfl (ev_op (by walk_at "ev") (by walk_at "ev") (od_mod (by decide))) (Int.emod_nonneg _ (by decide)) (Int.emod_lt_of_pos _ (by decide))) rfl) ?_
      refine q_no (ev_same (ev_call (ea_cons (ev_ord rfl (by walk_at "ev") hk.1 hk.2) ea_nil) ⟨k, rfl, hk, rfl⟩) (ev_op (by walk_at "ev") (by walk_at "ev") (od_ixL (at_mir hk.1 hk.2))) rfl) ?_
      refine st_no (ev_same (ev_call (ea_cons (ev_ord rfl (by walk_at "ev") hk.1 hk.2) ea_nil) ⟨k, rfl, hk, rfl⟩) (ev_is (ev_tup (ea_cons (ev_ord rfl (ev_op (by walk_at "ev") (by walk_at "ev") (od_mod (by decide))) (Int.emod_nonneg _ (by decide)) (Int.emod_lt_of_pos _ (by decide))) (ea_cons (ev_ord rfl (ev_op (by walk_at "ev") (by walk_at "ev") (od_mod (by decide))) (Int.emod_nonneg _ (by decide)) (Int.emod_lt_of_pos _ (by decide))) ea_nil)) (by walk_at "sz")) (by rw [show (k + 3) % 4 = (k - 1) % 4 from by omega])) rfl) ⟨_, _, _, rfl⟩
    rintro ρ ⟨s7, s8, s9, rfl⟩
    have hq1 : 0 ≤ pI ps 52 % 13 := Int.emod_nonneg _ (by decide)
    have hq2 : pI ps 52 % 13 < 13 := Int.emod_lt_of_pos _ (by decide)
    refine q_asgN (en_lc (b := fun _ => true) (f := fun i => .str (dirS (pI ps (53 + (i : Nat)) % 4))) (ei_rng1 (ea_cons (ev_op (ix _ _ _ rfl (by walk_at "ev") (by decide) (by decide)) (by walk_at "ev") (od_mod (by decide))) ea_nil) (by omega) (by omega)) (by omega) fun i hi => ⟨_, _, gt_name, by simp, et_yes, fun _ => ev_ord rfl (ev_op (ix _ _ _ rfl (by walk_at "ev") (by omega) (by omega)) (by walk_at "ev") (od_mod (by decide))) (Int.emod_nonneg _ (by decide)) (Int.emod_lt_of_pos _ (by decide))⟩) ?_
    rw [lcS_all (fun _ => rfl) (fun i _ => rfl)]
    refine q_frz (i := 10) rfl ?_
    have hpl : ((List.range (pI ps 52 % 13).toNat).map fun i : Nat => dirS (pI ps (53 + (i : Nat)) % 4)).length ≤ 13 := by
      rw [List.length_map, List.length_range]
      omega
    generalize ((List.range (pI ps 52 % 13).toNat).map fun i : Nat => dirS (pI ps (53 + (i : Nat)) % 4)) = pk at hpl ⊢
    have hr1 : 0 ≤ pI ps 67 % 30 := Int.emod_nonneg _ (by decide)
    have hr2 : pI ps 67 % 30 < 30 := Int.emod_lt_of_pos _ (by decide)
    refine q_asgN (en_op (ev_N (en_op (ev_N (en_lst (ea_cons (ev_ord rfl (ev_op (ix _ _ _ rfl (by walk_at "ev") (by decide) (by decide)) (by walk_at "ev") (od_mod (by decide))) (Int.emod_nonneg _ (by decide)) (Int.emod_lt_of_pos _ (by decide))) ea_nil) (by walk_at "sz"))) (ev_op (by walk_at "ev") (ev_op (ix _ _ _ rfl (by walk_at "ev") (by decide) (by decide)) (by walk_at "ev") (od_mod (by decide))) od_addI) (on_mulL (by omega) (by omega) ?_))) (ev_N (en_lst (ea_cons (ev_ord rfl (ev_op (ix _ _ _ rfl (by walk_at "ev") (by decide) (by decide)) (by walk_at "ev") (od_mod (by decide))) (Int.emod_nonneg _ (by decide)) (Int.emod_lt_of_pos _ (by decide))) ea_nil) (by walk_at "sz"))) (on_addL ?_)) ?_
    · show 1 * _ ≤ _
      rw [sizeLine_eq]
      omega
    · rw [rep_len, sizeLine_eq]
      show (1 + pI ps 67 % 30).toNat * 1 + 1 ≤ 16777216
      omega
    refine q_frz (i := 11) rfl ?_
    obtain ⟨lg, elg, hlg⟩ : ∃ lg : List D, (List.replicate (1 + pI ps 67 % 30).toNat [PyData.str (dirS (pI ps 66 % 4))]).flatten ++ [PyData.str (dirS (pI ps 68 % 4))] = lg ∧ lg.all flatD = true := by
      refine ⟨_, rfl, ?_⟩
      rw [List.all_append, List.all_flatten]
      have : ((List.replicate (1 + pI ps 67 % 30).toNat [PyData.str (dirS (pI ps 66 % 4))]).all fun l => l.all flatD) = true := List.all_eq_true.mpr fun x hx => by
        rw [List.eq_of_mem_replicate hx]
        rfl
      rw [this]
      rfl
    show ST K E0 _ [.fr cd, .fr (.list (ps.map PyData.int)), .fr s2, .fr s3, .fr y, s5, .fr ordD, s7, s8, s9, .fr (.list (pk.map PyData.str)), .fr (.list ((List.replicate (1 + pI ps 67 % 30).toNat [PyData.str (dirS (pI ps 66 % 4))]).flatten ++ [PyData.str (dirS (pI ps 68 % 4))])), .no, .no, .no] _
    rw [elg]
    have hpk := all_strs pk
    have hpk2 : (pk.map PyData.str).length ≤ 13 := by rw [List.length_map]; exact hpl
    generalize pk.map PyData.str = pd at hpk hpk2 ⊢
    have c1 := cutD_len pd (some 1) none
    have c2 := cutD_len pd none (some 1)
    refine q_for (ei_list (ds := gv [pd, [], [.str "E", .str "N", .str "W", .str "S"], lg, cutDs lg (some 1) none, [.str "S", .str "W", .str "N"], cutDs pd (some 1) none ++ cutDs pd none (some 1), [.str "N", .str "E", .str "N"]]) (ev_is (by walk_at "ev") (by rfl))) (fun i ρ => ∃ s12 s13 : Sl, ρ = [.fr cd, .fr (.list (ps.map PyData.int)), .fr s2, .fr s3, .fr y, s5, .fr ordD, s7, s8, s9, .fr (.list pd), .fr (.list lg), s12, s13, .no]) ⟨_, _, rfl⟩ ?_ ?_
    · rintro i ρ hi ⟨s12, s13, rfl⟩
      rw [gv_getD hi]
      have hg : (([pd, [], [.str "E", .str "N", .str "W", .str "S"], lg, cutDs lg (some 1) none, [.str "S", .str "W", .str "N"], cutDs pd (some 1) none ++ cutDs pd none (some 1), [.str "N", .str "E", .str "N"]] : List (List D)).getD i []).all flatD = true := by
        refine getD_all (p := fun g : List D => g.all flatD) ?_ (by rw [gv, List.length_map] at hi; exact hi)
        simp only [List.all_cons, List.all_nil, List.all_append, hpk, hlg, all_cut hpk, all_cut hlg]
        rfl
      generalize List.getD _ i [] = g at hg ⊢
      refine ⟨_, _, gt_name, ?_⟩
      refine q_asg (d := .str (Txt.join Str.empty (ordS fun x => inD x g))) (ev_is (ev_joinL (ys := ordS fun x => inD x g) (by walk_at "ev") (ev_N (en_is (en_lc (b := fun i => inD ([PyData.str "E", .str "N", .str "W", .str "S"].getD i .none) g) (f := fun i => [PyData.str "E", .str "N", .str "W", .str "S"].getD i .none) (ei_list (ev_var (d := ordD) rfl)) (by decide) fun i hi => ⟨_, _, gt_name, by simp, et_test (ev_op (by walk_at "ev") (by walk_at "ev") (od_inL (getD_all (p := flatD) rfl hi) hg)), fun _ => by walk_at "ev"⟩) ?_)) (ord_size _)) rfl) ?_
      · exact congrArg PyData.list (lcD_ord (fun x => inD x g) (fun i => [PyData.str "E", .str "N", .str "W", .str "S"].getD i .none) rfl rfl rfl rfl)
      · exact st_no (ev_same (ev_call (ea_cons (ev_cb (by walk_at "ea") cd_tupL) ea_nil) ⟨g, rfl, hg, rfl⟩) (by walk_at "ev") rfl) ⟨_, _, rfl⟩
    rintro ρ ⟨s12, s13, rfl⟩
    exact st_ret (by walk_at "ev") rfl

end
set_option maxHeartbeats 0
def d_name_fault : He.DefD := ⟨("name_fault", none), "name_fault", "name_fault", defArgs s_name_fault, defBody s_name_fault, defScope s_name_fault, [], []⟩
def d_check_name : He.DefD := ⟨("check_name", none), "check_name", "check_name", defArgs s_check_name, defBody s_check_name, defScope s_check_name, [], []⟩
def d_is_side : He.DefD := ⟨("is_side", none), "is_side", "is_side", defArgs s_is_side, defBody s_is_side, defScope s_is_side, [], []⟩
def d_direction_number : He.DefD := ⟨("direction_number", none), "direction_number", "direction_number", defArgs s_direction_number, defBody s_direction_number, defScope s_direction_number, [], []⟩
def d_direction_by : He.DefD := ⟨("direction_by", none), "direction_by", "direction_by", defArgs s_direction_by, defBody s_direction_by, defScope s_direction_by, [], []⟩
def d_turned_direction : He.DefD := ⟨("turned_direction", none), "turned_direction", "turned_direction", defArgs s_turned_direction, defBody s_turned_direction, defScope s_turned_direction, [], []⟩
def d_opposite_of : He.DefD := ⟨("opposite_of", none), "opposite_of", "opposite_of", defArgs s_opposite_of, defBody s_opposite_of, defScope s_opposite_of, [], []⟩
def d_mirrored_direction : He.DefD := ⟨("mirrored_direction", none), "mirrored_direction", "mirrored_direction", defArgs s_mirrored_direction, defBody s_mirrored_direction, defScope s_mirrored_direction, [], []⟩
def d_quarters_between : He.DefD := ⟨("quarters_between", none), "quarters_between", "quarters_between", defArgs s_quarters_between, defBody s_quarters_between, defScope s_quarters_between, [], []⟩
def d_beside_side : He.DefD := ⟨("beside_side", none), "beside_side", "beside_side", defArgs s_beside_side, defBody s_beside_side, defScope s_beside_side, [], []⟩
def d_ordered_directions : He.DefD := ⟨("ordered_directions", none), "ordered_directions", "ordered_directions", defArgs s_ordered_directions, defBody s_ordered_directions, defScope s_ordered_directions, [], []⟩
def d_u_law_pool : He.DefD := ⟨("_law_pool", none), "_law_pool", "_law_pool", defArgs s_u_law_pool, defBody s_u_law_pool, defScope s_u_law_pool, [], []⟩
def d_u_law_same : He.DefD := ⟨("_law_same", none), "_law_same", "_law_same", defArgs s_u_law_same, defBody s_u_law_same, defScope s_u_law_same, [], []⟩
def d_u_law_place : He.DefD := ⟨("_law_place", none), "_law_place", "_law_place", defArgs s_u_law_place, defBody s_u_law_place, defScope s_u_law_place, [], []⟩
def d_u_law_told : He.DefD := ⟨("_law_told", none), "_law_told", "_law_told", defArgs s_u_law_told, defBody s_u_law_told, defScope s_u_law_told, [], []⟩
def d_u_law_name : He.DefD := ⟨("_law_name", none), "_law_name", "_law_name", defArgs s_u_law_name, defBody s_u_law_name, defScope s_u_law_name, [], []⟩
def d_u_law_exchanged : He.DefD := ⟨("_law_exchanged", none), "_law_exchanged", "_law_exchanged", defArgs s_u_law_exchanged, defBody s_u_law_exchanged, defScope s_u_law_exchanged, [], []⟩
def d_u_law_names : He.DefD := ⟨("_law_names", none), "_law_names", "_law_names", defArgs s_u_law_names, defBody s_u_law_names, defScope s_u_law_names, [], []⟩
def d_law : He.DefD := ⟨("law", none), "law", "law", defArgs s_law, defBody s_law, defScope s_law, [], []⟩
def d_i_BadName : He.DefD := ⟨("BadName", some "__init__"), "__init__", "BadName.__init__", defArgs s_i_BadName, defBody s_i_BadName, defScope s_i_BadName, [], []⟩
def fn0 : List He.DefD := [d_name_fault, d_check_name, d_is_side, d_direction_number, d_direction_by, d_turned_direction, d_opposite_of, d_mirrored_direction, d_quarters_between, d_beside_side, d_ordered_directions, d_u_law_pool, d_u_law_same, d_u_law_place, d_u_law_told, d_u_law_name, d_u_law_exchanged, d_u_law_names, d_law, d_i_BadName]
def fn : List He.DefD := fn0
def fa0 : List He.Fa := [.glo "name_fault", .glo "check_name", .glo "is_side", .glo "direction_number", .glo "direction_by", .glo "turned_direction", .glo "opposite_of", .glo "mirrored_direction", .glo "quarters_between", .glo "beside_side", .glo "ordered_directions", .glo "_law_pool", .glo "_law_same", .glo "_law_place", .glo "_law_told", .glo "_law_name", .glo "_law_exchanged", .glo "_law_names", .glo "law", .glo "PlanError", .glo "DataError", .glo "CallError", .glo "TextError", .glo "BadName"]
def fa1 : List He.Fa := [.free "ValueError", .free "bool", .free "enumerate", .free "int", .free "isinstance", .free "len", .free "list", .free "range", .free "str", .free "tuple", .int "NAME_MOST" (8), .glo "SIDES", .str "LETTERS" "abcdefghijklmnopqrstuvwxyz", .str "FIGURES" "0123456789", .str "DIRECTIONS" "ENWS", .noat "BadName" "at", .exm "BadName" "PlanError" true]
def fa : List He.Fa := fa0 ++ fa1
def ex (K : PySem.W.Frag) : Bool := [He.tupB K "SIDES" [.str "E", .str "N", .str "W", .str "S"], exB K (He.ga K "PlanError"), exB K (He.ga K "DataError"), exB K (He.ga K "CallError"), exB K (He.ga K "TextError"), exB K (He.ga K "BadName"), exI K (He.ga K "BadName"), kitR K (He.ga K "BadName") (He.ga K "BadName") true, kitR K (He.ga K "BadName") (He.ga K "DataError") true, kitT K (He.ga K "BadName") "ValueError" true, kitR K (He.ga K "BadName") (He.ga K "CallError") false, kitR K (He.ga K "BadName") (He.ga K "TextError") false].all id
def loose0 : List PySem.Str := ["NAME_MOST", "__name__", "PlanError", "DataError", "CallError", "TextError", "BadName", "SIDES", "LETTERS", "FIGURES", "check_name", "is_side", "name_fault", "DIRECTIONS", "direction_number", "direction_by", "turned_direction", "opposite_of", "mirrored_direction", "quarters_between", "beside_side", "ordered_directions", "_law_pool", "_law_same"]
def loose1 : List PySem.Str := ["_law_place", "_law_told", "_law_name", "_law_exchanged", "_law_names"]
def loose : List PySem.Str := loose0 ++ loose1
abbrev R : PySem.W.OpenRow := PySem.W.OpenLaw.row PySem.Challenge.rw_wallsaswished_k01_names_and_directions
abbrev hk : PySem.W.Hook := hookB 5 fa fn ex
def ob (s : PySem.W.SharedT) : AlB := obsBG 5 fa fn ex (HandSHeadRun.getT s)
theorem ob_eq (s : PySem.W.SharedT) : ob s = hk.obs s.abs := obsBG_eq (HandSHeadRun.getT_eq s)
theorem run (w : World) : HandSHeadRun.RunEq R (PySem.W.view R.prog [32]) hk ob 6000 loose w := by
  intro os
  kernel_rfl
theorem txt {K : PySem.W.Frag} {h : Heap} {mg : Str → Option Value} (X : K.In h) (G : h.Ns mainGlobals mg) (c : SaysB fa fn ex K) : Txt K mg where
  f_ValueError := He.free_ok X G (c.d.fact 24 (f := .free "ValueError") rfl)
  f_bool := He.free_ok X G (c.d.fact 25 (f := .free "bool") rfl)
  f_enumerate := He.free_ok X G (c.d.fact 26 (f := .free "enumerate") rfl)
  f_int := He.free_ok X G (c.d.fact 27 (f := .free "int") rfl)
  f_isinstance := He.free_ok X G (c.d.fact 28 (f := .free "isinstance") rfl)
  f_len := He.free_ok X G (c.d.fact 29 (f := .free "len") rfl)
  f_list := He.free_ok X G (c.d.fact 30 (f := .free "list") rfl)
  f_range := He.free_ok X G (c.d.fact 31 (f := .free "range") rfl)
  f_str := He.free_ok X G (c.d.fact 32 (f := .free "str") rfl)
  f_tuple := He.free_ok X G (c.d.fact 33 (f := .free "tuple") rfl)
  g_PlanError := He.glo_ok X G (c.d.fact 19 (f := .glo "PlanError") rfl)
  g_DataError := He.glo_ok X G (c.d.fact 20 (f := .glo "DataError") rfl)
  g_CallError := He.glo_ok X G (c.d.fact 21 (f := .glo "CallError") rfl)
  g_TextError := He.glo_ok X G (c.d.fact 22 (f := .glo "TextError") rfl)
  g_BadName := He.glo_ok X G (c.d.fact 23 (f := .glo "BadName") rfl)
  c_NAME_MOST := He.int_ok X G (c.d.fact 34 (f := .int "NAME_MOST" (8)) rfl)
  g_SIDES := He.glo_ok X G (c.d.fact 35 (f := .glo "SIDES") rfl)
  t_SIDES := He.tupB_ok (allB c.more 0 rfl)
  c_LETTERS := He.str_ok X G (c.d.fact 36 (f := .str "LETTERS" "abcdefghijklmnopqrstuvwxyz") rfl)
  c_FIGURES := He.str_ok X G (c.d.fact 37 (f := .str "FIGURES" "0123456789") rfl)
  c_DIRECTIONS := He.str_ok X G (c.d.fact 38 (f := .str "DIRECTIONS" "ENWS") rfl)
  n_BadName_at := He.noat_ok (c.d.fact 39 (f := .noat "BadName" "at") rfl)
  x_PlanError := exB_ok (allB c.more 1 rfl)
  x_DataError := exB_ok (allB c.more 2 rfl)
  x_CallError := exB_ok (allB c.more 3 rfl)
  x_TextError := exB_ok (allB c.more 4 rfl)
  x_BadName := exB_ok (allB c.more 5 rfl)
  i_BadName := exI_ok (allB c.more 6 rfl)
  k_BadName_BadName := kitR_ok (allB c.more 7 rfl)
  k_BadName_DataError := kitR_ok (allB c.more 8 rfl)
  k_BadName_ValueError := kitT_ok (allB c.more 9 rfl)
  k_BadName_CallError := kitR_ok (allB c.more 10 rfl)
  k_BadName_TextError := kitR_ok (allB c.more 11 rfl)
  e_BadName_PlanError := He.exm_ok (c.d.fact 40 (f := .exm "BadName" "PlanError" true) rfl)
theorem oi_BadName {P : Program} {w : World} {K : PySem.W.Frag} {mg : Str → Option Value} {base : Heap} (T : Txt K mg) (F : ∃ fd, FunD K "__init__" "BadName.__init__" (defArgs s_i_BadName) (defBody s_i_BadName) (defScope s_i_BadName) [] [] (He.ma K (He.ga K "BadName") "__init__") fd) : ExOk P w K mg base 1 "BadName" ["at"] := by
  obtain ⟨fd, F⟩ := F
  exact ⟨T.g_BadName, T.x_BadName, T.i_BadName, fd, fn_init1 F sc_i_BadName rfl T.x_BadName.oex T.n_BadName_at (fun _ _ _ _ _ _ => pss_one (ps_ost (pv 0) (pv 1))), F.bindsN (fun _ _ _ _ _ _ us hl => match us, hl with | [_, _], _ => rfl)⟩
theorem facts {P : Program} {w : World} {K : PySem.W.Frag} {h : Heap} {mg : Str → Option Value} (X : K.In h) (G : h.Ns mainGlobals mg) (c : SaysB fa fn ex K) {fd : FuncData} (F : FunD K "law" "law" (defArgs s_law) (defBody s_law) (defScope s_law) [] [] (He.ga K "law") fd) (base : Heap) : FnOk P w K mg base CX0 5 (He.ga K "law") fd ["script"] (sp_law K) := by
  have T := txt X G c
  have X_BadName : ExOk P w K mg base 1 "BadName" ["at"] := oi_BadName T (c.d.def_ 19 (d := d_i_BadName) rfl)
  have O_name_fault := ok_name_fault (P := P) (w := w) (base := base) T (c.d.def_ 0 (d := d_name_fault) rfl) (He.glo_ok X G (c.d.fact 0 (f := .glo "name_fault") rfl)) 
  have O_check_name := ok_check_name (P := P) (w := w) (base := base) T (c.d.def_ 1 (d := d_check_name) rfl) (He.glo_ok X G (c.d.fact 1 (f := .glo "check_name") rfl)) ‹_› ‹_›
  have O_is_side := ok_is_side (P := P) (w := w) (base := base) T (c.d.def_ 2 (d := d_is_side) rfl) (He.glo_ok X G (c.d.fact 2 (f := .glo "is_side") rfl)) 
  have O_direction_number := ok_direction_number (P := P) (w := w) (base := base) T (c.d.def_ 3 (d := d_direction_number) rfl) (He.glo_ok X G (c.d.fact 3 (f := .glo "direction_number") rfl)) 
  have O_direction_by := ok_direction_by (P := P) (w := w) (base := base) T (c.d.def_ 4 (d := d_direction_by) rfl) (He.glo_ok X G (c.d.fact 4 (f := .glo "direction_by") rfl)) 
  have O_turned_direction := ok_turned_direction (P := P) (w := w) (base := base) T (c.d.def_ 5 (d := d_turned_direction) rfl) (He.glo_ok X G (c.d.fact 5 (f := .glo "turned_direction") rfl)) ‹_› ‹_›
  have O_opposite_of := ok_opposite_of (P := P) (w := w) (base := base) T (c.d.def_ 6 (d := d_opposite_of) rfl) (He.glo_ok X G (c.d.fact 6 (f := .glo "opposite_of") rfl)) ‹_› ‹_›
  have O_mirrored_direction := ok_mirrored_direction (P := P) (w := w) (base := base) T (c.d.def_ 7 (d := d_mirrored_direction) rfl) (He.glo_ok X G (c.d.fact 7 (f := .glo "mirrored_direction") rfl)) ‹_› ‹_›
  have O_quarters_between := ok_quarters_between (P := P) (w := w) (base := base) T (c.d.def_ 8 (d := d_quarters_between) rfl) (He.glo_ok X G (c.d.fact 8 (f := .glo "quarters_between") rfl)) ‹_›
  have O_beside_side := ok_beside_side (P := P) (w := w) (base := base) T (c.d.def_ 9 (d := d_beside_side) rfl) (He.glo_ok X G (c.d.fact 9 (f := .glo "beside_side") rfl)) ‹_› ‹_›
  have O_ordered_directions := ok_ordered_directions (P := P) (w := w) (base := base) T (c.d.def_ 10 (d := d_ordered_directions) rfl) (He.glo_ok X G (c.d.fact 10 (f := .glo "ordered_directions") rfl)) 
  have O_u_law_pool := ok_u_law_pool (P := P) (w := w) (base := base) T (c.d.def_ 11 (d := d_u_law_pool) rfl) (He.glo_ok X G (c.d.fact 11 (f := .glo "_law_pool") rfl)) 
  have O_u_law_same := ok_u_law_same (P := P) (w := w) (base := base) T (c.d.def_ 12 (d := d_u_law_same) rfl) (He.glo_ok X G (c.d.fact 12 (f := .glo "_law_same") rfl)) 
  have O_u_law_place := ok_u_law_place (P := P) (w := w) (base := base) T (c.d.def_ 13 (d := d_u_law_place) rfl) (He.glo_ok X G (c.d.fact 13 (f := .glo "_law_place") rfl)) 
  have O_u_law_told := ok_u_law_told (P := P) (w := w) (base := base) T (c.d.def_ 14 (d := d_u_law_told) rfl) (He.glo_ok X G (c.d.fact 14 (f := .glo "_law_told") rfl)) ‹_› ‹_›
  have O_u_law_name := ok_u_law_name (P := P) (w := w) (base := base) T (c.d.def_ 15 (d := d_u_law_name) rfl) (He.glo_ok X G (c.d.fact 15 (f := .glo "_law_name") rfl)) 
  have O_u_law_exchanged := ok_u_law_exchanged (P := P) (w := w) (base := base) T (c.d.def_ 16 (d := d_u_law_exchanged) rfl) (He.glo_ok X G (c.d.fact 16 (f := .glo "_law_exchanged") rfl)) 
  have O_u_law_names := ok_u_law_names (P := P) (w := w) (base := base) T (c.d.def_ 17 (d := d_u_law_names) rfl) (He.glo_ok X G (c.d.fact 17 (f := .glo "_law_names") rfl)) ‹_› ‹_›
  exact ok_law T F ‹_› ‹_› ‹_› ‹_› ‹_› ‹_› ‹_› ‹_› ‹_› ‹_› ‹_› ‹_›
theorem fin {P : Program} {w : World} {K : PySem.W.Frag} {h : Heap} {mg : Str → Option Value} {f : Addr} (X : K.In h) (G : h.Ns mainGlobals mg) (c : SaysB fa fn ex K) (hm : mg ("law" : Str) = some (.ref f)) :
    ∃ (K : PySem.W.Frag) (fd : FuncData) (sp : Sp), K.In h ∧ (∀ (s : Shared) (u : Value), BindsTo s fd ⟨[u], []⟩ [(("script" : Str), u)]) ∧
      (∀ (H : Hp) (a : Addr) (ns : List Int), ns.length ≤ 63 → Only H → SqL K H a (ns.map V.int) → sp [.ref a] H (fun v _ => v = .bl true) fun _ _ _ => False) ∧
      ∀ base : Heap, K.In base → base.Ns mainGlobals mg → FnOk P w K mg base CX0 5 f fd ["script"] sp := by
  obtain ⟨fd, F⟩ := c.d.def_ 18 (d := d_law) rfl
  have e := hm.symm.trans (He.glo_ok X G (c.d.fact 18 (f := .glo "law") rfl))
  cases e
  have b := FunD.bindsA (ps := ["script"]) F fun _ _ _ _ _ _ us hl => match us, hl with | [_], _ => rfl
  refine ⟨K, fd, sp_law K, X, fun s v => b s [v] rfl, fun H a ns hl hO hS => ?_, fun base hK hG => facts X G c F base⟩
  exact ⟨H, _, _, GH.refl H, .cons (.scr hS) .nil, ⟨ns, rfl, hl, rfl⟩, fun v G' H' _ hv => by cases hv; rfl⟩
end K01

open PySem PySem.W PySem.Calls PyProof.Rows
theorem PySem.Challenge.cw_wallsaswished_k01_names_and_directions_holds : PySem.Challenge.rw_wallsaswished_k01_names_and_directions.Holds := by
  w_on
  o_law
  refine HandSHeadRun.head_any (r := K01.R) (q := view (OpenLaw.row PySem.Challenge.rw_wallsaswished_k01_names_and_directions).prog [32])
    (H := K01.hk) (ob := K01.ob) (M := 6000) (loose := K01.loose)
    (d := HandSHeadRun.topDef (OpenLaw.row PySem.Challenge.rw_wallsaswished_k01_names_and_directions).prog 32) (kwd := []) K01.ob_eq
    (by kernel_rfl) (fun s => by kernel_rfl) K01.run
    (by kernel_rfl) (by kernel_rfl) (by kernel_rfl) (by rfl) (by first | assumption | decide +kernel)
    (by decide +kernel) ⟨rfl, rfl, rfl, rfl, rfl, by decide +kernel⟩ ?hw ?hc
  case hw => w_witness2
  case hc =>
    refine L2.walk_ofE (l := PySem.Challenge.rw_wallsaswished_k01_names_and_directions) (n := 63) (k := 5) (x := "script") (CX := L2.CX0)
      rfl (by decide) (by kernel_rfl) ⟨rfl, by decide, by decide⟩ ?F (fun _ _ _ _ z => z)
    intro w mg fa h Y G hmg0
    obtain ⟨K, KX, c⟩ := Y
    have hn : (HandSHeadRun.topDef (OpenLaw.row PySem.Challenge.rw_wallsaswished_k01_names_and_directions).prog 32).name = ("law" : PySem.Str) := by kernel_rfl
    rw [hn] at hmg0
    exact K01.fin KX G c hmg0
