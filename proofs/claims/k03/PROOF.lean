import PyProof.Rows.All
import Wide.All
import OpenK.AllK
import Wide.FinOn
import PySem.Challenge.RW_wallsaswished_k03_neighbours_of_schemes
import HandS.Base
import HandS.Call
import HandS.List
import HandS.Comp
import HandS.Dict
import HandS.Iter
import HandS.Walk
import HandS.Words
import HandS.Text
import HandS.TupAny
import HandS.Style
import HandS.IsInst
import HandS.More
import HandS.Flow
import HandS.Replace
import PyProof.StrOps2
import KE.GoesMore
import KE.GoesEnum
import HandS.Defaults
import HandS.Exc
import HandS.ExcOwn
import HandS.ExcInit
import HandS.ExcIs
import HandS.ExcField
import HandS.WordsExc
import KE.KStateDown
import HandS.Head0
import HandS.Head1
import HandS.Head2
import HandS.HeadEnd
import HandS.HeadHook1
import HandS.HeadHook2
import HandS.EndBits
import HandS.DictComp
import HandS.Conv
import KE.KSortTupAny
import HandS.SortOrd
import HandS.TupLe
import PyProof.FString5
set_option Elab.async false
set_option linter.all false
set_option maxRecDepth 100000
/-! DL1: data as values of the abstract heap: Dq, the frozen part G of a heap H, what a step may do (Ext), slots (En). -/
namespace DL
open PySem L2

abbrev D := PyData
def kD : Key → D
  | .inl i => .int i
  | .inr x => .str x

mutual
inductive Dq (K : PySem.W.Frag) (G : Hp) : V → D → Prop
  | non : Dq K G .non .none
  | bl (b : Bool) : Dq K G (.bl b) (.bool b)
  | int (i : Int) : Dq K G (.int i) (.int i)
  | str (x : Str) : Dq K G (.str x) (.str x)
  | lst {a : Addr} {xs : List V} {ds : List D} : G a = some (.lst xs) → DqA K G xs ds → Dq K G (.ref a) (.list ds)
  /-- the script: read alone -/
  | scr {a : Addr} {ns : List Int} : SqL K G a (ns.map V.int) → Dq K G (.ref a) (.dict [(.none, .list (ns.map PyData.int))])
  | tup {a : Addr} {xs : List V} {ds : List D} : SqT K G a xs → DqA K G xs ds → Dq K G (.ref a) (.tuple ds)
  | dK {a : Addr} {es : List (Key × V)} {kvs : List (D × D)} : Rd G a (.dK es) → DqK K G es kvs → Dq K G (.ref a) (.dict kvs)
  | dT {a : Addr} {es : List (List Key × V)} {kvs : List (D × D)} : Rd G a (.dT es) → DqT K G es kvs → Dq K G (.ref a) (.dict ((.none, .none) :: kvs))
inductive DqA (K : PySem.W.Frag) (G : Hp) : List V → List D → Prop
  | nil : DqA K G [] []
  | cons {v : V} {vs : List V} {d : D} {ds : List D} : Dq K G v d → DqA K G vs ds → DqA K G (v :: vs) (d :: ds)
inductive DqK (K : PySem.W.Frag) (G : Hp) : List (Key × V) → List (D × D) → Prop
  | nil : DqK K G [] []
  | cons {k : Key} {v : V} {es : List (Key × V)} {d : D} {kvs : List (D × D)} : Dq K G v d → DqK K G es kvs → DqK K G ((k, v) :: es) ((kD k, d) :: kvs)
inductive DqT (K : PySem.W.Frag) (G : Hp) : List (List Key × V) → List (D × D) → Prop
  | nil : DqT K G [] []
  | cons {k : List Key} {v : V} {es : List (List Key × V)} {d : D} {kvs : List (D × D)} : Dq K G v d → DqT K G es kvs → DqT K G ((k, v) :: es) ((.tuple (k.map kD), d) :: kvs)
end

/-- what stands in G stands in H (a dict may be locked there) -/
def isDic : HO → Bool
  | .dK _ => true
  | .dT _ => true
  | _ => false
def GH (G H : Hp) : Prop := ∀ a u, G a = some u → H a = some u ∨ (isDic u = true ∧ ∃ o, H a = some (.frz o u))
theorem GH.refl (H : Hp) : GH H H := fun _ _ h => .inl h
theorem GH.of {A B : Hp} (x : ∀ a o, A a = some o → B a = some o) : GH A B := fun a u h => .inl (x a u h)
theorem GH.trans {A B C : Hp} (x : GH A B) (y : GH B C) : GH A C := fun a u h => by
  rcases x a u h with h | ⟨d, o, h⟩
  · exact y a u h
  · rcases y a _ h with h | ⟨d', _⟩
    · exact .inr ⟨d, o, h⟩
    · cases d'
theorem GH.rd {A B : Hp} (x : GH A B) {a : Addr} {u : HO} (h : Rd A a u) : Rd B a u := by
  rcases h with h | ⟨o, h⟩
  · rcases x a u h with h | ⟨_, o, h⟩
    · exact .inl h
    · exact .inr ⟨o, h⟩
  · rcases x a _ h with h | ⟨d, _⟩
    · exact .inr ⟨o, h⟩
    · cases d
theorem GH.lst {A B : Hp} (x : GH A B) {a : Addr} {xs : List V} (h : A a = some (.lst xs)) : B a = some (.lst xs) := by
  rcases x a _ h with h | ⟨d, _⟩
  · exact h
  · cases d
theorem GH.l {K : PySem.W.Frag} {A B : Hp} {a : Addr} {xs : List V} (x : GH A B) (h : SqL K A a xs) : SqL K B a xs := by
  rcases h with h | h
  · exact .inl (x.rd h)
  · exact .inr h
theorem GH.t {K : PySem.W.Frag} {A B : Hp} {a : Addr} {xs : List V} (x : GH A B) (h : SqT K A a xs) : SqT K B a xs := by
  rcases h with h | h
  · exact .inl (x.rd h)
  · exact .inr h
theorem GH.none {A B : Hp} {a : Addr} (x : GH A B) (h : B a = none) : A a = none := by
  cases e : A a with
  | none => rfl
  | some o =>
    rcases x a o e with q | ⟨_, _, q⟩ <;> rw [h] at q <;> cases q

mutual
theorem Dq.mono {K : PySem.W.Frag} {A B : Hp} (x : GH A B) : ∀ {v : V} {d : D}, Dq K A v d → Dq K B v d
  | _, _, .non => .non
  | _, _, .bl b => .bl b
  | _, _, .int i => .int i
  | _, _, .str z => .str z
  | _, _, .lst h t => .lst (x.lst h) (DqA.mono x t)
  | _, _, .scr h => .scr (x.l h)
  | _, _, .tup h t => .tup (x.t h) (DqA.mono x t)
  | _, _, .dK h t => .dK (x.rd h) (DqK.mono x t)
  | _, _, .dT h t => .dT (x.rd h) (DqT.mono x t)
theorem DqA.mono {K : PySem.W.Frag} {A B : Hp} (x : GH A B) : ∀ {vs : List V} {ds : List D}, DqA K A vs ds → DqA K B vs ds
  | _, _, .nil => .nil
  | _, _, .cons h t => .cons (Dq.mono x h) (DqA.mono x t)
theorem DqK.mono {K : PySem.W.Frag} {A B : Hp} (x : GH A B) : ∀ {vs : List (Key × V)} {ds : List (D × D)}, DqK K A vs ds → DqK K B vs ds
  | _, _, .nil => .nil
  | _, _, .cons h t => .cons (Dq.mono x h) (DqK.mono x t)
theorem DqT.mono {K : PySem.W.Frag} {A B : Hp} (x : GH A B) : ∀ {vs : List (List Key × V)} {ds : List (D × D)}, DqT K A vs ds → DqT K B vs ds
  | _, _, .nil => .nil
  | _, _, .cons h t => .cons (Dq.mono x h) (DqT.mono x t)
end

section
variable {K : PySem.W.Frag} {G : Hp}
theorem DqA.length : ∀ {ds : List D} {vs : List V}, DqA K G vs ds → vs.length = ds.length
  | [], _, h => by cases h; rfl
  | _ :: ds, _, h => by
    cases h with
    | cons _ t => exact congrArg Nat.succ (DqA.length t)
theorem DqA.get : ∀ {ds : List D} {vs : List V} {i : Nat} {d : D}, DqA K G vs ds → ds[i]? = some d → ∃ v, vs[i]? = some v ∧ Dq K G v d
  | [], _, _, _, _, e => by simp at e
  | _ :: ds, _, i, d, h, e => by
    cases h with
    | cons x t =>
      cases i with
      | zero => simp at e; subst e; exact ⟨_, rfl, x⟩
      | succ i =>
        obtain ⟨v, h1, h2⟩ := DqA.get (i := i) (d := d) t (by simpa using e)
        exact ⟨v, by simpa using h1, h2⟩
theorem DqA.got {ds : List D} {vs : List V} {i : Nat} {v : V} (h : DqA K G vs ds) (e : vs[i]? = some v) : ∃ d, ds[i]? = some d ∧ Dq K G v d := by
  have hl := h.length
  have hi : i < vs.length := (List.getElem?_eq_some_iff.mp e).1
  obtain ⟨u, h1, h2⟩ := h.get (i := i) (d := ds[i]'(by omega)) (by simp [show i < ds.length by omega])
  rw [e] at h1
  cases h1
  exact ⟨_, by simp [show i < ds.length by omega], h2⟩
theorem DqA.append : ∀ {ds es : List D} {vs us : List V}, DqA K G vs ds → DqA K G us es → DqA K G (vs ++ us) (ds ++ es)
  | [], _, _, _, h, t => by cases h; exact t
  | _ :: ds, _, _, _, h, t => by
    cases h with
    | cons x r => exact .cons x (DqA.append r t)
theorem DqA.take : ∀ {ds : List D} {vs : List V} (n : Nat), DqA K G vs ds → DqA K G (vs.take n) (ds.take n)
  | [], _, n, h => by cases h; simpa using DqA.nil
  | _ :: ds, _, 0, h => by simpa using DqA.nil
  | _ :: ds, _, n + 1, h => by
    cases h with
    | cons x r => exact .cons x (DqA.take n r)
theorem DqA.drop : ∀ {ds : List D} {vs : List V} (n : Nat), DqA K G vs ds → DqA K G (vs.drop n) (ds.drop n)
  | [], _, n, h => by cases h; simpa using DqA.nil
  | _ :: ds, _, 0, h => h
  | _ :: ds, _, n + 1, h => by
    cases h with
    | cons x r => exact DqA.drop n r
theorem DqA.set : ∀ {ds : List D} {vs : List V} (i : Nat) {v : V} {d : D}, DqA K G vs ds → Dq K G v d → DqA K G (vs.set i v) (ds.set i d)
  | [], _, i, _, _, h, _ => by cases h; simpa using DqA.nil
  | _ :: ds, _, 0, _, _, h, x => by
    cases h with
    | cons _ r => exact .cons x r
  | _ :: ds, _, i + 1, _, _, h, x => by
    cases h with
    | cons y r => exact .cons y (DqA.set i r x)
theorem DqA.one {v : V} {d : D} (h : Dq K G v d) : DqA K G [v] [d] := .cons h .nil
theorem DqA.rev : ∀ {ds : List D} {vs : List V}, DqA K G vs ds → DqA K G vs.reverse ds.reverse
  | [], _, h => by cases h; exact .nil
  | _ :: ds, _, h => by
    cases h with
    | cons x r =>
      rw [List.reverse_cons, List.reverse_cons]
      exact (DqA.rev r).append (.one x)
end

def noTup : HO → Bool
  | .tup _ => false
  | _ => true
/-- from (G, H) to (G', H'): nothing that stood was changed; what was owned stays out of the frozen part -/
structure Ext (G H G' H' : Hp) : Prop where
  gg : ∀ a o, G a = some o → G' a = some o
  hh : ∀ a o, H a = some o → H' a = some o
  gh : GH G' H'
  own : ∀ a o, H a = some o → noTup o = true → G a = none → G' a = none
theorem Ext.refl {G H : Hp} (g : GH G H) : Ext G H G H := ⟨fun _ _ h => h, fun _ _ h => h, g, fun _ _ _ _ h => h⟩
theorem Ext.trans {G H G1 H1 G2 H2 : Hp} (x : Ext G H G1 H1) (y : Ext G1 H1 G2 H2) : Ext G H G2 H2 :=
  ⟨fun a o h => y.gg a o (x.gg a o h), fun a o h => y.hh a o (x.hh a o h), y.gh, fun a o h t n => y.own a o (x.hh a o h) t (x.own a o h t n)⟩
theorem Ext.g {G H G' H' : Hp} (x : Ext G H G' H') : GH G G' := GH.of x.gg
theorem Ext.h {G H G' H' : Hp} (x : Ext G H G' H') : GH H H' := GH.of x.hh
/-- a new object is laid and frozen -/
theorem Ext.new {G H : Hp} {p : Addr} {o : HO} (g : GH G H) (h : H p = none) : Ext G H (upd G p o) (upd H p o) := by
  refine ⟨fun a u e => ?_, fun a u e => ?_, fun a u r => ?_, fun a u e _ n => ?_⟩
  · rw [upd_ne (ne_of_none e (g.none h))]; exact e
  · rw [upd_ne (ne_of_none e h)]; exact e
  · by_cases ha : a = p
    · subst ha
      rw [upd_same] at r
      exact .inl (by rw [upd_same]; exact r)
    · rw [upd_ne ha] at r
      rw [upd_ne ha]
      exact g a u r
  · rw [upd_ne (ne_of_none e h)]; exact n
/-- a new object is laid and owned -/
theorem Ext.fresh {G H : Hp} {p : Addr} {o : HO} (g : GH G H) (h : H p = none) : Ext G H G (upd H p o) := by
  refine ⟨fun a u e => e, fun a u e => ?_, fun a u r => ?_, fun a u e _ n => n⟩
  · rw [upd_ne (ne_of_none e h)]; exact e
  · have hp : a ≠ p := by
      rintro rfl
      rw [g.none h] at r; cases r
    rw [upd_ne hp]
    exact g a u r

/-- a slot: not told, a frozen datum, an owned one -/
inductive Sl where
  | no
  | fr (d : D)
  | ow (d : D)
  /-- a caught exception at a, its dict at dd -/
  | ex (a dd : Addr) (fl : List (Str × D))
  /-- a dict of owned lists -/
  | ne (kls : List (Key × List D))
/-- the fields of an exception -/
def DqF (K : PySem.W.Frag) (G : Hp) (fs : List (Str × V)) (fl : List (Str × D)) : Prop := fs.map (·.1) = fl.map (·.1) ∧ DqA K G (fs.map (·.2)) (fl.map (·.2))
theorem DqF.mono {K : PySem.W.Frag} {A B : Hp} (x : GH A B) {fs : List (Str × V)} {fl : List (Str × D)} (h : DqF K A fs fl) : DqF K B fs fl := ⟨h.1, h.2.mono x⟩
theorem DqF.get {K : PySem.W.Frag} {G : Hp} {f : Str} {d : D} : ∀ {fl : List (Str × D)} {fs : List (Str × V)}, DqF K G fs fl → fl.lookup f = some d → ∃ v, fs.lookup f = some v ∧ Dq K G v d
  | [], _, _, e => by simp at e
  | (g, d') :: fl, [], h, _ => by
    have := h.1
    simp at this
  | (g, d') :: fl, (g', v') :: fs, h, e => by
    obtain ⟨h1, h2⟩ := h
    simp only [List.map_cons] at h1 h2
    injection h1 with e1 h1
    cases h2 with
    | cons a b =>
      subst e1
      by_cases q : f = g'
      · subst q
        rw [List.lookup_cons_self] at e
        cases e
        exact ⟨v', List.lookup_cons_self, a⟩
      · have q2 : (f == g') = false := by simpa using q
        rw [List.lookup_cons, q2] at e
        rw [List.lookup_cons, q2]
        exact DqF.get ⟨h1, b⟩ e
/-- what stands at an owned address -/
inductive OwnC (K : PySem.W.Frag) (G H : Hp) (l : Addr) : D → Prop
  | lst {vs : List V} {ds : List D} : H l = some (.lst vs) → DqA K G vs ds → OwnC K G H l (.list ds)
  | dK {es : List (Key × V)} {kvs : List (D × D)} : H l = some (.dK es) → DqK K G es kvs → OwnC K G H l (.dict kvs)
  | dT {es : List (List Key × V)} {kvs : List (D × D)} : H l = some (.dT es) → DqT K G es kvs → OwnC K G H l (.dict ((.none, .none) :: kvs))
theorem OwnC.there {K : PySem.W.Frag} {G H : Hp} {l : Addr} {d : D} (x : OwnC K G H l d) : ∃ o, H l = some o ∧ noTup o = true := by
  cases x with
  | lst h _ => exact ⟨_, h, rfl⟩
  | dK h _ => exact ⟨_, h, rfl⟩
  | dT h _ => exact ⟨_, h, rfl⟩
theorem OwnC.ext {K : PySem.W.Frag} {G H G' H' : Hp} {l : Addr} {d : D} (x : OwnC K G H l d) (g : GH G G') (h : H' l = H l) : OwnC K G' H' l d := by
  cases x with
  | lst e r => exact .lst (h.trans e) (r.mono g)
  | dK e r => exact .dK (h.trans e) (r.mono g)
  | dT e r => exact .dT (h.trans e) (r.mono g)
/-- an owned object read as a frozen one, over the whole heap -/
theorem OwnC.dq {K : PySem.W.Frag} {G H B : Hp} {l : Addr} {d : D} (x : OwnC K G H l d) (g : GH G B) (h : ∀ o, H l = some o → B l = some o) : Dq K B (.ref l) d := by
  cases x with
  | lst e r => exact .lst (h _ e) (r.mono g)
  | dK e r => exact .dK (.inl (h _ e)) (r.mono g)
  | dT e r => exact .dT (.inl (h _ e)) (r.mono g)

/-- the lists at these addresses -/
inductive NeL (K : PySem.W.Frag) (G H : Hp) : List (Key × V) → List Addr → List (Key × List D) → Prop
  | nil : NeL K G H [] [] []
  | cons {k : Key} {a : Addr} {vs : List V} {ds : List D} {es : List (Key × V)} {as : List Addr} {kls : List (Key × List D)} : H a = some (.lst vs) → DqA K G vs ds → NeL K G H es as kls → NeL K G H ((k, .ref a) :: es) (a :: as) ((k, ds) :: kls)
theorem NeL.go {K : PySem.W.Frag} {G H G' H' : Hp} (g : GH G G') : ∀ {es : List (Key × V)} {as : List Addr} {kls : List (Key × List D)}, NeL K G H es as kls → (∀ a ∈ as, H' a = H a) → NeL K G' H' es as kls
  | _, _, _, .nil, _ => .nil
  | _, _, _, .cons h r t, e => .cons ((e _ (List.mem_cons_self ..)).trans h) (r.mono g) (NeL.go g t fun a ha => e a (List.mem_cons_of_mem _ ha))
theorem NeL.there {K : PySem.W.Frag} {G H : Hp} {es : List (Key × V)} {as : List Addr} {kls : List (Key × List D)} (x : NeL K G H es as kls) : ∀ a ∈ as, ∃ vs, H a = some (.lst vs) := by
  induction x with
  | nil =>
    intro a ha
    cases ha
  | cons h _ _ ih =>
    intro a ha
    rcases List.mem_cons.mp ha with rfl | ha
    · exact ⟨_, h⟩
    · exact ih a ha
theorem NeL.det {K : PySem.W.Frag} {G H G' H' : Hp} : ∀ {es : List (Key × V)} {as bs : List Addr} {kls lls : List (Key × List D)}, NeL K G H es as kls → NeL K G' H' es bs lls → as = bs
  | _, _, _, _, _, .nil, .nil => rfl
  | _, _, _, _, _, .cons _ _ t, .cons _ _ u => congrArg _ (NeL.det t u)
def NeC (K : PySem.W.Frag) (G H : Hp) (l : Addr) (as : List Addr) (kls : List (Key × List D)) : Prop := (∃ es, H l = some (.dK es) ∧ NeL K G H es as kls) ∧ (l :: as).Nodup
theorem NeC.there {K : PySem.W.Frag} {G H : Hp} {l : Addr} {as : List Addr} {kls : List (Key × List D)} (x : NeC K G H l as kls) : ∀ a ∈ l :: as, ∃ o, H a = some o ∧ noTup o = true := fun a ha => by
  obtain ⟨⟨es, h1, h2⟩, _⟩ := x
  rcases List.mem_cons.mp ha with rfl | ha
  · exact ⟨_, h1, rfl⟩
  · obtain ⟨vs, h⟩ := h2.there a ha
    exact ⟨_, h, rfl⟩
theorem NeC.go {K : PySem.W.Frag} {G H G' H' : Hp} {l : Addr} {as : List Addr} {kls : List (Key × List D)} (x : NeC K G H l as kls) (g : GH G G') (e : ∀ a ∈ l :: as, H' a = H a) : NeC K G' H' l as kls := by
  obtain ⟨⟨es, h1, h2⟩, n⟩ := x
  exact ⟨⟨es, (e l (List.mem_cons_self ..)).trans h1, h2.go g fun a ha => e a (List.mem_cons_of_mem _ ha)⟩, n⟩
structure En (K : PySem.W.Frag) (G0 H0 G H : Hp) (σ : St) (ρ : List Sl) : Prop where
  len : σ.length = ρ.length
  ext : Ext G0 H0 G H
  fr : ∀ (i : Nat) (d : D), ρ[i]? = some (Sl.fr d) → ∃ v, σ[i]? = some (some v) ∧ Dq K G v d
  ow : ∀ (i : Nat) (d : D), ρ[i]? = some (Sl.ow d) → ∃ l, σ[i]? = some (some (V.ref l)) ∧ H0 l = none ∧ G l = none ∧ OwnC K G H l d
  ex : ∀ (i : Nat) (a dd : Addr) (fl : List (Str × D)), ρ[i]? = some (Sl.ex a dd fl) → σ[i]? = some (some (V.ref a)) ∧ ∃ fs, G dd = some (.xd fs) ∧ DqF K G fs fl
  dis : ∀ (i j : Nat) (d e : D) (l : Addr), ρ[i]? = some (Sl.ow d) → ρ[j]? = some (Sl.ow e) → σ[i]? = some (some (V.ref l)) → σ[j]? = some (some (V.ref l)) → i = j
  ne : ∀ (i : Nat) (kls : List (Key × List D)), ρ[i]? = some (Sl.ne kls) → ∃ l as, σ[i]? = some (some (V.ref l)) ∧ NeC K G H l as kls ∧ ∀ a ∈ l :: as, H0 a = none ∧ G a = none ∧ ∀ (j : Nat) (e : D), ρ[j]? = some (Sl.ow e) → σ[j]? ≠ some (some (V.ref a))
  ned : ∀ (i j : Nat) (x y : List (Key × List D)), ρ[i]? = some (Sl.ne x) → ρ[j]? = some (Sl.ne y) → i = j
section
variable {K : PySem.W.Frag} {G0 H0 G H G' H' : Hp} {σ : St} {ρ : List Sl}
theorem En.go (E : En K G0 H0 G H σ ρ) (x : Ext G H G' H') : En K G0 H0 G' H' σ ρ := by
  refine ⟨E.len, E.ext.trans x, fun i d e => ?_, fun i d e => ?_, fun i a dd fl e => ?_, E.dis, fun i kls e => ?_, E.ned⟩
  · obtain ⟨v, h1, h2⟩ := E.fr i d e
    exact ⟨v, h1, h2.mono x.g⟩
  · obtain ⟨l, h1, h2, h3, h4⟩ := E.ow i d e
    obtain ⟨o, ho, ht⟩ := h4.there
    exact ⟨l, h1, h2, x.own l o ho ht h3, h4.ext x.g ((x.hh l o ho).trans ho.symm)⟩
  · obtain ⟨h1, fs, h2, h3⟩ := E.ex i a dd fl e
    exact ⟨h1, fs, x.gg _ _ h2, h3.mono x.g⟩
  · obtain ⟨l, as, h1, h2, h3⟩ := E.ne i kls e
    refine ⟨l, as, h1, h2.go x.g fun a ha => ?_, fun a ha => ?_⟩
    · obtain ⟨o, ho, _⟩ := h2.there a ha
      exact (x.hh a o ho).trans ho.symm
    · obtain ⟨o, ho, ht⟩ := h2.there a ha
      obtain ⟨b1, b2, b3⟩ := h3 a ha
      exact ⟨b1, x.own a o ho ht b2, b3⟩
theorem En.gh (E : En K G0 H0 G H σ ρ) : GH G H := E.ext.gh
theorem set_get? {α : Type} {xs : List α} {i j : Nat} {a b : α} (h : (xs.set i a)[j]? = some b) : (j = i ∧ i < xs.length ∧ a = b) ∨ (j ≠ i ∧ xs[j]? = some b) := by
  by_cases e : j = i
  · subst e
    have hi : j < (xs.set j a).length := (List.getElem?_eq_some_iff.mp h).1
    rw [List.length_set] at hi
    rw [List.getElem?_set_self hi] at h
    exact .inl ⟨rfl, hi, Option.some.inj h⟩
  · rw [List.getElem?_set_ne (Ne.symm e)] at h
    exact .inr ⟨e, h⟩
theorem En.ne_set (E : En K G0 H0 G H σ ρ) {i : Nat} {v : Option V} {s : Sl} (hs : ∀ kls, s ≠ Sl.ne kls) (ho : ∀ d, s ≠ Sl.ow d) (j : Nat) (kls : List (Key × List D)) (q : (ρ.set i s)[j]? = some (Sl.ne kls)) :
    ∃ l as, (σ.set i v)[j]? = some (some (V.ref l)) ∧ NeC K G H l as kls ∧ ∀ a ∈ l :: as, H0 a = none ∧ G a = none ∧ ∀ (k : Nat) (e : D), (ρ.set i s)[k]? = some (Sl.ow e) → (σ.set i v)[k]? ≠ some (some (V.ref a)) := by
  rcases set_get? q with ⟨_, _, x⟩ | ⟨nj, q⟩
  · exact absurd x (hs _)
  · obtain ⟨l, as, h1, h2, h3⟩ := E.ne j kls q
    refine ⟨l, as, by rw [List.getElem?_set_ne (Ne.symm nj)]; exact h1, h2, fun a ha => ?_⟩
    obtain ⟨b1, b2, b3⟩ := h3 a ha
    refine ⟨b1, b2, fun k e z => ?_⟩
    rcases set_get? z with ⟨_, _, x⟩ | ⟨nk, z⟩
    · exact absurd x (ho _)
    · rw [List.getElem?_set_ne (Ne.symm nk)]
      exact b3 k e z
theorem En.ned_set (E : En K G0 H0 G H σ ρ) {i : Nat} {s : Sl} (hs : ∀ kls, s ≠ Sl.ne kls) (j k : Nat) (x y : List (Key × List D)) (q : (ρ.set i s)[j]? = some (Sl.ne x)) (q' : (ρ.set i s)[k]? = some (Sl.ne y)) : j = k := by
  rcases set_get? q with ⟨_, _, z⟩ | ⟨_, q⟩
  · exact absurd z (hs _)
  · rcases set_get? q' with ⟨_, _, z⟩ | ⟨_, q'⟩
    · exact absurd z (hs _)
    · exact E.ned j k x y q q'
theorem En.setF (E : En K G0 H0 G H σ ρ) {v : V} {d : D} (i : Nat) (h : Dq K G v d) : En K G0 H0 G H (σ.set i (some v)) (ρ.set i (Sl.fr d)) := by
  refine ⟨by rw [List.length_set, List.length_set, E.len], E.ext, fun j e q => ?_, fun j e q => ?_, fun j a dd fl q => ?_, fun j k e e' l q q' r r' => ?_, E.ne_set (fun _ z => nomatch z) (fun _ z => nomatch z), E.ned_set (fun _ z => nomatch z)⟩
  · rcases set_get? q with ⟨rfl, hi, x⟩ | ⟨ne, q⟩
    · cases x
      exact ⟨v, by rw [List.getElem?_set_self (by rw [E.len]; exact hi)], h⟩
    · obtain ⟨u, h1, h2⟩ := E.fr j e q
      exact ⟨u, by rw [List.getElem?_set_ne (Ne.symm ne)]; exact h1, h2⟩
  · rcases set_get? q with ⟨_, _, x⟩ | ⟨ne, q⟩
    · cases x
    · obtain ⟨l, h1, h2⟩ := E.ow j e q
      exact ⟨l, by rw [List.getElem?_set_ne (Ne.symm ne)]; exact h1, h2⟩
  · rcases set_get? q with ⟨_, _, x⟩ | ⟨ne, q⟩
    · cases x
    · obtain ⟨h1, h2⟩ := E.ex j a dd fl q
      exact ⟨by rw [List.getElem?_set_ne (Ne.symm ne)]; exact h1, h2⟩
  · rcases set_get? q with ⟨_, _, x⟩ | ⟨ne, q⟩
    · cases x
    · rcases set_get? q' with ⟨_, _, x⟩ | ⟨ne', q'⟩
      · cases x
      · rw [List.getElem?_set_ne (Ne.symm ne)] at r
        rw [List.getElem?_set_ne (Ne.symm ne')] at r'
        exact E.dis j k e e' l q q' r r'
/-- an owned object comes into slot i -/
theorem En.setO (E : En K G0 H0 G H σ ρ) {l : Addr} {d : D} (i : Nat) (h0 : H0 l = none) (hG : G l = none) (h : OwnC K G H l d) (hd : ∀ (j : Nat) (e : D), j ≠ i → ρ[j]? = some (Sl.ow e) → σ[j]? ≠ some (some (V.ref l))) (hn : ∀ (j : Nat) (kls : List (Key × List D)) (l' : Addr) (as : List Addr), ρ[j]? = some (Sl.ne kls) → σ[j]? = some (some (V.ref l')) → NeC K G H l' as kls → l ∉ l' :: as) :
    En K G0 H0 G H (σ.set i (some (.ref l))) (ρ.set i (Sl.ow d)) := by
  refine ⟨by rw [List.length_set, List.length_set, E.len], E.ext, fun j e q => ?_, fun j e q => ?_, fun j a dd fl q => ?_, fun j k e e' a q q' r r' => ?_, fun j kls q => ?_, E.ned_set (fun _ z => nomatch z)⟩
  · rcases set_get? q with ⟨_, _, x⟩ | ⟨ne, q⟩
    · cases x
    · obtain ⟨u, h1, h2⟩ := E.fr j e q
      exact ⟨u, by rw [List.getElem?_set_ne (Ne.symm ne)]; exact h1, h2⟩
  · rcases set_get? q with ⟨rfl, hi, x⟩ | ⟨ne, q⟩
    · cases x
      exact ⟨l, by rw [List.getElem?_set_self (by rw [E.len]; exact hi)], h0, hG, h⟩
    · obtain ⟨l, h1, h2⟩ := E.ow j e q
      exact ⟨l, by rw [List.getElem?_set_ne (Ne.symm ne)]; exact h1, h2⟩
  · rcases set_get? q with ⟨_, _, x⟩ | ⟨ne, q⟩
    · cases x
    · obtain ⟨h1, h2⟩ := E.ex j a dd fl q
      exact ⟨by rw [List.getElem?_set_ne (Ne.symm ne)]; exact h1, h2⟩
  · rcases set_get? q with ⟨rfl, hi, x⟩ | ⟨ne, q⟩
    · rcases set_get? q' with ⟨rfl, _, x⟩ | ⟨ne', q'⟩
      · rfl
      · rw [List.getElem?_set_self (by rw [E.len]; exact hi)] at r
        rw [List.getElem?_set_ne (Ne.symm ne')] at r'
        cases r
        exact absurd r' (hd k e' ne' q')
    · rcases set_get? q' with ⟨rfl, hi, x⟩ | ⟨ne', q'⟩
      · rw [List.getElem?_set_self (by rw [E.len]; exact hi)] at r'
        rw [List.getElem?_set_ne (Ne.symm ne)] at r
        cases r'
        exact absurd r (hd j e ne (by assumption))
      · rw [List.getElem?_set_ne (Ne.symm ne)] at r
        rw [List.getElem?_set_ne (Ne.symm ne')] at r'
        exact E.dis j k e e' a q q' r r'
  · rcases set_get? q with ⟨_, _, x⟩ | ⟨nj, q⟩
    · cases x
    · obtain ⟨l', as, h1, h2, h3⟩ := E.ne j kls q
      have hln := hn j kls l' as q h1 h2
      refine ⟨l', as, by rw [List.getElem?_set_ne (Ne.symm nj)]; exact h1, h2, fun a ha => ?_⟩
      obtain ⟨b1, b2, b3⟩ := h3 a ha
      refine ⟨b1, b2, fun k e z => ?_⟩
      rcases set_get? z with ⟨rfl, hi, _⟩ | ⟨nk, z⟩
      · rw [List.getElem?_set_self (by rw [E.len]; exact hi)]
        intro y
        injection y with y
        injection y with y
        injection y with y
        subst y
        exact hln ha
      · rw [List.getElem?_set_ne (Ne.symm nk)]
        exact b3 k e z
/-- a new owned object -/
theorem En.setN (E : En K G0 H0 G H σ ρ) {l : Addr} {d : D} (i : Nat) (x : Ext G H G' H') (hH : H l = none) (hG : G' l = none) (h : OwnC K G' H' l d) : En K G0 H0 G' H' (σ.set i (some (.ref l))) (ρ.set i (Sl.ow d)) := by
  refine (E.go x).setO i ?_ hG h (fun j e ne q r => ?_) fun j kls l' as q r c hm => ?_
  · cases q : H0 l with
    | none => rfl
    | some o =>
      have := E.ext.hh l o q
      rw [hH] at this; cases this
  · obtain ⟨l', h1, _, _, h4⟩ := E.ow j e q
    obtain ⟨o, ho, ht⟩ := h4.there
    rw [h1] at r
    cases r
    rw [hH] at ho; cases ho
  · obtain ⟨l0, as0, h1, h2, _⟩ := E.ne j kls q
    rw [h1] at r
    cases r
    obtain ⟨⟨es, e1, e2⟩, nd⟩ := h2
    obtain ⟨⟨es', e3, e4⟩, _⟩ := c
    have e5 := x.hh _ _ e1
    rw [e5] at e3
    cases e3
    have e6 := e2.det e4
    subst e6
    obtain ⟨o, ho, _⟩ := (show NeC K G H l' as0 kls from ⟨⟨es, e1, e2⟩, nd⟩).there l hm
    rw [hH] at ho
    cases ho
/-- an owned object is frozen from now on -/
theorem En.freeze (E : En K G0 H0 G H σ ρ) {i : Nat} {d : D} (hi : ρ[i]? = some (Sl.ow d)) : ∃ G', En K G0 H0 G' H σ (ρ.set i (Sl.fr d)) := by
  obtain ⟨l, h1, h2, h3, h4⟩ := E.ow i d hi
  obtain ⟨o, ho, ht⟩ := h4.there
  have gg : ∀ a u, G a = some u → upd G l o a = some u := fun a u e => by
    rw [upd_ne (ne_of_none e h3)]; exact e
  have gh' : GH (upd G l o) H := fun a u r => by
    by_cases ha : a = l
    · subst ha
      rw [upd_same] at r
      cases r
      exact .inl ho
    · rw [upd_ne ha] at r
      exact E.gh a u r
  have hil : i < ρ.length := (List.getElem?_eq_some_iff.mp hi).1
  refine ⟨upd G l o, by rw [List.length_set, E.len], ⟨fun a u e => gg a u (E.ext.gg a u e), E.ext.hh, gh', fun a u e t n => ?_⟩, fun j e q => ?_, fun j e q => ?_, fun j a dd fl q => ?_, fun j k e e' a q q' r r' => ?_, fun j kls q => ?_, E.ned_set (fun _ z => nomatch z)⟩
  · rw [upd_ne (ne_of_none e h2)]; exact E.ext.own a u e t n
  · rcases set_get? q with ⟨rfl, _, x⟩ | ⟨ne, q⟩
    · cases x
      exact ⟨_, h1, h4.dq (GH.of gg) fun u hu => by rw [upd_same]; rw [ho] at hu; exact hu⟩
    · obtain ⟨v, a1, a2⟩ := E.fr j e q
      exact ⟨v, a1, a2.mono (GH.of gg)⟩
  · rcases set_get? q with ⟨_, _, x⟩ | ⟨ne, q⟩
    · cases x
    · obtain ⟨b, a1, a2, a3, a4⟩ := E.ow j e q
      have hb : b ≠ l := by
        rintro rfl
        exact ne (E.dis j i e d b q hi a1 h1)
      exact ⟨b, a1, a2, by rw [upd_ne hb]; exact a3, a4.ext (GH.of gg) rfl⟩
  · rcases set_get? q with ⟨_, _, x⟩ | ⟨ne, q⟩
    · cases x
    · obtain ⟨a1, fs, a2, a3⟩ := E.ex j a dd fl q
      exact ⟨a1, fs, gg _ _ a2, a3.mono (GH.of gg)⟩
  · rcases set_get? q with ⟨_, _, x⟩ | ⟨ne, q⟩
    · cases x
    · rcases set_get? q' with ⟨_, _, x⟩ | ⟨ne', q'⟩
      · cases x
      · exact E.dis j k e e' a q q' r r'
  · rcases set_get? q with ⟨_, _, x⟩ | ⟨nj, q⟩
    · cases x
    · obtain ⟨l', as, c1, c2, c3⟩ := E.ne j kls q
      refine ⟨l', as, c1, c2.go (GH.of gg) fun _ _ => rfl, fun a ha => ?_⟩
      obtain ⟨b1, b2, b3⟩ := c3 a ha
      have hal : a ≠ l := fun z => b3 i d hi (by rw [z]; exact h1)
      refine ⟨b1, by rw [upd_ne hal]; exact b2, fun k e z => ?_⟩
      rcases set_get? z with ⟨_, _, x⟩ | ⟨_, z⟩
      · cases x
      · exact b3 k e z
/-- the owned object of slot i is changed -/
theorem En.write (E : En K G0 H0 G H σ ρ) {i : Nat} {d d' : D} {l : Addr} {o : HO} (hi : ρ[i]? = some (Sl.ow d)) (hl : σ[i]? = some (some (V.ref l))) (h : OwnC K G (upd H l o) l d') : En K G0 H0 G (upd H l o) σ (ρ.set i (Sl.ow d')) := by
  obtain ⟨l', h1, h2, h3, h4⟩ := E.ow i d hi
  rw [hl] at h1
  cases h1
  have hil : i < ρ.length := (List.getElem?_eq_some_iff.mp hi).1
  have ghn : GH G (upd H l o) := fun a u r => by
    have ne : a ≠ l := by
      rintro rfl
      rw [h3] at r; cases r
    rw [upd_ne ne]
    exact E.gh a u r
  refine ⟨by rw [List.length_set, E.len], ⟨E.ext.gg, fun a u e => by rw [upd_ne (ne_of_none e h2)]; exact E.ext.hh a u e, ghn, E.ext.own⟩, fun j e q => ?_, fun j e q => ?_, fun j a dd fl q => ?_, fun j k e e' a q q' r r' => ?_, fun j kls q => ?_, E.ned_set (fun _ z => nomatch z)⟩
  · rcases set_get? q with ⟨_, _, x⟩ | ⟨ne, q⟩
    · cases x
    · exact E.fr j e q
  · rcases set_get? q with ⟨rfl, _, x⟩ | ⟨ne, q⟩
    · cases x
      exact ⟨l, hl, h2, h3, h⟩
    · obtain ⟨b, a1, a2, a3, a4⟩ := E.ow j e q
      have hb : b ≠ l := by
        rintro rfl
        exact ne (E.dis j i e d b q hi a1 hl)
      exact ⟨b, a1, a2, a3, a4.ext (GH.refl G) (upd_ne hb)⟩
  · rcases set_get? q with ⟨_, _, x⟩ | ⟨ne, q⟩
    · cases x
    · exact E.ex j a dd fl q
  · have hx : ∀ {j : Nat} {e : D}, (ρ.set i (Sl.ow d'))[j]? = some (Sl.ow e) → ∃ e', ρ[j]? = some (Sl.ow e') := fun {j e} z => by
      rcases set_get? z with ⟨rfl, _, x⟩ | ⟨ne, z⟩
      · exact ⟨d, hi⟩
      · exact ⟨e, z⟩
    obtain ⟨f, q⟩ := hx q
    obtain ⟨f', q'⟩ := hx q'
    exact E.dis j k f f' a q q' r r'
  · rcases set_get? q with ⟨_, _, x⟩ | ⟨nj, q⟩
    · cases x
    · obtain ⟨l', as, c1, c2, c3⟩ := E.ne j kls q
      refine ⟨l', as, c1, c2.go (GH.refl G) fun a ha => ?_, fun a ha => ?_⟩
      · have hal : a ≠ l := fun z => (c3 a ha).2.2 i d hi (by rw [z]; exact hl)
        exact upd_ne hal
      · obtain ⟨b1, b2, b3⟩ := c3 a ha
        refine ⟨b1, b2, fun k e z => ?_⟩
        rcases set_get? z with ⟨rfl, _, _⟩ | ⟨_, z⟩
        · exact b3 k d hi
        · exact b3 k e z
/-- a slot is forgotten -/
theorem En.drop (E : En K G0 H0 G H σ ρ) {ρ' : List Sl} (hl : ρ'.length = ρ.length) (h : ∀ (i : Nat) (s : Sl), ρ'[i]? = some s → s = Sl.no ∨ ρ[i]? = some s) : En K G0 H0 G H σ ρ' := by
  have hf : ∀ i d, ρ'[i]? = some (Sl.fr d) → ρ[i]? = some (Sl.fr d) := fun i d e => (h i _ e).elim (fun z => nomatch z) id
  have ho : ∀ i d, ρ'[i]? = some (Sl.ow d) → ρ[i]? = some (Sl.ow d) := fun i d e => (h i _ e).elim (fun z => nomatch z) id
  have hx : ∀ (i : Nat) (a dd : Addr) (fl : List (Str × D)), ρ'[i]? = some (Sl.ex a dd fl) → ρ[i]? = some (Sl.ex a dd fl) := fun i a dd fl e => (h i _ e).elim (fun z => nomatch z) id
  have hk : ∀ (i : Nat) (kls : List (Key × List D)), ρ'[i]? = some (Sl.ne kls) → ρ[i]? = some (Sl.ne kls) := fun i kls e => (h i _ e).elim (fun z => nomatch z) id
  exact ⟨E.len.trans hl.symm, E.ext, fun i d e => E.fr i d (hf i d e), fun i d e => E.ow i d (ho i d e), fun i a dd fl e => E.ex i a dd fl (hx i a dd fl e), fun i j d e l q q' => E.dis i j d e l (ho i d q) (ho j e q'), fun i kls e => (E.ne i kls (hk i kls e)).imp fun l z => z.imp fun as z => ⟨z.1, z.2.1, fun a ha => ⟨(z.2.2 a ha).1, (z.2.2 a ha).2.1, fun j e q => (z.2.2 a ha).2.2 j e (ho j e q)⟩⟩, fun i j x y q q' => E.ned i j x y (hk i x q) (hk j y q')⟩
/-- a slot that is written over without a word -/
theorem En.setX (E : En K G0 H0 G H σ ρ) (i : Nat) (v : Option V) : En K G0 H0 G H (σ.set i v) (ρ.set i Sl.no) := by
  refine ⟨by rw [List.length_set, List.length_set, E.len], E.ext, fun j e q => ?_, fun j e q => ?_, fun j a dd fl q => ?_, fun j k e e' l q q' r r' => ?_, E.ne_set (fun _ z => nomatch z) (fun _ z => nomatch z), E.ned_set (fun _ z => nomatch z)⟩
  · rcases set_get? q with ⟨_, _, x⟩ | ⟨ne, q⟩
    · cases x
    · obtain ⟨u, h1, h2⟩ := E.fr j e q
      exact ⟨u, by rw [List.getElem?_set_ne (Ne.symm ne)]; exact h1, h2⟩
  · rcases set_get? q with ⟨_, _, x⟩ | ⟨ne, q⟩
    · cases x
    · obtain ⟨l, h1, h2⟩ := E.ow j e q
      exact ⟨l, by rw [List.getElem?_set_ne (Ne.symm ne)]; exact h1, h2⟩
  · rcases set_get? q with ⟨_, _, x⟩ | ⟨ne, q⟩
    · cases x
    · obtain ⟨h1, h2⟩ := E.ex j a dd fl q
      exact ⟨by rw [List.getElem?_set_ne (Ne.symm ne)]; exact h1, h2⟩
  · rcases set_get? q with ⟨_, _, x⟩ | ⟨ne, q⟩
    · cases x
    · rcases set_get? q' with ⟨_, _, x⟩ | ⟨ne', q'⟩
      · cases x
      · rw [List.getElem?_set_ne (Ne.symm ne)] at r
        rw [List.getElem?_set_ne (Ne.symm ne')] at r'
        exact E.dis j k e e' l q q' r r'
/-- a caught exception comes into slot i -/
theorem En.setE (E : En K G0 H0 G H σ ρ) {a dd : Addr} {fs : List (Str × V)} {fl : List (Str × D)} (i : Nat) (h : G dd = some (.xd fs)) (hf : DqF K G fs fl) : En K G0 H0 G H (σ.set i (some (.ref a))) (ρ.set i (Sl.ex a dd fl)) := by
  have X := E.setX i (some (.ref a))
  refine ⟨by rw [List.length_set, List.length_set, E.len], E.ext, fun j e q => ?_, fun j e q => ?_, fun j b db gl q => ?_, fun j k e e' l q q' r r' => ?_, E.ne_set (fun _ z => nomatch z) (fun _ z => nomatch z), E.ned_set (fun _ z => nomatch z)⟩
  · rcases set_get? q with ⟨_, _, x⟩ | ⟨ne, q⟩
    · cases x
    · exact X.fr j e (by rw [List.getElem?_set_ne (Ne.symm ne)]; exact q)
  · rcases set_get? q with ⟨_, _, x⟩ | ⟨ne, q⟩
    · cases x
    · exact X.ow j e (by rw [List.getElem?_set_ne (Ne.symm ne)]; exact q)
  · rcases set_get? q with ⟨rfl, hi, x⟩ | ⟨ne, q⟩
    · cases x
      exact ⟨by rw [List.getElem?_set_self (by rw [E.len]; exact hi)], fs, h, hf⟩
    · exact X.ex j b db gl (by rw [List.getElem?_set_ne (Ne.symm ne)]; exact q)
  · rcases set_get? q with ⟨_, _, x⟩ | ⟨ne, q⟩
    · cases x
    · rcases set_get? q' with ⟨_, _, x⟩ | ⟨ne', q'⟩
      · cases x
      · exact X.dis j k e e' l (by rw [List.getElem?_set_ne (Ne.symm ne)]; exact q) (by rw [List.getElem?_set_ne (Ne.symm ne')]; exact q') r r'
end
end DL

/-! DL2: what a reading evaluates to, by data (EV, EVN, ET, EA), what a statement does by data (ST), loops, comprehensions, calls. -/
namespace DL
open PySem L2

theorem En.re {K : PySem.W.Frag} {G0 H0 G H : Hp} {σ : St} {ρ : List Sl} (E : En K G0 H0 G H σ ρ) : En K G H0 G H σ ρ :=
  ⟨E.len, ⟨fun _ _ h => h, E.ext.hh, E.ext.gh, fun _ _ _ _ h => h⟩, E.fr, E.ow, E.ex, E.dis, E.ne, E.ned⟩
theorem Ext.back {G0 H0 G1 H1 G2 H2 : Hp} (x : Ext G0 H0 G1 H1) (y : Ext G1 H0 G2 H2) : Ext G0 H0 G2 H2 :=
  ⟨fun a o h => y.gg a o (x.gg a o h), y.hh, y.gh, fun a o h t n => y.own a o h t (x.own a o h t n)⟩
theorem En.back {K : PySem.W.Frag} {G0 H0 G1 H1 G H : Hp} {σ : St} {ρ : List Sl} (x : Ext G0 H0 G1 H1) (E : En K G1 H0 G H σ ρ) : En K G0 H0 G H σ ρ :=
  ⟨E.len, x.back E.ext, E.fr, E.ow, E.ex, E.dis, E.ne, E.ned⟩

section
variable (K : PySem.W.Frag)
def EV (te : TE) (ρ : List Sl) (d : D) : Prop := ∀ (G0 H0 G H : Hp) (σ : St) (Q : VK), En K G0 H0 G H σ ρ → (∀ v G' H', Ext G H G' H' → Dq K G' v d → Q v H') → te σ H Q
def EVN (te : TE) (ρ : List Sl) (d : D) : Prop := ∀ (G0 H0 G H : Hp) (σ : St) (Q : VK), En K G0 H0 G H σ ρ → (∀ l G' H', Ext G H G' H' → H l = none → G' l = none → OwnC K G' H' l d → Q (.ref l) H') → te σ H Q
def ET (tt : TT) (ρ : List Sl) (b : Bool) : Prop := ∀ (G0 H0 G H : Hp) (σ : St) (Q : Bool → Hp → Prop), En K G0 H0 G H σ ρ → (∀ G' H', Ext G H G' H' → Q b H') → tt σ H Q
def EA (ta : TA) (ρ : List Sl) (ds : List D) : Prop := ∀ (G0 H0 G H : Hp) (σ : St) (Q : List V → Hp → Prop), En K G0 H0 G H σ ρ → (∀ vs G' H', Ext G H G' H' → DqA K G' vs ds → Q vs H') → ta σ H Q
def EO (to : TO) (ρ : List Sl) (o : Option Int) : Prop := ∀ (G0 H0 G H : Hp) (σ : St) (Q : Option Int → Hp → Prop), En K G0 H0 G H σ ρ → (∀ G' H', Ext G H G' H' → Q o H') → to σ H Q
/-- a two-place operation on data; its answer an old or frozen thing | a new object -/
def OD (r : R2) (a b d : D) : Prop := ∀ (x y : V) (G H : Hp) (Q : VK), GH G H → Dq K G x a → Dq K G y b → (∀ v G' H', Ext G H G' H' → Dq K G' v d → Q v H') → r x y H Q
def ON (r : R2) (a b d : D) : Prop := ∀ (x y : V) (G H : Hp) (Q : VK), GH G H → Dq K G x a → Dq K G y b → (∀ l G' H', Ext G H G' H' → H l = none → G' l = none → OwnC K G' H' l d → Q (.ref l) H') → r x y H Q
/-- a call by values -/
def CD (r : List V → Hp → VK → Prop) (ds : List D) (d : D) : Prop := ∀ (xs : List V) (G H : Hp) (Q : VK), GH G H → DqA K G xs ds → (∀ v G' H', Ext G H G' H' → Dq K G' v d → Q v H') → r xs H Q
def CN (r : List V → Hp → VK → Prop) (ds : List D) (d : D) : Prop := ∀ (xs : List V) (G H : Hp) (Q : VK), GH G H → DqA K G xs ds → (∀ l G' H', Ext G H G' H' → H l = none → G' l = none → OwnC K G' H' l d → Q (.ref l) H') → r xs H Q
end

section
variable {K : PySem.W.Frag} {ρ : List Sl} {ta tb te : TE} {tt tu : TT} {d d1 d2 : D}
/-- a new object is frozen at once -/
theorem own_frz {G H G' H' : Hp} {l : Addr} (x : Ext G H G' H') (hH : H l = none) (hG : G' l = none) (h : OwnC K G' H' l d) : ∃ G'', Ext G H G'' H' ∧ Dq K G'' (.ref l) d := by
  obtain ⟨o, ho, ht⟩ := h.there
  have gg : ∀ a u, G' a = some u → upd G' l o a = some u := fun a u e => by rw [upd_ne (ne_of_none e hG)]; exact e
  refine ⟨upd G' l o, ⟨fun a u e => gg a u (x.gg a u e), x.hh, fun a u r => ?_, fun a u e t n => ?_⟩, h.dq (GH.of gg) fun u hu => by rw [upd_same]; rw [ho] at hu; exact hu⟩
  · by_cases ha : a = l
    · subst ha
      rw [upd_same] at r
      cases r
      exact .inl ho
    · rw [upd_ne ha] at r
      exact x.gh a u r
  · rw [upd_ne (ne_of_none e hH)]; exact x.own a u e t n
theorem ev_N (h : EVN K te ρ d) : EV K te ρ d := fun G0 H0 G H σ Q E q => h G0 H0 G H σ Q E fun l G' H' x hH hG ho => by
  obtain ⟨G'', x', hd⟩ := own_frz x hH hG ho
  exact q _ _ _ x' hd
theorem ev_var {i : Nat} (h : ρ[i]? = some (.fr d)) : EV K (tVar i) ρ d := fun G0 H0 G H σ Q E q => by
  obtain ⟨v, h1, h2⟩ := E.fr i d h
  exact ⟨v, h1, q v G H (.refl E.gh) h2⟩
theorem ev_int {i : Int} : EV K (tC (.int i)) ρ (.int i) := fun _ _ G H _ _ E q => q _ G H (.refl E.gh) (.int i)
theorem ev_str {x : Str} : EV K (tC (.str x)) ρ (.str x) := fun _ _ G H _ _ E q => q _ G H (.refl E.gh) (.str x)
theorem ev_bl {b : Bool} : EV K (tC (.bl b)) ρ (.bool b) := fun _ _ G H _ _ E q => q _ G H (.refl E.gh) (.bl b)
theorem ev_non : EV K (tC .non) ρ .none := fun _ _ G H _ _ E q => q _ G H (.refl E.gh) .non
/-- a constant of the module -/
theorem ev_glob {v : V} (h : ∀ G, Dq K G v d) : EV K (tC v) ρ d := fun _ _ G H _ _ E q => q _ G H (.refl E.gh) (h G)
theorem ev_op {r : R2} (ha : EV K ta ρ d1) (hb : EV K tb ρ d2) (ho : OD K r d1 d2 d) : EV K (tOp r ta tb) ρ d := fun G0 H0 G H σ Q E q =>
  ha G0 H0 G H σ _ E fun x G1 H1 e1 h1 => hb G0 H0 G1 H1 σ _ (E.go e1) fun y G2 H2 e2 h2 => ho x y G2 H2 Q e2.gh (h1.mono e2.g) h2 fun v G3 H3 e3 h3 => q v G3 H3 ((e1.trans e2).trans e3) h3
theorem en_op {r : R2} (ha : EV K ta ρ d1) (hb : EV K tb ρ d2) (ho : ON K r d1 d2 d) : EVN K (tOp r ta tb) ρ d := fun G0 H0 G H σ Q E q =>
  ha G0 H0 G H σ _ E fun x G1 H1 e1 h1 => hb G0 H0 G1 H1 σ _ (E.go e1) fun y G2 H2 e2 h2 => ho x y G2 H2 Q e2.gh (h1.mono e2.g) h2 fun l G3 H3 e3 hH hG h3 => by
    refine q l G3 H3 ((e1.trans e2).trans e3) ?_ hG h3
    cases w : H l with
    | none => rfl
    | some o => have := e2.hh _ _ (e1.hh _ _ w); rw [hH] at this; cases this
theorem ev_un {r : V → Hp → VK → Prop} (ha : EV K ta ρ d1) (ho : ∀ (x : V) (G H : Hp) (Q : VK), GH G H → Dq K G x d1 → (∀ v G' H', Ext G H G' H' → Dq K G' v d → Q v H') → r x H Q) : EV K (tUn r ta) ρ d := fun G0 H0 G H σ Q E q =>
  ha G0 H0 G H σ _ E fun x G1 H1 e1 h1 => ho x G1 H1 Q e1.gh h1 fun v G3 H3 e3 h3 => q v G3 H3 (e1.trans e3) h3
theorem ev_neg {i : Int} (ha : EV K ta ρ (.int i)) : EV K (tUn (rU fun i => .int (-i)) ta) ρ (.int (-i)) := ev_un ha fun x G H Q g hx q => by
  cases hx
  exact ⟨i, rfl, q _ G H (.refl g) (.int _)⟩
theorem ea_nil : EA K tNil ρ [] := fun _ _ G H _ _ E q => q [] G H (.refl E.gh) .nil
theorem ea_cons {tr : TA} {ds : List D} (h : EV K ta ρ d) (hr : EA K tr ρ ds) : EA K (tCons ta tr) ρ (d :: ds) := fun G0 H0 G H σ Q E q =>
  h G0 H0 G H σ _ E fun x G1 H1 e1 h1 => hr G0 H0 G1 H1 σ _ (E.go e1) fun xs G2 H2 e2 h2 => q _ G2 H2 (e1.trans e2) (.cons (h1.mono e2.g) h2)
theorem ev_cb {r : List V → Hp → VK → Prop} {t : TA} {ds : List D} (h : EA K t ρ ds) (hc : CD K r ds d) : EV K (tCB r t) ρ d := fun G0 H0 G H σ Q E q =>
  h G0 H0 G H σ _ E fun xs G1 H1 e1 h1 => hc xs G1 H1 Q e1.gh h1 fun v G2 H2 e2 h2 => q v G2 H2 (e1.trans e2) h2
theorem en_cb {r : List V → Hp → VK → Prop} {t : TA} {ds : List D} (h : EA K t ρ ds) (hc : CN K r ds d) : EVN K (tCB r t) ρ d := fun G0 H0 G H σ Q E q =>
  h G0 H0 G H σ _ E fun xs G1 H1 e1 h1 => hc xs G1 H1 Q e1.gh h1 fun l G2 H2 e2 hH hG h2 => by
    refine q l G2 H2 (e1.trans e2) ?_ hG h2
    cases w : H l with
    | none => rfl
    | some o => have := e1.hh _ _ w; rw [hH] at this; cases this
theorem ev_tup {t : TA} {ds : List D} (h : EA K t ρ ds) (hl : ds.length ≤ sizeLine) : EV K (tTup t) ρ (.tuple ds) := fun G0 H0 G H σ Q E q =>
  h G0 H0 G H σ _ E fun xs G1 H1 e1 h1 => ⟨by rw [h1.length]; exact hl, fun p hp => by
    have x := Ext.new (o := .tup xs) e1.gh hp
    exact q _ _ _ (e1.trans x) (.tup (SqT.of upd_same) (h1.mono x.g))⟩
theorem en_lst {t : TA} {ds : List D} (h : EA K t ρ ds) (hl : ds.length ≤ sizeLine) : EVN K (tLst t) ρ (.list ds) := fun G0 H0 G H σ Q E q =>
  h G0 H0 G H σ _ E fun xs G1 H1 e1 h1 => ⟨by rw [h1.length]; exact hl, fun p hp => by
    have x := Ext.fresh (o := .lst xs) e1.gh hp
    refine q _ _ _ (e1.trans x) ?_ (e1.gh.none hp) (.lst upd_same h1)
    cases w : H p with
    | none => rfl
    | some o => have := e1.hh _ _ w; rw [hp] at this; cases this⟩

/-! ### tests -/
theorem et_test {b : Bool} (h : EV K te ρ (.bool b)) : ET K (tTest te) ρ b := fun G0 H0 G H σ Q E q => h G0 H0 G H σ _ E fun v G1 H1 e1 h1 => by
  cases h1
  exact ⟨b, rfl, q G1 H1 e1⟩
theorem et_B {b : Bool} (h : EV K te ρ (.bool b)) : ET K (tB te) ρ b := fun G0 H0 G H σ Q E q => h G0 H0 G H σ _ E fun v G1 H1 e1 h1 => by
  cases h1
  exact ⟨b, rfl, q G1 H1 e1⟩
theorem et_not {b : Bool} (h : ET K tt ρ b) : ET K (tNot tt) ρ (!b) := fun G0 H0 G H σ Q E q => h G0 H0 G H σ _ E fun G1 H1 e1 => q G1 H1 e1
theorem et_and {a b : Bool} (h : ET K tt ρ a) (h2 : a = true → ET K tu ρ b) : ET K (tAnd tt tu) ρ (a && b) := fun G0 H0 G H σ Q E q => h G0 H0 G H σ _ E fun G1 H1 e1 => by
  cases a with
  | true => exact h2 rfl G0 H0 G1 H1 σ Q (E.go e1) fun G2 H2 e2 => q G2 H2 (e1.trans e2)
  | false => exact q G1 H1 e1
theorem et_or {a b : Bool} (h : ET K tt ρ a) (h2 : a = false → ET K tu ρ b) : ET K (tOr tt tu) ρ (a || b) := fun G0 H0 G H σ Q E q => h G0 H0 G H σ _ E fun G1 H1 e1 => by
  cases a with
  | false => exact h2 rfl G0 H0 G1 H1 σ Q (E.go e1) fun G2 H2 e2 => q G2 H2 (e1.trans e2)
  | true => exact q G1 H1 e1
theorem et_is {a b : Bool} (h : ET K tt ρ a) (e : a = b) : ET K tt ρ b := e ▸ h
theorem ev_is {e : D} (h : EV K te ρ d) (q : d = e) : EV K te ρ e := q ▸ h
theorem en_is {e : D} (h : EVN K te ρ d) (q : d = e) : EVN K te ρ e := q ▸ h
theorem ea_is {ta : TA} {ds es : List D} (h : EA K ta ρ ds) (q : ds = es) : EA K ta ρ es := q ▸ h
theorem ev_andV {a b : Bool} (h1 : EV K ta ρ (.bool a)) (h2 : a = true → EV K tb ρ (.bool b)) : EV K (tAndV ta tb) ρ (.bool (a && b)) := fun G0 H0 G H σ Q E q => h1 G0 H0 G H σ _ E fun v G1 H1 e1 z => by
  cases z
  refine ⟨a, rfl, ?_⟩
  cases a with
  | true => exact h2 rfl G0 H0 G1 H1 σ Q (E.go e1) fun v G2 H2 e2 => q v G2 H2 (e1.trans e2)
  | false => exact q _ G1 H1 e1 (.bl false)
theorem ev_orV {a b : Bool} (h1 : EV K ta ρ (.bool a)) (h2 : a = false → EV K tb ρ (.bool b)) : EV K (tOrV ta tb) ρ (.bool (a || b)) := fun G0 H0 G H σ Q E q => h1 G0 H0 G H σ _ E fun v G1 H1 e1 z => by
  cases z
  refine ⟨a, rfl, ?_⟩
  cases a with
  | false => exact h2 rfl G0 H0 G1 H1 σ Q (E.go e1) fun v G2 H2 e2 => q v G2 H2 (e1.trans e2)
  | true => exact q _ G1 H1 e1 (.bl true)
theorem ev_notV {a : Bool} (h1 : EV K ta ρ (.bool a)) : EV K (tNotV ta) ρ (.bool (!a)) := fun G0 H0 G H σ Q E q => h1 G0 H0 G H σ _ E fun v G1 H1 e1 z => by
  cases z
  exact ⟨a, rfl, q _ G1 H1 e1 (.bl _)⟩
theorem ev_if {b : Bool} (h : ET K tt ρ b) (h1 : b = true → EV K ta ρ d) (h2 : b = false → EV K tb ρ d) : EV K (tIf tt ta tb) ρ d := fun G0 H0 G H σ Q E q => h G0 H0 G H σ _ E fun G1 H1 e1 => by
  cases b with
  | true => exact h1 rfl G0 H0 G1 H1 σ Q (E.go e1) fun v G2 H2 e2 => q v G2 H2 (e1.trans e2)
  | false => exact h2 rfl G0 H0 G1 H1 σ Q (E.go e1) fun v G2 H2 e2 => q v G2 H2 (e1.trans e2)
/-- by cases, the answer told by the test -/
theorem ev_ite {b : Bool} (h : ET K tt ρ b) (h1 : b = true → EV K ta ρ d1) (h2 : b = false → EV K tb ρ d2) : EV K (tIf tt ta tb) ρ (if b = true then d1 else d2) := by
  cases b with
  | true => exact ev_if h (fun _ => h1 rfl) (fun z => nomatch z)
  | false => exact ev_if h (fun z => nomatch z) (fun _ => h2 rfl)
end

/-! ### statements -/
inductive Oc where
  | nx (ρ : List Sl)
  | rt (d : D)
  | bk (ρ : List Sl)
  | ct (ρ : List Sl)
  /-- an exception of the class at C leaves, with these fields -/
  | ex (C : Addr) (fl : List (Str × D))
/-- the ends keep P -/
structure Fin (K : PySem.W.Frag) (Ex : XK) (G0 H0 : Hp) (P : Oc → Prop) (D : Ends) : Prop where
  nx : ∀ ρ' σ' G' H', P (.nx ρ') → En K G0 H0 G' H' σ' ρ' → D.nx σ' H'
  rt : ∀ d v G' H', P (.rt d) → Ext G0 H0 G' H' → Dq K G' v d → D.rt v H'
  bk : ∀ ρ' σ' G' H', P (.bk ρ') → En K G0 H0 G' H' σ' ρ' → D.bk σ' H'
  ct : ∀ ρ' σ' G' H', P (.ct ρ') → En K G0 H0 G' H' σ' ρ' → D.ct σ' H'
  ex : ∀ C fl dd fs G' H', P (.ex C fl) → Ext G0 H0 G' H' → G' dd = some (.xd fs) → DqF K G' fs fl → Ex (.ref C) (some dd) H'
def ST (K : PySem.W.Frag) (Ex : XK) (ts : TS) (ρ : List Sl) (P : Oc → Prop) : Prop := ∀ (G0 H0 G H : Hp) (σ : St) (D : Ends), En K G0 H0 G H σ ρ → Fin K Ex G0 H0 P D → ts D σ H
section
variable {K : PySem.W.Frag} {Ex : XK} {ρ : List Sl} {ta tb te : TE} {tt tu : TT} {d d1 d2 : D} {t u : TS} {P P' : Oc → Prop}
theorem Fin.mono {G0 H0 : Hp} {D : Ends} (f : Fin K Ex G0 H0 P' D) (k : ∀ o, P o → P' o) : Fin K Ex G0 H0 P D :=
  ⟨fun _ _ _ _ p => f.nx _ _ _ _ (k _ p), fun _ _ _ _ p => f.rt _ _ _ _ (k _ p), fun _ _ _ _ p => f.bk _ _ _ _ (k _ p), fun _ _ _ _ p => f.ct _ _ _ _ (k _ p), fun _ _ _ _ _ _ p => f.ex _ _ _ _ _ _ (k _ p)⟩
theorem ST.mono (h : ST K Ex t ρ P) (k : ∀ o, P o → P' o) : ST K Ex t ρ P' := fun G0 H0 G H σ D E f => h G0 H0 G H σ D E (f.mono k)
def seqP (K : PySem.W.Frag) (Ex : XK) (u : TS) (P : Oc → Prop) : Oc → Prop
  | .nx ρ => ST K Ex u ρ P
  | o => P o
theorem st_seq (h : ST K Ex t ρ (seqP K Ex u P)) : ST K Ex (tSeq t u) ρ P := fun G0 H0 G H σ D E f =>
  h G0 H0 G H σ { D with nx := u D } E ⟨fun ρ' σ' G' H' p E' => p G0 H0 G' H' σ' D E' f, f.rt, f.bk, f.ct, f.ex⟩
theorem st_next (h : P (.nx ρ)) : ST K Ex tNext ρ P := fun G0 H0 G H σ D E f => f.nx ρ σ G H h E
theorem st_break (h : P (.bk ρ)) : ST K Ex tBreak ρ P := fun G0 H0 G H σ D E f => f.bk ρ σ G H h E
theorem st_cont (h : P (.ct ρ)) : ST K Ex tCont ρ P := fun G0 H0 G H σ D E f => f.ct ρ σ G H h E
theorem st_asg {i : Nat} (h : EV K te ρ d) (q : P (.nx (ρ.set i (.fr d)))) : ST K Ex (tAsg te (gName i)) ρ P := fun G0 H0 G H σ D E f =>
  h G0 H0 G H σ _ E fun v G' H' x hd => f.nx _ _ G' H' q ((E.go x).setF i hd)
theorem st_asgN {i : Nat} (h : EVN K te ρ d) (q : P (.nx (ρ.set i (.ow d)))) : ST K Ex (tAsg te (gName i)) ρ P := fun G0 H0 G H σ D E f =>
  h G0 H0 G H σ _ E fun l G' H' x hH hG ho => f.nx _ _ G' H' q (E.setN i x hH hG ho)
theorem st_drop (h : EV K te ρ d) (q : P (.nx ρ)) : ST K Ex (tDrop te) ρ P := fun G0 H0 G H σ D E f =>
  h G0 H0 G H σ _ E fun v G' H' x hd => f.nx _ _ G' H' q (E.go x)
theorem st_ret (h : EV K te ρ d) (q : P (.rt d)) : ST K Ex (tRet te) ρ P := fun G0 H0 G H σ D E f =>
  h G0 H0 G H σ _ E fun v G' H' x hd => f.rt d v G' H' q (E.go x).ext hd
theorem st_retN (q : P (.rt .none)) : ST K Ex tRetN ρ P := fun G0 H0 G H σ D E f => f.rt .none .non G H q E.ext .non
theorem st_if {b : Bool} (h : ET K tt ρ b) (h1 : b = true → ST K Ex t ρ P) (h2 : b = false → ST K Ex u ρ P) : ST K Ex (tIfS tt t u) ρ P := fun G0 H0 G H σ D E f =>
  h G0 H0 G H σ _ E fun G' H' x => by
    cases b with
    | true => exact h1 rfl G0 H0 G' H' σ D (E.go x) f
    | false => exact h2 rfl G0 H0 G' H' σ D (E.go x) f
theorem st_yes (h : ET K tt ρ true) (h1 : ST K Ex t ρ P) : ST K Ex (tIfS tt t u) ρ P := st_if h (fun _ => h1) (fun z => nomatch z)
theorem st_no (h : ET K tt ρ false) (h1 : ST K Ex u ρ P) : ST K Ex (tIfS tt t u) ρ P := st_if h (fun z => nomatch z) (fun _ => h1)
/-- the owned list of slot i is frozen from here on -/
theorem st_frz {i : Nat} (hi : ρ[i]? = some (.ow d)) (h : ST K Ex t (ρ.set i (.fr d)) P) : ST K Ex t ρ P := fun G0 H0 G H σ D E f => by
  obtain ⟨G', E'⟩ := E.freeze hi
  exact h G0 H0 G' H σ D E' f
theorem st_forget {ρ' : List Sl} (hl : ρ'.length = ρ.length) (hf : ∀ (i : Nat) (s : Sl), ρ'[i]? = some s → s = Sl.no ∨ ρ[i]? = some s) (h : ST K Ex t ρ' P) : ST K Ex t ρ P := fun G0 H0 G H σ D E f =>
  h G0 H0 G H σ D (E.drop hl hf) f

/-! ### targets -/
/-- the slots ts take what d is made of; ρ' behind it -/
def GT (K : PySem.W.Frag) (g : TG) (ρ : List Sl) (d : D) (ρ' : List Sl) (ts : List Nat) : Prop := ∀ (G0 H0 G H : Hp) (σ : St) (v : V) (Q : St → Hp → Prop), En K G0 H0 G H σ ρ → Dq K G v d →
  (∀ σ', En K G0 H0 G H σ' ρ' → σ'.length = σ.length → (∀ k, k ∉ ts → σ'[k]? = σ[k]?) → Q σ' H) → g v σ H Q
def GTs (K : PySem.W.Frag) (g : TGs) (ρ : List Sl) (ds : List D) (ρ' : List Sl) (ts : List Nat) : Prop := ∀ (G0 H0 G H : Hp) (σ : St) (vs : List V) (Q : St → Hp → Prop), En K G0 H0 G H σ ρ → DqA K G vs ds →
  (∀ σ', En K G0 H0 G H σ' ρ' → σ'.length = σ.length → (∀ k, k ∉ ts → σ'[k]? = σ[k]?) → Q σ' H) → g vs σ H Q
theorem gt_name {i : Nat} : GT K (gName i) ρ d (ρ.set i (.fr d)) [i] := fun G0 H0 G H σ v Q E hd q =>
  q _ (E.setF i hd) (by rw [List.length_set]) fun k hk => List.getElem?_set_ne (by simpa using fun e => hk (by simp [e]))
theorem gts_nil : GTs K gNil ρ [] ρ [] := fun G0 H0 G H σ vs Q E hd q => by
  cases hd
  exact ⟨rfl, q σ E rfl fun _ _ => rfl⟩
theorem gts_cons {g : TG} {gs : TGs} {ρ1 ρ2 : List Sl} {ds : List D} {ts us : List Nat} (h : GT K g ρ d ρ1 ts) (h2 : GTs K gs ρ1 ds ρ2 us) : GTs K (gCons g gs) ρ (d :: ds) ρ2 (ts ++ us) := fun G0 H0 G H σ vs Q E hd q => by
  cases hd with
  | cons a b => exact ⟨_, _, rfl, h G0 H0 G H σ _ _ E a fun σ1 E1 l1 k1 => h2 G0 H0 G H σ1 _ Q E1 b fun σ2 E2 l2 k2 => q σ2 E2 (l2.trans l1) fun k hk => (k2 k fun z => hk (List.mem_append_right _ z)).trans (k1 k fun z => hk (List.mem_append_left _ z))⟩
theorem gt_tup {gs : TGs} {ρ' : List Sl} {ds : List D} {ts : List Nat} {n : Nat} (hn : ds.length = n) (h : GTs K gs ρ ds ρ' ts) : GT K (gTup K n gs) ρ (.tuple ds) ρ' ts := fun G0 H0 G H σ v Q E hd q => by
  cases hd with
  | tup a b => exact ⟨_, _, rfl, E.gh.t a, b.length.trans hn, h G0 H0 G H σ _ Q E b q⟩
theorem st_asgG {g : TG} {ρ' : List Sl} {ts : List Nat} (h : EV K te ρ d) (hg : GT K g ρ d ρ' ts) (q : P (.nx ρ')) : ST K Ex (tAsg te g) ρ P := fun G0 H0 G H σ D E f =>
  h G0 H0 G H σ _ E fun v G' H' x hd => hg G0 H0 G' H' σ v _ (E.go x) hd fun σ' E' _ _ => f.nx _ _ G' H' q E'

/-! ### what is walked -/
def EI (K : PySem.W.Frag) (wi : TI) (ρ : List Sl) (n : Nat) (item : Nat → D) : Prop := ∀ (G0 H0 G H : Hp) (σ : St) (R : It → Hp → Prop), En K G0 H0 G H σ ρ →
  (∀ J G' H' Gd Y, Ext G H G' H' → Walk J n Gd Y → (∀ G2 H2, (∀ a o, G' a = some o → G2 a = some o) → GH G2 H2 → Gd H2) →
    (∀ i G2 H2 x H3, i < n → (∀ a o, G' a = some o → G2 a = some o) → GH G2 H2 → Y i H2 x H3 → ∃ G3, Ext G2 H2 G3 H3 ∧ Dq K G3 x (item i)) → R J H') → wi σ H R
/-- the ends of a loop's turn -/
def loopP (Q : List Sl → Prop) (P : Oc → Prop) : Oc → Prop
  | .nx ρ => Q ρ
  | .ct ρ => Q ρ
  | .bk ρ => P (.nx ρ)
  | .rt d => P (.rt d)
  | .ex C fl => P (.ex C fl)
theorem st_for {wi : TI} {g : TG} {n : Nat} {item : Nat → D} (hi : EI K wi ρ n item) (I : Nat → List Sl → Prop) (h0 : I 0 ρ)
    (hs : ∀ i ρ1, i < n → I i ρ1 → ∃ ρ2 ts, GT K g ρ1 (item i) ρ2 ts ∧ ST K Ex t ρ2 (loopP (I (i + 1)) P))
    (hd : ∀ ρ1, I n ρ1 → P (.nx ρ1)) : ST K Ex (tFor wi g t) ρ P := fun G0 H0 G H σ D E f =>
  hi G0 H0 G H σ _ E fun J G1 H1 Gd Y x w hG hY => by
    have E1 := E.go x
    refine for_it w (fun i σ' H' => ∃ G' ρ', En K G1 H0 G' H' σ' ρ' ∧ I i ρ') ⟨G1, ρ, E1.re, h0⟩ (fun i σ' H' _ ⟨G', ρ', E', _⟩ => hG G' H' E'.ext.gg E'.gh) (fun i y σ' H' H3 hi ⟨G', ρ', E', p⟩ hy => ?_) (fun σ' H' ⟨G', ρ', E', p⟩ => f.nx ρ' σ' G' H' (hd ρ' p) (E'.back E1.ext))
    obtain ⟨G3, x3, hdq⟩ := hY i G' H' y H3 hi E'.ext.gg E'.gh hy
    obtain ⟨ρ2, ts, hg, hb⟩ := hs i ρ' hi p
    exact hg G1 H0 G3 H3 σ' y _ (E'.go x3) hdq fun σ2 E2 _ _ => hb G1 H0 G3 H3 σ2 _ E2 ⟨fun ρ4 σ4 G4 H4 p4 E4 => ⟨G4, ρ4, E4, p4⟩,
      fun d v G4 H4 p4 x4 hd4 => f.rt d v G4 H4 p4 (E1.ext.back x4) hd4, fun ρ4 σ4 G4 H4 p4 E4 => f.nx ρ4 σ4 G4 H4 p4 (E4.back E1.ext), fun ρ4 σ4 G4 H4 p4 E4 => ⟨G4, ρ4, E4, p4⟩,
      fun C fl dd fs G4 H4 p4 x4 h1 h2 => f.ex C fl dd fs G4 H4 p4 (E1.ext.back x4) h1 h2⟩
theorem st_while {I : Nat → List Sl → Prop} (m : Nat) (h0 : I m ρ)
    (hs : ∀ m ρ1, I m ρ1 → ∃ b, ET K tt ρ1 b ∧ (b = true → ST K Ex t ρ1 (loopP (fun ρ3 => ∃ m', m' < m ∧ I m' ρ3) P)) ∧ (b = false → P (.nx ρ1))) : ST K Ex (tWhile tt t) ρ P := fun G0 H0 G H σ D E f => by
  refine ⟨fun m σ' H' => ∃ G' ρ', En K G0 H0 G' H' σ' ρ' ∧ I m ρ', ⟨m, G, ρ, E, h0⟩, fun m σ' H' ⟨G', ρ', E', p⟩ => ?_⟩
  obtain ⟨b, hb, h1, h2⟩ := hs m ρ' p
  refine hb G0 H0 G' H' σ' _ E' fun G2 H2 x => ?_
  cases b with
  | false => exact f.nx ρ' σ' G2 H2 (h2 rfl) (E'.go x)
  | true =>
    refine ⟨fun σ3 H3 => ∃ m', m' < m ∧ ∃ G3 ρ3, En K G0 H0 G3 H3 σ3 ρ3 ∧ I m' ρ3, fun σ3 H3 ⟨m', lt, q⟩ => ⟨m', lt, q⟩, ?_⟩
    exact h1 rfl G0 H0 G2 H2 σ' _ (E'.go x) ⟨fun ρ4 σ4 G4 H4 ⟨m', lt, p4⟩ E4 => ⟨m', lt, G4, ρ4, E4, p4⟩, f.rt, fun ρ4 σ4 G4 H4 p4 E4 => f.nx ρ4 σ4 G4 H4 p4 E4, fun ρ4 σ4 G4 H4 ⟨m', lt, p4⟩ E4 => ⟨m', lt, G4, ρ4, E4, p4⟩, f.ex⟩
end
end DL

/-! DL3: operators, comparisons, subscripts, built-ins, by data. -/
namespace DL
open PySem L2

/-! ### + -/
def rAddU (K : PySem.W.Frag) : R2 := fun x y H Q => rI0 (fun i j => .int (i + j)) x y H Q ∨ (fun x y H Q => (∃ i j, x = .str i ∧ y = .str j ∧ i.length + j.length ≤ sizeLine ∧ Q (.str (i ++ j)) H) ∨ (fun x y H Q => rCat x y H Q ∨ rCatA K x y H Q) x y H Q) x y H Q
theorem op_addU {X : Cx} : OpR X (binaryOp .Add) (rAddU X.K) := op_add.or (op_add_str.or (op_cat.or op_catA))
section
variable {K : PySem.W.Frag} {ρ : List Sl} {ta tb te : TE} {i j : Int}
theorem od_addI : OD K (rAddU K) (.int i) (.int j) (.int (i + j)) := fun x y G H Q g hx hy q => by
  cases hx; cases hy
  exact .inl ⟨i, j, rfl, rfl, q _ G H (.refl g) (.int _)⟩
theorem od_addS {a b : Str} (h : a.length + b.length ≤ sizeLine) : OD K (rAddU K) (.str a) (.str b) (.str (a ++ b)) := fun x y G H Q g hx hy q => by
  cases hx; cases hy
  exact .inr (.inl ⟨a, b, rfl, rfl, h, q _ G H (.refl g) (.str _)⟩)
theorem on_addL {a b : List D} (h : a.length + b.length ≤ sizeLine) : ON K (rAddU K) (.list a) (.list b) (.list (a ++ b)) := fun x y G H Q g hx hy q => by
  cases hx with
  | lst ha ra => cases hy with
    | lst hb rb =>
      refine .inr (.inr (.inl ⟨_, _, _, _, rfl, rfl, g.lst ha, g.lst hb, by rw [ra.length, rb.length]; exact h, fun p hp => ?_⟩))
      exact q p G _ (.fresh g hp) hp (g.none hp) (.lst upd_same (ra.append rb))
theorem od_addT {a b : List D} (h : a.length + b.length ≤ sizeLine) : OD K (rAddU K) (.tuple a) (.tuple b) (.tuple (a ++ b)) := fun x y G H Q g hx hy q => by
  cases hx with
  | tup ha ra => cases hy with
    | tup hb rb =>
      refine .inr (.inr (.inr ⟨_, _, _, _, rfl, rfl, g.t ha, g.t hb, by rw [ra.length, rb.length]; exact h, fun e => ?_, fun n e => ?_, fun n1 n2 p hp => ?_⟩))
      · subst e
        cases ra
        exact q _ G H (.refl g) (.tup hb rb)
      · subst e
        cases rb
        rw [List.append_nil] at q
        exact q _ G H (.refl g) (.tup ha ra)
      · have rr := ra.append rb
        exact q _ _ _ (Ext.new g hp) (.tup (SqT.of upd_same) (rr.mono (Ext.new g hp).g))
/-! ### -, *, //, %, ** -/
abbrev rSubU : R2 := rI0 fun i j => .int (i - j)
theorem od_sub : OD K rSubU (.int i) (.int j) (.int (i - j)) := fun x y G H Q g hx hy q => by
  cases hx; cases hy
  exact ⟨i, j, rfl, rfl, q _ G H (.refl g) (.int _)⟩
abbrev rModU : R2 := rI (fun _ j => 0 < j) fun i j => .int (i % j)
theorem od_mod (h : 0 < j) : OD K rModU (.int i) (.int j) (.int (i % j)) := fun x y G H Q g hx hy q => by
  cases hx; cases hy
  exact ⟨i, j, rfl, rfl, h, q _ G H (.refl g) (.int _)⟩
abbrev rDivU : R2 := rI CDiv fun i j => .int (i / j)
theorem od_div (h : 0 < j ∧ j < 1073741824) : OD K rDivU (.int i) (.int j) (.int (i / j)) := fun x y G H Q g hx hy q => by
  cases hx; cases hy
  exact ⟨i, j, rfl, rfl, h, q _ G H (.refl g) (.int _)⟩
abbrev rPowU : R2 := rI CPow fun i j => .int (i ^ j.toNat)
theorem od_pow (h : 0 ≤ j ∧ j ≤ 1000000 ∧ i.natAbs < 2 ^ 64) : OD K rPowU (.int i) (.int j) (.int (i ^ j.toNat)) := fun x y G H Q g hx hy q => by
  cases hx; cases hy
  exact ⟨i, j, rfl, rfl, h, q _ G H (.refl g) (.int _)⟩
/-- k times the text -/
def repS (z : Str) (k : Int) : Str := ⟨(List.replicate k.toNat z.cps.toList).flatten.toArray⟩
theorem foldl_reps (a : List Nat) : ∀ (m : Nat) (b : List Nat), List.foldl (fun x1 x2 => x1 ++ x2) b.toArray (List.replicate m a.toArray) = (b ++ (List.replicate m a).flatten).toArray
  | 0, b => by simp
  | m + 1, b => by
    rw [List.replicate_succ, List.foldl_cons]
    have e : b.toArray ++ a.toArray = (b ++ a).toArray := by simp
    rw [e, foldl_reps a m (b ++ a), List.replicate_succ, List.flatten_cons, List.append_assoc]
def rMulS : R2 := fun x y H Q => ∃ z k, x = .str z ∧ y = .int k ∧ -(2 ^ 63) ≤ k ∧ k < 2 ^ 63 ∧ z.length * k.toNat ≤ sizeLine ∧ Q (.str (repS z k)) H
theorem op_mulS {X : Cx} : OpR X (binaryOp .Mult) rMulS := by
  intro pins s σ H x y v u Q I rx ry h
  obtain ⟨z, k, rfl, rfl, h1, h2, h3, q⟩ := h
  obtain ⟨t, rfl⟩ := rx
  obtain ⟨t', rfl⟩ := ry
  have hs : (sizeLine : Nat) = 16777216 := sizeLine_eq
  refine PySem.P.mul_str ?_ ?_ ?_ ?_
  · rw [decide_eq_false (by omega), decide_eq_false (by omega)]; rfl
  · intro a b c
    have hk : 1 ≤ k := by omega
    have hz : z.length ≠ 0 := by
      intro e
      rw [e] at b
      simp at b
    have h4 : (z.length : Int) * k ≤ 16777216 := by
      have : ((z.length * k.toNat : Nat) : Int) ≤ 16777216 := by omega
      rw [Int.natCast_mul] at this
      have e : ((k.toNat : Nat) : Int) = k := by omega
      rw [e] at this
      exact this
    have h5 : (z.length : Int) ≤ (2 ^ 63 - 1) / k := by
      rw [Int.le_ediv_iff_mul_le (by omega)]
      omega
    omega
  · intro a b
    unfold PySem.Builtin.Str.tooLong
    rw [sizeLine_eq] at h3
    simp only [decide_eq_false_iff_not, gt_iff_lt, Nat.not_lt, sizeLine_eq]
    omega
  · by_cases a : k < 1
    · rw [if_pos a]
      have e : repS z k = Str.empty := by
        unfold repS
        have : k.toNat = 0 := by omega
        rw [this]
        rfl
      rw [e] at q
      exact ⟨by decide, .str _, H, I.tok _, ⟨_, rfl⟩, q⟩
    · rw [if_neg a]
      by_cases b : (k == 1 || z.length == 0) = true
      · rw [if_pos b]
        have e : repS z k = z := by
          unfold repS
          cases z with
          | mk cps =>
          rcases Bool.or_eq_true_iff.mp b with b | b
          · have : k.toNat = 1 := by
              have := eq_of_beq b
              omega
            rw [this]
            simp
          · have e : cps.size = 0 := eq_of_beq b
            have e2 : cps = #[] := Array.eq_empty_of_size_eq_zero e
            subst e2
            simp
        rw [e] at q
        exact ⟨.str z, H, I, ⟨_, rfl⟩, q⟩
      · rw [if_neg b]
        have e : repS z k = ⟨(List.replicate k.toNat z.cps).foldl (· ++ ·) #[]⟩ := by
          unfold repS
          congr 1
          have := foldl_reps z.cps.toList k.toNat []
          rw [List.nil_append] at this
          rw [← this]
        rw [e] at q
        refine ⟨?_, .str _, H, I.tok _, ⟨_, rfl⟩, q⟩
        have : (repS z k).length ≤ sizeLine := by
          unfold repS Str.length
          rw [List.size_toArray]
          have : ∀ m : Nat, ((List.replicate m z.cps.toList).flatten).length = m * z.cps.toList.length := fun m => by
            induction m with
            | zero => simp
            | succ m ih => rw [List.replicate_succ, List.flatten_cons, List.length_append, ih, Nat.succ_mul]; omega
          rw [this, Nat.mul_comm]
          exact h3
        rw [e] at this
        exact this
end
end DL

/-! DL4: *, comparisons, in, subscripts, slices, len, isinstance, join, index, int, iteration, comprehensions. -/
namespace DL
open PySem L2

def rMulU : R2 := fun x y H Q => rI CMul (fun i j => .int (i * j)) x y H Q ∨ (fun x y H Q => rMulS x y H Q ∨ rRep x y H Q) x y H Q
theorem op_mulU {X : Cx} : OpR X (binaryOp .Mult) rMulU := op_mul.or (op_mulS.or op_rep)
section
variable {K : PySem.W.Frag} {ρ : List Sl} {ta tb te : TE} {i j : Int} {d d1 d2 : D}
theorem od_mulI (h : CMul i j) : OD K rMulU (.int i) (.int j) (.int (i * j)) := fun x y G H Q g hx hy q => by
  cases hx; cases hy
  exact .inl ⟨i, j, rfl, rfl, h, q _ G H (.refl g) (.int _)⟩
theorem od_mulS {z : Str} (h1 : -(2 ^ 63) ≤ j) (h2 : j < 2 ^ 63) (h : z.length * j.toNat ≤ sizeLine) : OD K rMulU (.str z) (.int j) (.str (repS z j)) := fun x y G H Q g hx hy q => by
  cases hx; cases hy
  exact .inr (.inl ⟨z, j, rfl, rfl, h1, h2, h, q _ G H (.refl g) (.str _)⟩)
theorem DqA.rep {G : Hp} {vs : List V} {ds : List D} (h : DqA K G vs ds) : ∀ m : Nat, DqA K G (List.replicate m vs).flatten (List.replicate m ds).flatten
  | 0 => .nil
  | m + 1 => by
    rw [List.replicate_succ, List.replicate_succ, List.flatten_cons, List.flatten_cons]
    exact h.append (DqA.rep h m)
theorem on_mulL {ds : List D} (h1 : -(2 ^ 63) ≤ j) (h2 : j < 2 ^ 63) (h : ds.length * j.toNat ≤ sizeLine) : ON K rMulU (.list ds) (.int j) (.list (List.replicate j.toNat ds).flatten) := fun x y G H Q g hx hy q => by
  cases hy
  cases hx with
  | lst ha ra =>
    refine .inr (.inr ⟨_, _, _, rfl, rfl, g.lst ha, h1, h2, by rw [ra.length]; exact h, fun p hp => ?_⟩)
    exact q p G _ (.fresh g hp) hp (g.none hp) (.lst upd_same (ra.rep _))

/-! ### comparisons -/
def rCmpU (p : Int → Int → Bool) (s : List Nat → List Nat → Bool) : R2 := fun x y H Q => rI0 (fun i j => .bl (p i j)) x y H Q ∨ (∃ a b, x = .str a ∧ y = .str b ∧ Q (.bl (s a.cps.toList b.cps.toList)) H)
abbrev rLtU : R2 := rCmpU (fun i j => decide (i < j)) fun a b => decide (a < b)
abbrev rLeU : R2 := rCmpU (fun i j => decide (i ≤ j)) fun a b => !decide (b < a)
abbrev rGtU : R2 := rCmpU (fun i j => decide (j < i)) fun a b => decide (b < a)
abbrev rGeU : R2 := rCmpU (fun i j => decide (j ≤ i)) fun a b => !decide (a < b)
theorem op_ltU {X : Cx} : OpR X (compareOp .Lt) rLtU := op_lt.or op_lt_str
theorem op_leU {X : Cx} : OpR X (compareOp .LtE) rLeU := op_le.or op_le_str
theorem op_gtU {X : Cx} : OpR X (compareOp .Gt) rGtU := op_gt.or op_gt_str
theorem op_geU {X : Cx} : OpR X (compareOp .GtE) rGeU := op_ge.or op_ge_str
theorem od_cmpI {p : Int → Int → Bool} {s : List Nat → List Nat → Bool} : OD K (rCmpU p s) (.int i) (.int j) (.bool (p i j)) := fun x y G H Q g hx hy q => by
  cases hx; cases hy
  exact .inl ⟨i, j, rfl, rfl, q _ G H (.refl g) (.bl _)⟩
theorem od_cmpS {p : Int → Int → Bool} {s : List Nat → List Nat → Bool} {a b : Str} : OD K (rCmpU p s) (.str a) (.str b) (.bool (s a.cps.toList b.cps.toList)) := fun x y G H Q g hx hy q => by
  cases hx; cases hy
  exact .inr ⟨a, b, rfl, rfl, q _ G H (.refl g) (.bl _)⟩
/-! data without dicts, as the library's == reads it -/
mutual
theorem canLay_dp {K : PySem.W.Frag} {H : Hp} : ∀ (d : D) (v : V), d.canLay0 = true → Dq K H v d → Dp K H v d
  | .none, _, _, h => by cases h; exact .non
  | .bool b, _, _, h => by cases h; exact .bl b
  | .int i, _, _, h => by cases h; exact .int i
  | .str s, _, _, h => by cases h; exact .str s
  | .list ds, _, c, h => by cases h with | lst a b => exact .lst (SqL.of a) (canLayA_dp ds _ (by simpa only [PyData.canLay0] using c) b)
  | .tuple ds, _, c, h => by cases h with | tup a b => exact .tup a (canLayA_dp ds _ (by simpa only [PyData.canLay0] using c) b)
  | .dict kvs, _, c, h => by simp [PyData.canLay0] at c
theorem canLayA_dp {K : PySem.W.Frag} {H : Hp} : ∀ (ds : List D) (vs : List V), PyData.canLayAll0 ds = true → DqA K H vs ds → DpAll K H vs ds
  | [], _, _, h => by cases h; exact .nil
  | d :: ds, _, c, h => by
    rw [PyData.canLayAll0, Bool.and_eq_true] at c
    cases h with
    | cons a b => exact .cons (canLay_dp d _ c.1 a) (canLayA_dp ds _ c.2 b)
end
def rEqU (K : PySem.W.Frag) : R2 := fun x y H Q => rEq x y H Q ∨ rEqD K x y H Q
def rNeU (K : PySem.W.Frag) : R2 := fun x y H Q => rNe x y H Q ∨ rNeD K x y H Q
theorem op_eqU {X : Cx} (hu : X.A.units + 64 < cLine) : OpR X (compareOp .Eq) (rEqU X.K) := op_eq.or (op_eqD hu)
theorem op_neU {X : Cx} (hu : X.A.units + 64 < cLine) : OpR X (compareOp .NotEq) (rNeU X.K) := op_ne.or (op_neD hu)
theorem od_eqI : OD K (rEqU K) (.int i) (.int j) (.bool (decide (i = j))) := fun x y G H Q g hx hy q => by
  cases hx; cases hy
  refine .inl ⟨rfl, ?_⟩
  have e : decide (V.int i = V.int j) = decide (i = j) := by simp
  rw [e]
  exact q _ G H (.refl g) (.bl _)
theorem od_eqS {a b : Str} : OD K (rEqU K) (.str a) (.str b) (.bool (decide (a = b))) := fun x y G H Q g hx hy q => by
  cases hx; cases hy
  refine .inl ⟨rfl, ?_⟩
  have e : decide (V.str a = V.str b) = decide (a = b) := by simp
  rw [e]
  exact q _ G H (.refl g) (.bl _)
theorem od_eqB {a b : Bool} : OD K (rEqU K) (.bool a) (.bool b) (.bool (decide (a = b))) := fun x y G H Q g hx hy q => by
  cases hx; cases hy
  refine .inl ⟨rfl, ?_⟩
  have e : decide (V.bl a = V.bl b) = decide (a = b) := by simp
  rw [e]
  exact q _ G H (.refl g) (.bl _)
theorem od_neI : OD K (rNeU K) (.int i) (.int j) (.bool (!decide (i = j))) := fun x y G H Q g hx hy q => by
  cases hx; cases hy
  refine .inl ⟨rfl, ?_⟩
  have e : decide (V.int i = V.int j) = decide (i = j) := by simp
  rw [e]
  exact q _ G H (.refl g) (.bl _)
theorem od_neS {a b : Str} : OD K (rNeU K) (.str a) (.str b) (.bool (!decide (a = b))) := fun x y G H Q g hx hy q => by
  cases hx; cases hy
  refine .inl ⟨rfl, ?_⟩
  have e : decide (V.str a = V.str b) = decide (a = b) := by simp
  rw [e]
  exact q _ G H (.refl g) (.bl _)
theorem od_neB {a b : Bool} : OD K (rNeU K) (.bool a) (.bool b) (.bool (!decide (a = b))) := fun x y G H Q g hx hy q => by
  cases hx; cases hy
  refine .inl ⟨rfl, ?_⟩
  have e : decide (V.bl a = V.bl b) = decide (a = b) := by simp
  rw [e]
  exact q _ G H (.refl g) (.bl _)
theorem od_eqD {a b : D} (ha : SeqAt.shaped a = true) (hb : SeqAt.shaped b = true) : OD K (rEqU K) a b (.bool (PyData.eqv a b)) := fun x y G H Q g hx hy q =>
  .inr ⟨a, b, canLay_dp a x (SeqAt.canLay_of_shaped ha) (hx.mono g), canLay_dp b y (SeqAt.canLay_of_shaped hb) (hy.mono g), ha, hb, q _ G H (.refl g) (.bl _)⟩
theorem od_neD {a b : D} (ha : SeqAt.shaped a = true) (hb : SeqAt.shaped b = true) : OD K (rNeU K) a b (.bool (!PyData.eqv a b)) := fun x y G H Q g hx hy q =>
  .inr ⟨a, b, canLay_dp a x (SeqAt.canLay_of_shaped ha) (hx.mono g), canLay_dp b y (SeqAt.canLay_of_shaped hb) (hy.mono g), ha, hb, q _ G H (.refl g) (.bl _)⟩
def isNoneD : D → Bool
  | .none => true
  | _ => false
theorem isNone_dq {G : Hp} {v : V} {d : D} (h : Dq K G v d) : decide (v = .non) = isNoneD d := by cases h <;> rfl
theorem ev_isN (h : EV K ta ρ d) : EV K (tIsN ta) ρ (.bool (isNoneD d)) := fun G0 H0 G H σ Q E q => h G0 H0 G H σ _ E fun v G1 H1 e1 h1 => by
  rw [isNone_dq h1]
  exact q _ G1 H1 e1 (.bl _)
theorem ev_notN (h : EV K ta ρ d) : EV K (tNotN ta) ρ (.bool (!isNoneD d)) := fun G0 H0 G H σ Q E q => h G0 H0 G H σ _ E fun v G1 H1 e1 h1 => by
  rw [isNone_dq h1]
  exact q _ G1 H1 e1 (.bl _)
theorem od_isB {a b : Bool} : OD K rIsB (.bool a) (.bool b) (.bool (decide (a = b))) := fun x y G H Q g hx hy q => by
  cases hx; cases hy
  exact ⟨a, b, rfl, rfl, q _ G H (.refl g) (.bl _)⟩
theorem od_notB {a b : Bool} : OD K rNotB (.bool a) (.bool b) (.bool (!decide (a = b))) := fun x y G H Q g hx hy q => by
  cases hx; cases hy
  exact ⟨a, b, rfl, rfl, q _ G H (.refl g) (.bl _)⟩
/-- a < b < c -/
theorem ev_chain {r r' : R2} {tc : TE} {d3 : D} {b1 b2 : Bool} (ha : EV K ta ρ d1) (hb : EV K tb ρ d2) (ho : OD K r d1 d2 (.bool b1)) (hc : b1 = true → EV K tc ρ d3) (ho' : b1 = true → OD K r' d2 d3 (.bool b2)) : EV K (tChain r r' ta tb tc) ρ (.bool (b1 && b2)) := fun G0 H0 G H σ Q E q =>
  ha G0 H0 G H σ _ E fun x G1 H1 e1 h1 => hb G0 H0 G1 H1 σ _ (E.go e1) fun y G2 H2 e2 h2 => ho x y G2 H2 _ e2.gh (h1.mono e2.g) h2 fun z G3 H3 e3 h3 => by
    cases h3
    refine ⟨b1, rfl, ?_⟩
    cases b1 with
    | false => exact q _ G3 H3 ((e1.trans e2).trans e3) (.bl false)
    | true => exact hc rfl G0 H0 G3 H3 σ _ (((E.go e1).go e2).go e3) fun w G4 H4 e4 h4 => ho' rfl y w G4 H4 Q e4.gh ((h2.mono e3.g).mono e4.g) h4 fun v G5 H5 e5 h5 => q v G5 H5 ((((e1.trans e2).trans e3).trans e4).trans e5) h5

/-! ### in -/
def flatD : D → Bool
  | .none | .bool _ | .int _ | .str _ => true
  | _ => false
def inD (d : D) (ds : List D) : Bool := ds.any fun e => PyData.eqv e d
theorem flat_dq {G : Hp} {v : V} {d : D} (h : Dq K G v d) (f : flatD d = true) : flatV v = true := by cases h <;> first | rfl | exact absurd f Bool.false_ne_true
theorem flatA_dq {G : Hp} : ∀ {ds : List D} {vs : List V}, DqA K G vs ds → ds.all flatD = true → vs.all flatV = true
  | [], _, h, _ => by cases h; rfl
  | d :: ds, _, h, f => by
    cases h with
    | cons a b =>
      rw [List.all_cons, Bool.and_eq_true] at f
      rw [List.all_cons, flat_dq a f.1, flatA_dq b f.2]
      rfl
theorem eq_dq {G : Hp} {v u : V} {d e : D} (h : Dq K G v d) (h' : Dq K G u e) (f : flatD d = true) (f' : flatD e = true) : eqV v u = PyData.eqv d e := by
  cases h <;> cases h' <;> first | rfl | exact absurd f Bool.false_ne_true | exact absurd f' Bool.false_ne_true | simp [eqV, PyData.eqv]
theorem in_dq {G : Hp} {v : V} {d : D} (h : Dq K G v d) (f : flatD d = true) : ∀ {ds : List D} {vs : List V}, DqA K G vs ds → ds.all flatD = true → inV v vs = inD d ds
  | [], _, h, _ => by cases h; rfl
  | e :: ds, _, h2, f2 => by
    cases h2 with
    | cons a b =>
      rw [List.all_cons, Bool.and_eq_true] at f2
      unfold inV inD
      rw [List.any_cons, List.any_cons, eq_dq a h f2.1 f]
      congr 1
      exact in_dq h f b f2.2
def rInU (K : PySem.W.Frag) : R2 := fun x y H Q => rIn K false x y H Q ∨ (fun x y H Q => (∃ (c : Nat) (z : Str), x = .str ⟨#[c]⟩ ∧ y = .str z ∧ Q (.bl (decide (c ∈ z.cps.toList))) H) ∨ (∃ i j, x = .str i ∧ y = .str j ∧ Q (.bl (!(Builtin.Str.occurrences j i 0 j.length 1).isEmpty)) H)) x y H Q
def rNinU (K : PySem.W.Frag) : R2 := fun x y H Q => rIn K true x y H Q ∨ (fun x y H Q => (∃ (c : Nat) (z : Str), x = .str ⟨#[c]⟩ ∧ y = .str z ∧ Q (.bl (!decide (c ∈ z.cps.toList))) H) ∨ (∃ i j, x = .str i ∧ y = .str j ∧ Q (.bl (!(!(Builtin.Str.occurrences j i 0 j.length 1).isEmpty))) H)) x y H Q
theorem op_inU {X : Cx} : OpR X (compareOp .In) (rInU X.K) := op_in_seq.or (op_in_sign.or op_in_str)
theorem op_ninU {X : Cx} : OpR X (compareOp .NotIn) (rNinU X.K) := op_notIn_seq.or (op_notIn_sign.or op_notin_str)
theorem od_inC {c : Nat} {z : Str} : OD K (rInU K) (.str ⟨#[c]⟩) (.str z) (.bool (decide (c ∈ z.cps.toList))) := fun x y G H Q g hx hy q => by
  cases hx; cases hy
  exact .inr (.inl ⟨c, z, rfl, rfl, q _ G H (.refl g) (.bl _)⟩)
theorem od_ninC {c : Nat} {z : Str} : OD K (rNinU K) (.str ⟨#[c]⟩) (.str z) (.bool (!decide (c ∈ z.cps.toList))) := fun x y G H Q g hx hy q => by
  cases hx; cases hy
  exact .inr (.inl ⟨c, z, rfl, rfl, q _ G H (.refl g) (.bl _)⟩)
theorem od_inT {ds : List D} (f : flatD d = true) (fs : ds.all flatD = true) : OD K (rInU K) d (.tuple ds) (.bool (inD d ds)) := fun x y G H Q g hx hy q => by
  cases hy with
  | tup a b => exact .inl ⟨_, _, rfl, .inr (g.t a), flat_dq hx f, flatA_dq b fs, by rw [in_dq hx f b fs]; exact q _ G H (.refl g) (.bl _)⟩
theorem od_ninT {ds : List D} (f : flatD d = true) (fs : ds.all flatD = true) : OD K (rNinU K) d (.tuple ds) (.bool (!inD d ds)) := fun x y G H Q g hx hy q => by
  cases hy with
  | tup a b => exact .inl ⟨_, _, rfl, .inr (g.t a), flat_dq hx f, flatA_dq b fs, by rw [in_dq hx f b fs]; exact q _ G H (.refl g) (.bl _)⟩
theorem od_inL {ds : List D} (f : flatD d = true) (fs : ds.all flatD = true) : OD K (rInU K) d (.list ds) (.bool (inD d ds)) := fun x y G H Q g hx hy q => by
  cases hy with
  | lst a b => exact .inl ⟨_, _, rfl, .inl (SqL.of (g.lst a)), flat_dq hx f, flatA_dq b fs, by rw [in_dq hx f b fs]; exact q _ G H (.refl g) (.bl _)⟩
theorem od_ninL {ds : List D} (f : flatD d = true) (fs : ds.all flatD = true) : OD K (rNinU K) d (.list ds) (.bool (!inD d ds)) := fun x y G H Q g hx hy q => by
  cases hy with
  | lst a b => exact .inl ⟨_, _, rfl, .inl (SqL.of (g.lst a)), flat_dq hx f, flatA_dq b fs, by rw [in_dq hx f b fs]; exact q _ G H (.refl g) (.bl _)⟩

/-! ### an owned list, looked at -/
theorem own_look {G0 H0 G H : Hp} {σ : St} {n : Nat} {ds : List D} (E : En K G0 H0 G H σ ρ) (hi : ρ[n]? = some (.ow (.list ds))) : ∃ l vs, σ[n]? = some (some (.ref l)) ∧ H l = some (.lst vs) ∧ DqA K G vs ds := by
  obtain ⟨l, h1, _, _, h4⟩ := E.ow n _ hi
  cases h4 with
  | lst a b => exact ⟨l, _, h1, a, b⟩
theorem ev_inO {n : Nat} {ds : List D} (ha : EV K ta ρ d) (hi : ρ[n]? = some (.ow (.list ds))) (f : flatD d = true) (fs : ds.all flatD = true) : EV K (tOp (rInU K) ta (tVar n)) ρ (.bool (inD d ds)) := fun G0 H0 G H σ Q E q =>
  ha G0 H0 G H σ _ E fun x G1 H1 e1 hx => by
    obtain ⟨l, vs, h1, h2, h3⟩ := own_look (E.go e1) hi
    exact ⟨_, h1, .inl ⟨_, _, rfl, .inl (SqL.of h2), flat_dq hx f, flatA_dq h3 fs, by rw [in_dq hx f h3 fs]; exact q _ G1 H1 e1 (.bl _)⟩⟩
theorem ev_ninO {n : Nat} {ds : List D} (ha : EV K ta ρ d) (hi : ρ[n]? = some (.ow (.list ds))) (f : flatD d = true) (fs : ds.all flatD = true) : EV K (tOp (rNinU K) ta (tVar n)) ρ (.bool (!inD d ds)) := fun G0 H0 G H σ Q E q =>
  ha G0 H0 G H σ _ E fun x G1 H1 e1 hx => by
    obtain ⟨l, vs, h1, h2, h3⟩ := own_look (E.go e1) hi
    exact ⟨_, h1, .inl ⟨_, _, rfl, .inl (SqL.of h2), flat_dq hx f, flatA_dq h3 fs, by rw [in_dq hx f h3 fs]; exact q _ G1 H1 e1 (.bl _)⟩⟩
theorem ixN_lt {n : Nat} {i : Int} {k : Nat} (h : ixN n i = some k) : k < n := by
  unfold ixN at h
  split at h
  · split at h
    · cases h; omega
    · cases h
  · split at h
    · cases h; omega
    · cases h
theorem atI_dq {G : Hp} {vs : List V} {ds : List D} (h : DqA K G vs ds) {i : Int} {d : D} (e : atI ds i = some d) : ∃ v, atI vs i = some v ∧ Dq K G v d := by
  unfold atI at e ⊢
  rw [h.length]
  cases q : ixN ds.length i with
  | none => rw [q] at e; cases e
  | some k =>
    rw [q] at e
    obtain ⟨v, h1, h2⟩ := h.get (i := k) (d := d) e
    exact ⟨v, h1, h2⟩
theorem od_ixL {ds : List D} (e : atI ds i = some d) : OD K (rIx K) (.list ds) (.int i) d := fun x y G H Q g hx hy q => by
  cases hy
  cases hx with
  | lst a b =>
    obtain ⟨v, h1, h2⟩ := atI_dq b e
    exact .inl ⟨_, _, i, v, rfl, rfl, SqL.of (g.lst a), h1, q v G H (.refl g) h2⟩
theorem od_ixT {ds : List D} (e : atI ds i = some d) : OD K (rIx K) (.tuple ds) (.int i) d := fun x y G H Q g hx hy q => by
  cases hy
  cases hx with
  | tup a b =>
    obtain ⟨v, h1, h2⟩ := atI_dq b e
    exact .inr (.inl ⟨_, _, i, v, rfl, rfl, g.t a, h1, q v G H (.refl g) h2⟩)
theorem od_ixS {z : Str} {c : Nat} (hz : z.length ≤ sizeLine) (e : atI z.cps.toList i = some c) : OD K (rIx K) (.str z) (.int i) (.str ⟨#[c]⟩) := fun x y G H Q g hx hy q => by
  cases hy
  cases hx
  exact .inr (.inr ⟨z, i, c, rfl, rfl, hz, e, q _ G H (.refl g) (.str _)⟩)
theorem ev_ixO {n : Nat} {ds : List D} (hi : ρ[n]? = some (.ow (.list ds))) (hb : EV K tb ρ (.int i)) (e : atI ds i = some d) : EV K (tOp (rIx K) (tVar n) tb) ρ d := fun G0 H0 G H σ Q E q => by
  obtain ⟨l, vs, h1, h2, h3⟩ := own_look E hi
  refine ⟨_, h1, hb G0 H0 G H σ _ E fun y G1 H1 e1 hy => ?_⟩
  cases hy
  obtain ⟨v, a1, a2⟩ := atI_dq h3 e
  exact .inl ⟨_, _, i, v, rfl, rfl, SqL.of (e1.hh _ _ h2), a1, q v G1 H1 e1 (a2.mono e1.g)⟩
/-! ### slices -/
theorem eo_none : EO K tNoPart ρ none := fun _ _ G H _ _ E q => q G H (.refl E.gh)
theorem eo_some (h : EV K te ρ (.int i)) : EO K (tPart te) ρ (some i) := fun G0 H0 G H σ Q E q => h G0 H0 G H σ _ E fun v G1 H1 e1 h1 => by
  cases h1
  exact ⟨i, rfl, q G1 H1 e1⟩
def rSlU (K : PySem.W.Frag) : V → Option Int → Option Int → Hp → VK → Prop := fun x lo hi H Q => rSlL K x lo hi H Q ∨ (fun x lo hi H Q => rSlA K x lo hi H Q ∨ rSlS x lo hi H Q) x lo hi H Q
theorem sl_U {X : Cx} : SlR X (rSlU X.K) := sl_list.or (sl_tupA.or sl_str)
def cutDs (ds : List D) (lo hi : Option Int) : List D := (ds.drop (HT.sIx ds.length 0 lo)).take (HT.sIx ds.length ds.length hi - HT.sIx ds.length 0 lo)
theorem cut_dq {G : Hp} {vs : List V} {ds : List D} (h : DqA K G vs ds) (lo hi : Option Int) : DqA K G (cutV vs lo hi) (cutDs ds lo hi) := by
  unfold cutV cutDs
  rw [h.length]
  exact (h.drop _).take _
theorem sl_step {r : V → Option Int → Option Int → Hp → VK → Prop} {tl th : TO} {lo hi : Option Int} {G0 H0 G H : Hp} {σ : St} {Q : VK} (E : En K G0 H0 G H σ ρ) (h : EV K te ρ d) (hl : EO K tl ρ lo) (hh : EO K th ρ hi)
    (q : ∀ x G' H', Ext G H G' H' → Dq K G' x d → r x lo hi H' Q) : tSl r te tl th σ H Q :=
  h G0 H0 G H σ _ E fun x G1 H1 e1 h1 => hl G0 H0 G1 H1 σ _ (E.go e1) fun G2 H2 e2 => hh G0 H0 G2 H2 σ _ ((E.go e1).go e2) fun G3 H3 e3 => q x G3 H3 ((e1.trans e2).trans e3) ((h1.mono e2.g).mono e3.g)
theorem en_slL {tl th : TO} {lo hi : Option Int} {ds : List D} (h : EV K te ρ (.list ds)) (hl : EO K tl ρ lo) (hh : EO K th ρ hi) : EVN K (tSl (rSlU K) te tl th) ρ (.list (cutDs ds lo hi)) := fun G0 H0 G H σ Q E q =>
  sl_step E h hl hh fun x G' H' e hx => by
    cases hx with
    | lst a b =>
      refine .inl ⟨_, _, rfl, SqL.of (e.gh.lst a), fun p hp => ?_⟩
      refine q p G' _ (e.trans (.fresh e.gh hp)) ?_ (e.gh.none hp) (.lst upd_same (cut_dq b lo hi))
      cases w : H p with
      | none => rfl
      | some o => have := e.hh _ _ w; rw [hp] at this; cases this
/-- a slice of the script -/
theorem en_slScr {tl th : TO} {lo hi : Option Int} {ns : List Int} (h : EV K te ρ (.dict [(.none, .list (ns.map PyData.int))])) (hl : EO K tl ρ lo) (hh : EO K th ρ hi) : EVN K (tSl (rSlU K) te tl th) ρ (.list (cutDs (ns.map PyData.int) lo hi)) := fun G0 H0 G H σ Q E q =>
  sl_step E h hl hh fun x G' H' e hx => by
    generalize hk : [((PyData.none : D), (PyData.list (ns.map PyData.int) : D))] = kvs at hx
    cases hx with
    | dK a b => cases b with
      | nil => cases hk
      | @cons k => cases k <;> cases hk
    | dT a b => cases hk
    | @scr a ms sq =>
      have e2 : ms.map PyData.int = ns.map PyData.int := by
        injection hk with h1 h2
        injection h1 with h1 h2
        injection h2 with h2
        exact h2.symm
      have e3 : DqA K G' (ms.map V.int) (ns.map PyData.int) := by
        rw [← e2]
        clear hk e2 sq
        induction ms with
        | nil => exact .nil
        | cons m ms ih => exact .cons (.int m) ih
      refine .inl ⟨_, _, rfl, e.gh.l sq, fun p hp => ?_⟩
      refine q p G' _ (e.trans (.fresh e.gh hp)) ?_ (e.gh.none hp) (.lst upd_same (cut_dq e3 lo hi))
      cases w : H p with
      | none => rfl
      | some o => have := e.hh _ _ w; rw [hp] at this; cases this
theorem ev_slS {tl th : TO} {lo hi : Option Int} {z : Str} (h : EV K te ρ (.str z)) (hz : z.length ≤ sizeLine) (hl : EO K tl ρ lo) (hh : EO K th ρ hi) : EV K (tSl (rSlU K) te tl th) ρ (.str (cutS z lo hi)) := fun G0 H0 G H σ Q E q =>
  sl_step E h hl hh fun x G' H' e hx => by
    cases hx
    exact .inr (.inr ⟨z, rfl, hz, q _ G' H' e (.str _)⟩)
theorem ev_slT {tl th : TO} {lo hi : Option Int} {ds : List D} (h : EV K te ρ (.tuple ds)) (hl : EO K tl ρ lo) (hh : EO K th ρ hi) : EV K (tSl (rSlU K) te tl th) ρ (.tuple (cutDs ds lo hi)) := fun G0 H0 G H σ Q E q =>
  sl_step E h hl hh fun x G' H' e hx => by
    cases hx with
    | tup a b =>
      refine .inr (.inl ⟨_, _, rfl, e.gh.t a, fun w => ?_, fun _ p hp => ?_⟩)
      · have z : cutDs ds lo hi = ds := by
          unfold cutDs
          rw [← b.length, w.1, w.2, List.drop_zero, Nat.sub_zero, b.length, List.take_length]
        rw [z] at q
        exact q _ G' H' e (.tup a b)
      · have rr := cut_dq b lo hi
        exact q _ _ _ (e.trans (.new e.gh hp)) (.tup (SqT.of upd_same) (rr.mono (Ext.new e.gh hp).g))
end
end DL

set_option maxHeartbeats 1000000
/-! DL5: enumerate over a tuple, a text; iteration of any sequence. -/
namespace DL
open PySem L2 PySem.Spec PyProof.Rows

theorem meets_enumerate_newB1 {v : Value} {o : Obj} {H : Heap → Prop} (B : Begins v o H) :
    Meets (Builtin.«enumerate.__new__» ⟨[.type "enumerate", v], []⟩) (fun _ R s => H s.heap ∧
      R (.ok (.ret (.ref (s.heap.push o).objs.size))) { s with heap := (s.heap.push o).push { cls := .type "enumerate", data := .fields #[.none, .bool false, .ref s.heap.objs.size, rawInt 0, .none, .none] } }) :=
  .of_wp fun prog w A R s h => by
    obtain ⟨hp, g, d, tk, os⟩ := s; obtain ⟨h1, h⟩ := h
    have hsub := sub_enumerate
    have q1 : ∀ {A' : Around} {E : Value → Shared → Prop} {Q : Value → Shared → Prop}, Q (.ref hp.objs.size) ⟨hp.push o, g, d, tk, os⟩ → wpAny (model prog w) A' (pyIter v) Q E ⟨hp, g, d, tk, os⟩ :=
      fun q => B.iter prog w _ _ ⟨hp, g, d, tk, os⟩ _ h1 q
    wp_walk using q1
    refine wpAny_stack_any fun st => wpAny_pure ?_
    split
    · rename_i c _ _ _ _ _
      cases (c == Value.type "enumerate")
      · wp_walk using q1
        exact ⟨_, rfl, h⟩
      · wp_walk using q1
        exact ⟨_, rfl, h⟩
    · wp_walk using q1
      exact ⟨_, rfl, h⟩
section
variable {prog : Program} {w : World} {A : Around} {E : Value → Shared → Prop} {s : Shared}
theorem enum_begins1 {v : Value} {o : Obj} {H : Heap → Prop} {Q : Value → Shared → Prop} (B : Begins v o H) (h1 : H s.heap)
    (h : ∀ h', IsEnum h' (s.heap.objs.size + 1) s.heap.objs.size 0 .none → h'.get? s.heap.objs.size = some o → h'.objs.size = s.heap.objs.size + 2 →
      (∀ b o, s.heap.get? b = some o → h'.get? b = some o) → Q (.ref (s.heap.objs.size + 1)) { s with heap := h' }) :
    wpAny (model prog w) A (call (.type "enumerate") [v]) Q E s := by
  refine callType_new F.called_enumerate (by decide) (F.typeCall_enumerate_1 _) (F.newCall_enumerate_1 _) (fun obj => F.args_object_init_2 obj _) F.entry_enumerate_new
    (meets_enumerate_newB1 B) ⟨h1, ?_⟩
  have hz : (s.heap.push o).objs.size = s.heap.objs.size + 1 := Heap.size_push ..
  show _ ∧ _
  rw [hz]
  have he : IsEnum ((s.heap.push o).push { cls := .type "enumerate", data := .fields #[.none, .bool false, .ref s.heap.objs.size, rawInt 0, .none, .none] }) (s.heap.objs.size + 1) s.heap.objs.size 0 .none := by
    have := Heap.get?_push_size (s.heap.push o) (o := { cls := .type "enumerate", data := .fields #[.none, .bool false, .ref s.heap.objs.size, rawInt 0, .none, .none] }) rfl
    rw [hz] at this; exact this
  refine ⟨⟨_, he, rfl⟩, h _ he (Heap.get?_push_of_some _ (Heap.get?_push_size _ B.free)) (by rw [Heap.size_push, hz]) fun b o x => Heap.get?_push_of_some _ (Heap.get?_push_of_some _ x)⟩
end

/-- one turn of enumerate, told by what its iterator draws -/
theorem enum_item {X : Cx} {pins : List (Addr × Obj)} {σ : L2.St} {H : Hp} {s : Shared} {E : Value → Shared → Prop} {e it : Addr} {fp : List Addr} {n i : Nat} {Pv : Nat → Value → Prop} {Sv : Nat → Heap → Prop} {old : Value} {C : V → Prop} {elts : List Expr} {kk : Nat} {tpos : Pos}
    (I : Inv X pins σ H s) (hf : ∀ b ∈ [e, it], FpOk X pins H b) (D : Draws X.prog X.w X.A.in1 it fp n Pv Sv) (he : IsEnum s.heap e it ((i : Nat) : Int) old) (hst : Sv i s.heap) (hlt : i < n) (hne : e ≠ it) (hef : e ∉ fp) (hc : ∀ u, Pv i u → ∃ x, RelV x u ∧ C x) :
    wpAny (model X.prog X.w) X.A (pyNext (.ref e)) (fun r s1 => ∃ u, r = some u ∧
      wpAny (model X.prog X.w) X.A (letOwnedTupleGo (.Tuple elts kk tpos) (.ref e) u) (fun _ s2 => ∃ T x, u = .ref T ∧ Inv X pins σ (upd H T (.tup [.int (i : Nat), x])) s2 ∧ H T = none ∧ C x ∧ (∃ old, IsEnum s2.heap e it (((i + 1 : Nat)) : Int) old) ∧ Sv (i + 1) s2.heap ∧
        ∀ b ∈ [e, it], upd H T (.tup [.int (i : Nat), x]) b = none) E s1) E s := by
  have hel : e < s.heap.objs.size := Heap.lt_size he
  have hil : it < s.heap.objs.size := by obtain ⟨o, q⟩ := D.live i _ hst; exact Heap.lt_size q
  refine wpAny_pyNext_enum_itemD D he hst hlt hne hef fun u h' tk hP ho hst' hT hsz hk => ?_
  obtain ⟨x, ru, hx⟩ := hc u hP
  refine ⟨_, rfl, wpAny_letOwnedTupleGo_enum (s := { s with heap := h', toks := tk + 1 }) ho fun h'' he' sb => ?_⟩
  have hT2 : h''.get? s.heap.objs.size = some { cls := .type "tuple", data := .seq #[.int i tk, u] } := (sb.2 _ (Nat.ne_of_gt hel)).trans hT
  have new : ObjOk X.prog X.w (upd H s.heap.objs.size (.tup [.int (i : Nat), x])) h'' s.heap.objs.size (.tup [.int (i : Nat), x]) :=
    ⟨by show 2 ≤ sizeLine; decide, [.int i tk, u], .cons ⟨_, rfl⟩ (.cons ru .nil), ⟨_, hT2, rfl, _, rfl⟩⟩
  have I1 : Inv X pins σ (upd H s.heap.objs.size (.tup [.int (i : Nat), x])) { s with heap := h'', toks := tk + 1 } :=
    I.turnedNew (ch := [e, it]) (fun b ob hb q => (sb.2 b (fun z => hb (by simp [z]))).trans (hk b ob (fun z => hb (by simp [z])) (fun z => hb (by simp [z])) q)) hf (Nat.le_refl _) new
  refine ⟨s.heap.objs.size, x, rfl, I1, I.hok.fresh (Nat.le_refl _), hx, ⟨u, ?_⟩, D.frame _ _ _ hst' (fun b hb o q => (sb.2 b (fun z => hef (z ▸ hb))).trans q), fun b hb => ?_⟩
  · have e1 : ((i + 1 : Nat) : Int) = (i : Int) + 1 := by omega
    rw [e1]; exact he'
  · have hb' : b < s.heap.objs.size := by
      have e' : b = e ∨ b = it := by simpa using hb
      rcases e' with z | z
      · rw [z]; exact hel
      · rw [z]; exact hil
    rw [upd_ne (Nat.ne_of_lt hb')]
    exact (hf b hb).1

def IteT (K : PySem.W.Frag) (a : Addr) : It :=
  ⟨fun i H => ∃ (xs : List V) (x : V), SqT K H a xs ∧ xs[i]? = some x, fun i H v H' => ∃ T x, v = .ref T ∧ H T = none ∧ H' = upd H T (.tup [.int (i : Nat), x]) ∧ ∀ xs, SqT K H a xs → xs[i]? = some x, fun i H => ∃ xs : List V, SqT K H a xs ∧ xs.length ≤ i⟩
def IteS (z : Str) : It :=
  ⟨fun i _ => i < z.cps.size, fun i H v H' => ∃ T c, v = .ref T ∧ H T = none ∧ H' = upd H T (.tup [.int (i : Nat), .str ⟨#[c]⟩]) ∧ z.cps[i]? = some c, fun i _ => z.cps.size ≤ i⟩
theorem enum_ne_tup {h : Heap} {e it a : Addr} {i : Int} {old : Value} {its : Array Value} (he : IsEnum h e it i old) (ht : IsTup h a its) : e ≠ a := by
  rintro rfl
  obtain ⟨o, ho, hc, _⟩ := ht
  have q : h.get? e = some _ := he
  rw [q] at ho
  cases ho
  have z : Value.type "enumerate" = Value.type "tuple" := hc
  injection z with z
  exact absurd z (by decide)
theorem turn_enumT {P : Program} {w : World} {K : PySem.W.Frag} {elts : List Expr} {kk : Nat} {tpos : Pos} (a e it : Addr) :
    Turn P w K (.Tuple elts kk tpos) (IteT K a) [e, it] e (fun i h => (∃ old, IsEnum h e it ((i : Nat) : Int) old) ∧ h.IsTupleIter it a i ∧ e ≠ it) where
  mem := by simp
  obj := fun i h st b hb => by
    obtain ⟨⟨old, he⟩, ⟨o, ho, hc, hd⟩, _⟩ := st
    have e' : b = e ∨ b = it := by simpa using hb
    rcases e' with z | z
    · rw [z]; exact ⟨_, he, fun v q => nomatch q⟩
    · rw [z]; exact ⟨o, ho, fun v q => by rw [hd] at q; cases q⟩
  keep := fun i h h' st k => let ⟨⟨old, he⟩, hi, hne⟩ := st; ⟨⟨old, k e (by simp) _ he⟩, hi.at fun o q => k it (by simp) o q, hne⟩
  item := by
    intro X hP hw hK hc i pins s σ H E I hf st hg
    subst hP hw hK
    obtain ⟨⟨old, he⟩, hit, hne⟩ := st
    obtain ⟨xs, x, hq, hx⟩ := hg
    obtain ⟨its, rv, p, hz⟩ := I.tuple hq
    obtain ⟨u, hu, ru⟩ := rv.get hx
    have hi : i < its.toArray.size := by
      rw [List.size_toArray]
      exact (List.getElem?_eq_some_iff.mp hu).1
    have hta : a ≠ it := by
      rintro rfl
      obtain ⟨o, ho, hc', _⟩ := id p
      obtain ⟨o2, ho2, hc2, _⟩ := id hit
      rw [ho] at ho2; cases ho2
      rw [hc'] at hc2
      injection hc2 with z
      exact absurd z (by decide)
    refine thn (enum_item (C := fun y => y = x) I hf (Draws.tuple (A := X.A.in1) (show X.A.in1.handled = none from I.ok.hd hc) it a hta its.toArray) he ⟨hit, p⟩ hi hne (by simpa using ⟨hne, enum_ne_tup he p⟩) fun u' q => ?_) fun r s1 ⟨v, er, h2⟩ => ⟨v, er, thn h2 fun _ s2 ⟨T, y, ev, I1, hT, ey, he2, hs2, hb⟩ => ?_⟩
    · rw [show its.toArray[i]? = some u from by simpa using hu] at q
      cases q
      exact ⟨x, ru, rfl⟩
    · subst ey
      subst ev
      exact ⟨.ref T, _, I1, rfl, ⟨T, y, rfl, hT, rfl, fun ys hy => by rw [I.tuple_inj hy hq]; exact hx⟩, ⟨he2, hs2.1, hne⟩, hb⟩
  done := by
    intro X hP hw hK hc i pins s σ H E I hf st hg
    subst hP hw hK
    obtain ⟨⟨old, he⟩, hit, hne⟩ := st
    obtain ⟨xs, hq, hx⟩ := hg
    obtain ⟨its, rv, p, hz⟩ := I.tuple hq
    obtain ⟨f0, f1, f2, f3, f4, f5⟩ := hf it (by simp)
    have hl := rv.length
    have hta : a ≠ it := by
      rintro rfl
      obtain ⟨o, ho, hc', _⟩ := id p
      obtain ⟨o2, ho2, hc2, _⟩ := id hit
      rw [ho] at ho2; cases ho2
      rw [hc'] at hc2
      injection hc2 with z
      exact absurd z (by decide)
    by_cases hi : i = its.toArray.size
    · subst hi
      exact wpAny_pyNext_enum_endD (Draws.tuple (A := X.A.in1) (show X.A.in1.handled = none from I.ok.hd hc) it a hta its.toArray) he ⟨hit, p⟩ fun h' eb => ⟨rfl, I.turned (t' := s.toks) (fun b o hb q => eb b o hb q) f0 f1 f3 f4 f5⟩
    · have D : Draws X.prog X.w X.A.in1 it [it, a] i (fun _ _ => True) (fun j h => h.IsTupleIter it a j ∧ h.IsTuple a its.toArray ∧ its.toArray.size ≤ j ∧ j = i) := {
        live := fun _ _ st => let ⟨o, ho, _⟩ := st.1; ⟨o, ho⟩
        frame := fun _ _ _ st hk => ⟨st.1.at fun o e => hk it (by simp) o e, st.2.1.at fun o e => hk a (by simp) o e, st.2.2⟩
        item := fun j s Q E hj st hQ => by have := st.2.2.2; omega
        done := fun s Q E st hE => wpAny_nextOf_tuple_end (show X.A.in1.handled = none from I.ok.hd hc) st.1 st.2.1 (by simpa using st.2.2.1) hE }
      exact wpAny_pyNext_enum_endD D he ⟨hit, p, by rw [List.size_toArray]; omega, rfl⟩ fun h' eb => ⟨rfl, I.turned (t' := s.toks) (fun b o hb q => eb b o hb q) f0 f1 f3 f4 f5⟩
  self := fun A i s Q E st h => let ⟨⟨_, he⟩, _⟩ := st; wpAny_pyIter_enum he h
theorem turn_enumS {P : Program} {w : World} {K : PySem.W.Frag} {elts : List Expr} {kk : Nat} {tpos : Pos} (z : Str) (t : Tok) (e it : Addr) :
    Turn P w K (.Tuple elts kk tpos) (IteS z) [e, it] e (fun i h => (∃ old, IsEnum h e it ((i : Nat) : Int) old) ∧ h.IsStrIter it (strIterType z) z t i ∧ e ≠ it) where
  mem := by simp
  obj := fun i h st b hb => by
    obtain ⟨⟨old, he⟩, ⟨o, ho, hc, hd⟩, _⟩ := st
    have e' : b = e ∨ b = it := by simpa using hb
    rcases e' with z | z
    · rw [z]; exact ⟨_, he, fun v q => nomatch q⟩
    · rw [z]; exact ⟨o, ho, fun v q => by rw [hd] at q; cases q⟩
  keep := fun i h h' st k => let ⟨⟨old, he⟩, ⟨o, ho, r⟩, hne⟩ := st; ⟨⟨old, k e (by simp) _ he⟩, ⟨o, k it (by simp) o ho, r⟩, hne⟩
  item := by
    intro X hP hw hK hc i pins s σ H E I hf st hg
    subst hP hw hK
    obtain ⟨⟨old, he⟩, hit, hne⟩ := st
    refine thn (enum_item (C := fun y => ∃ c, z.cps[i]? = some c ∧ y = .str ⟨#[c]⟩) I hf (Draws.text (A := X.A.in1) (show X.A.in1.handled = none from I.ok.hd hc) it z t) he hit hg hne (by simpa using hne) fun u' q => ?_) fun r s1 ⟨v, er, h2⟩ => ⟨v, er, thn h2 fun _ s2 ⟨T, y, ev, I1, hT, ey, he2, hs2, hb⟩ => ?_⟩
    · obtain ⟨c, u, h1, rfl⟩ := q
      exact ⟨.str ⟨#[c]⟩, ⟨u, rfl⟩, c, h1, rfl⟩
    · obtain ⟨c, hcx, rfl⟩ := ey
      subst ev
      exact ⟨.ref T, _, I1, rfl, ⟨T, c, rfl, hT, rfl, hcx⟩, ⟨he2, hs2, hne⟩, hb⟩
  done := by
    intro X hP hw hK hc i pins s σ H E I hf st hg
    subst hP hw hK
    obtain ⟨⟨old, he⟩, hit, hne⟩ := st
    obtain ⟨f0, f1, f2, f3, f4, f5⟩ := hf it (by simp)
    have hx : z.cps[i]? = none := Array.getElem?_eq_none hg
    have D : Draws X.prog X.w X.A.in1 it [it] i (fun _ _ => True) (fun j h => h.IsStrIter it (strIterType z) z t j ∧ j = i) := {
      live := fun _ _ st => let ⟨o, ho, _⟩ := st.1; ⟨o, ho⟩
      frame := fun _ _ _ st hk => let ⟨⟨o, ho, r⟩, e⟩ := st; ⟨⟨o, hk it (by simp) o ho, r⟩, e⟩
      item := fun j s Q E hj st hQ => by have := st.2; omega
      done := fun s Q E st hE => by
        obtain ⟨st, _⟩ := st
        cases ha : z.cps.all (· < 128)
        · simp only [strIterType, ha, Bool.false_eq_true, if_false] at st
          exact wpAny_nextOf_wide_end (show X.A.in1.handled = none from I.ok.hd hc) st hx hE
        · simp only [strIterType, ha, if_true] at st
          exact wpAny_nextOf_ascii_end (show X.A.in1.handled = none from I.ok.hd hc) st hx hE }
    exact wpAny_pyNext_enum_endD D he ⟨hit, rfl⟩ fun h' eb => ⟨rfl, I.turned (t' := s.toks) (fun b o hb q => eb b o hb q) f0 f1 f3 f4 f5⟩
  self := fun A i s Q E st h => let ⟨⟨_, he⟩, _⟩ := st; wpAny_pyIter_enum he h

/-- enumerate of a list, a tuple, a text -/
def iEnumU (K : PySem.W.Frag) (ta : TA) : TI := fun σ H R => ta σ H fun vs H1 => (∃ a xs, vs = [.ref a] ∧ SqL K H1 a xs ∧ R (Ite K a) H1) ∨ (∃ a xs, vs = [.ref a] ∧ SqT K H1 a xs ∧ R (IteT K a) H1) ∨ (∃ z, vs = [.str z] ∧ R (IteS z) H1)
theorem pi_enumU {X : Cx} {e : Expr} {ta : TA} {p pos tpos : Pos} {elts : List Expr} {kk : Nat} (hg : Gl X "enumerate") (hm : X.mg "enumerate" = none) (ha : PA X [e] ta) (hs : starEach [e] X.env = [(false, eval e X.env)] := by rfl) :
    PI X (.Tuple elts kk tpos) (.Call (.Name "enumerate" p) [e] [] pos) (iEnumU X.K ta) := by
  refine ⟨fun pins s σ H R I h => ?_⟩
  refine Call_ (ld_blt I hg hm boot_enumerate (PyProof.Rows.callWith_type1 (thn (ha.run pos pins s σ H _ I h) fun us s1 ⟨vs, H1, I1, r1, q1⟩ => ?_) hs rfl))
  have fp : ∀ b ∈ [s1.heap.objs.size + 1, s1.heap.objs.size], s1.heap.objs.size ≤ b := fun b hb => by
    have e' : b = s1.heap.objs.size + 1 ∨ b = s1.heap.objs.size := by simpa using hb
    rcases e' with z | z
    · rw [z]; exact Nat.le_add_right _ _
    · rw [z]; exact Nat.le_refl _
  rcases q1 with ⟨a, xs, ex, hq, q⟩ | ⟨a, xs, ex, hq, q⟩ | ⟨z, ex, q⟩
  · subst ex
    cases r1 with
    | cons r rr =>
      cases rr
      cases r
      obtain ⟨its, rv, p', hz⟩ := I1.list hq
      refine call_enumerate_list p'.isList fun h' he hit hsz hk => wpAny_pyIter_enum he ?_
      have I2 : Inv X pins σ H1 { s1 with heap := h' } := I1.kept (t' := s1.toks) hk
      exact ⟨s1.heap.objs.size + 1, [s1.heap.objs.size + 1, s1.heap.objs.size], _, _, H1, rfl, I2, turn_enum a (s1.heap.objs.size + 1) s1.heap.objs.size, ⟨⟨.none, he⟩, hit, Nat.succ_ne_self _⟩, fun b hb => I1.fpOk (fp b hb) (I1.hok.fresh (fp b hb)), q⟩
  · subst ex
    cases r1 with
    | cons r rr =>
      cases rr
      cases r
      obtain ⟨its, rv, p', hz⟩ := I1.tuple hq
      refine enum_begins1 (begins_tuple a its.toArray) p' fun h' he hit hsz hk => wpAny_pyIter_enum he ?_
      have I2 : Inv X pins σ H1 { s1 with heap := h' } := I1.kept (t' := s1.toks) hk
      exact ⟨s1.heap.objs.size + 1, [s1.heap.objs.size + 1, s1.heap.objs.size], _, _, H1, rfl, I2, turn_enumT a (s1.heap.objs.size + 1) s1.heap.objs.size, ⟨⟨.none, he⟩, ⟨_, hit, rfl, rfl⟩, Nat.succ_ne_self _⟩, fun b hb => I1.fpOk (fp b hb) (I1.hok.fresh (fp b hb)), q⟩
  · subst ex
    cases r1 with
    | cons r rr =>
      cases rr
      obtain ⟨t, rfl⟩ := r
      refine enum_begins1 (begins_text z t) trivial fun h' he hit hsz hk => wpAny_pyIter_enum he ?_
      have I2 : Inv X pins σ H1 { s1 with heap := h' } := I1.kept (t' := s1.toks) hk
      exact ⟨s1.heap.objs.size + 1, [s1.heap.objs.size + 1, s1.heap.objs.size], _, _, H1, rfl, I2, turn_enumS z t (s1.heap.objs.size + 1) s1.heap.objs.size, ⟨⟨.none, he⟩, ⟨_, hit, rfl, rfl⟩, Nat.succ_ne_self _⟩, fun b hb => I1.fpOk (fp b hb) (I1.hok.fresh (fp b hb)), q⟩
/-- a list, a tuple, a text, walked -/
def iSeqU (K : PySem.W.Frag) (te : TE) : TI := fun σ H R => te σ H fun x H1 => (∃ a xs, x = .ref a ∧ SqL K H1 a xs ∧ R (Itl K a) H1) ∨ (∃ a xs, x = .ref a ∧ SqT K H1 a xs ∧ R (Itt K a) H1) ∨ (∃ z, x = .str z ∧ R (Its z) H1)
theorem pi_seqU {X : Cx} {tg l : Expr} {tl : TE} (hl : PE X l tl) : PI X tg l (iSeqU X.K tl) := by
  refine ⟨fun pins s σ H R I h => ?_⟩
  refine thn (hl.run pins s σ H _ I h) fun v s1 ⟨x, H1, I1, r1, q1⟩ => ?_
  rcases q1 with ⟨a, xs, ex, hq, q⟩ | ⟨a, xs, ex, hq, q⟩ | ⟨z, ex, q⟩
  · subst ex
    cases r1
    obtain ⟨its, rv, p, hz⟩ := I1.list hq
    refine wpAny_pyIter_list p.isList ?_
    refine ⟨s1.heap.objs.size, [s1.heap.objs.size], _, _, H1, rfl, I1.kept (t' := s1.toks) fun b o e => Heap.get?_push_of_some _ e, turn_list a _, ⟨_, Heap.get?_push_size _ rfl, rfl, rfl⟩, fun b hb => ?_, q⟩
    have e : b = s1.heap.objs.size := by simpa using hb
    subst e
    exact I1.fpOk (Nat.le_refl _) (I1.hok.fresh (Nat.le_refl _))
  · subst ex
    cases r1
    obtain ⟨its, rv, p, hz⟩ := I1.tuple hq
    refine wpAny_pyIter_tuple (show s1.heap.IsTuple a its.toArray from p) ?_
    refine ⟨s1.heap.objs.size, [s1.heap.objs.size], _, _, H1, rfl, I1.kept (t' := s1.toks) fun b o e => Heap.get?_push_of_some _ e, turn_tuple a _, ⟨_, Heap.get?_push_size _ rfl, rfl, rfl⟩, fun b hb => ?_, q⟩
    have e : b = s1.heap.objs.size := by simpa using hb
    subst e
    exact I1.fpOk (Nat.le_refl _) (I1.hok.fresh (Nat.le_refl _))
  · subst ex
    obtain ⟨t, rfl⟩ := r1
    cases ha : z.cps.all (· < 128)
    · exact wpAny_pyIter_wide ha (pi_one (tk := s1.toks) I1 _ (turn_str _ z t "str_iterator" (.inr rfl)) ⟨_, Heap.get?_push_size _ rfl, rfl, rfl⟩ q)
    · exact wpAny_pyIter_ascii ha (pi_one (tk := s1.toks) I1 _ (turn_str _ z t "str_ascii_iterator" (.inl rfl)) ⟨_, Heap.get?_push_size _ rfl, rfl, rfl⟩ q)
end DL

/-! DL6: what is walked, comprehensions, built-ins, lists that grow, calls of own defs, by data. -/
namespace DL
open PySem L2

section
variable {K : PySem.W.Frag} {ρ : List Sl} {ta tb te : TE} {tt : TT} {d d1 d2 : D} {P : Oc → Prop} {Ex : XK}
/-! ### what is walked -/
theorem ei_mono {wi : TI} {n : Nat} {f g : Nat → D} (h : EI K wi ρ n f) (e : ∀ i, i < n → f i = g i) : EI K wi ρ n g := fun G0 H0 G H σ R E q =>
  h G0 H0 G H σ R E fun J G' H' Gd Y x w hG hY => q J G' H' Gd Y x w hG fun i G2 H2 v H3 hi a b c => by
    rw [← e i hi]
    exact hY i G2 H2 v H3 hi a b c
theorem ei_rng1 {t : TA} {n : Int} (h : EA K t ρ [.int n]) (h1 : -(2 ^ 62) ≤ n) (h2 : n < 2 ^ 62) : EI K (iRng1 t) ρ n.toNat (fun i => .int (i : Nat)) := fun G0 H0 G H σ R E q =>
  h G0 H0 G H σ _ E fun vs G1 H1 e1 hv => by
    cases hv with
    | cons a b =>
      cases a
      cases b
      refine ⟨n, rfl, h1, h2, q _ G1 H1 _ _ e1 walk_range (fun _ _ _ _ => trivial) fun i G2 H2 x H3 hi hg gh hy => ?_⟩
      obtain ⟨rfl, rfl⟩ := hy
      refine ⟨G2, .refl gh, ?_⟩
      show Dq K G2 (.int (0 + (i : Nat))) (.int (i : Nat))
      rw [Int.zero_add]
      exact .int _
theorem ei_rng2 {t : TA} {m n : Int} (h : EA K t ρ [.int m, .int n]) (hb : -(2 ^ 62) ≤ m ∧ m < 2 ^ 62 ∧ -(2 ^ 62) ≤ n ∧ n < 2 ^ 62) : EI K (iRng2 t) ρ (n - m).toNat (fun i => .int (m + (i : Nat))) := fun G0 H0 G H σ R E q =>
  h G0 H0 G H σ _ E fun vs G1 H1 e1 hv => by
    cases hv with
    | cons a b =>
      cases a
      cases b with
      | cons a b =>
        cases a
        cases b
        refine ⟨m, n, rfl, hb, q _ G1 H1 _ _ e1 walk_range (fun _ _ _ _ => trivial) fun i G2 H2 x H3 hi hg gh hy => ?_⟩
        obtain ⟨rfl, rfl⟩ := hy
        exact ⟨G2, .refl gh, .int _⟩
theorem getD_of {α : Type} {ds : List α} {i : Nat} {d z : α} (h : ds[i]? = some d) : ds.getD i z = d := by
  rw [List.getD_eq_getElem?_getD, h]
  rfl
theorem ei_list {ds : List D} (h : EV K te ρ (.list ds)) : EI K (iSeqU K te) ρ ds.length (fun i => ds.getD i .none) := fun G0 H0 G H σ R E q =>
  h G0 H0 G H σ _ E fun v G1 H1 e1 hv => by
    cases hv with
    | @lst a xs _ ha hr =>
      refine .inl ⟨a, xs, rfl, SqL.of (e1.gh.lst ha), ?_⟩
      rw [← hr.length] at q
      refine q _ G1 H1 _ _ e1 (walk_list (K := K) (a := a)) (fun G2 H2 hg gh => SqL.of (gh.lst (hg _ _ ha))) fun i G2 H2 x H3 hi hg gh hy => ?_
      obtain ⟨rfl, hx⟩ := hy
      obtain ⟨d, hd, hq⟩ := hr.got hx
      exact ⟨G2, .refl gh, by show Dq K G2 x (ds.getD i .none); rw [getD_of hd]; exact hq.mono (GH.of hg)⟩
theorem ei_tup {ds : List D} (h : EV K te ρ (.tuple ds)) : EI K (iSeqU K te) ρ ds.length (fun i => ds.getD i .none) := fun G0 H0 G H σ R E q =>
  h G0 H0 G H σ _ E fun v G1 H1 e1 hv => by
    cases hv with
    | @tup a xs _ ha hr =>
      refine .inr (.inl ⟨a, xs, rfl, e1.gh.t ha, ?_⟩)
      rw [← hr.length] at q
      refine q _ G1 H1 _ _ e1 (walk_tup (K := K) (a := a)) (fun G2 H2 hg gh => gh.t ((GH.of hg).t ha)) fun i G2 H2 x H3 hi hg gh hy => ?_
      obtain ⟨rfl, hx⟩ := hy
      obtain ⟨d, hd, hq⟩ := hr.got hx
      exact ⟨G2, .refl gh, by show Dq K G2 x (ds.getD i .none); rw [getD_of hd]; exact hq.mono (GH.of hg)⟩
def chD (z : Str) (i : Nat) : D := .str ⟨#[z.cps.getD i 0]⟩
theorem ch_of {z : Str} {i c : Nat} (h : z.cps[i]? = some c) : chD z i = .str ⟨#[c]⟩ := by
  unfold chD
  rw [Array.getD_eq_getD_getElem?, h]
  rfl
theorem ei_str {z : Str} (h : EV K te ρ (.str z)) : EI K (iSeqU K te) ρ z.cps.size (chD z) := fun G0 H0 G H σ R E q =>
  h G0 H0 G H σ _ E fun v G1 H1 e1 hv => by
    cases hv
    refine .inr (.inr ⟨z, rfl, q _ G1 H1 _ _ e1 walk_str (fun _ _ _ _ => trivial) fun i G2 H2 x H3 hi hg gh hy => ?_⟩)
    obtain ⟨rfl, c, hc, rfl⟩ := hy
    exact ⟨G2, .refl gh, by rw [ch_of hc]; exact .str _⟩
theorem new_pair {G H : Hp} {T : Addr} {x y : V} {a b : D} (g : GH G H) (hT : H T = none) (hx : Dq K G x a) (hy : Dq K G y b) : ∃ G3, Ext G H G3 (upd H T (.tup [x, y])) ∧ Dq K G3 (.ref T) (.tuple [a, b]) :=
  ⟨_, .new g hT, .tup (SqT.of upd_same) (.cons (hx.mono (Ext.new g hT).g) (.cons (hy.mono (Ext.new g hT).g) .nil))⟩
theorem ei_enumL {t : TA} {ds : List D} (h : EA K t ρ [.list ds]) : EI K (iEnumU K t) ρ ds.length (fun i => .tuple [.int (i : Nat), ds.getD i .none]) := fun G0 H0 G H σ R E q =>
  h G0 H0 G H σ _ E fun v G1 H1 e1 hv => by
    cases hv with
    | cons a b =>
      cases b
      cases a with
      | @lst a xs _ ha hr =>
        refine .inl ⟨a, xs, rfl, SqL.of (e1.gh.lst ha), ?_⟩
        rw [← hr.length] at q
        refine q _ G1 H1 _ _ e1 (walk_enum (K := K) (a := a)) (fun G2 H2 hg gh => SqL.of (gh.lst (hg _ _ ha))) fun i G2 H2 x H3 hi hg gh hy => ?_
        obtain ⟨T, x1, y1, rfl, hT, rfl, h1, h2⟩ := hy
        cases h1
        obtain ⟨d, hd, hq⟩ := hr.got h2
        exact new_pair gh hT (.int _) (by rw [getD_of hd]; exact hq.mono (GH.of hg))
theorem walk_enumT {a : Addr} {xs : List V} : Walk (IteT K a) xs.length (fun H => SqT K H a xs) (YPair (fun i => some (.int (i : Nat))) (fun i => xs[i]?)) := by
  refine ⟨fun i _ hi q => ⟨xs, xs[i], q, by simp [hi]⟩, fun _ q => ⟨xs, q, Nat.le_refl _⟩, fun i H v H' _ q y => ?_⟩
  obtain ⟨T, x, y1, y2, y3, y4⟩ := y
  exact ⟨T, .int (i : Nat), x, y1, y2, y3, rfl, y4 xs q⟩
theorem walk_enumS {z : Str} : Walk (IteS z) z.cps.size (fun _ => True) (fun i H v H' => ∃ T c, v = .ref T ∧ H T = none ∧ H' = upd H T (.tup [.int (i : Nat), .str ⟨#[c]⟩]) ∧ z.cps[i]? = some c) :=
  ⟨fun _ _ hi _ => hi, fun _ _ => Nat.le_refl _, fun _ _ _ _ _ _ y => y⟩
theorem ei_enumT {t : TA} {ds : List D} (h : EA K t ρ [.tuple ds]) : EI K (iEnumU K t) ρ ds.length (fun i => .tuple [.int (i : Nat), ds.getD i .none]) := fun G0 H0 G H σ R E q =>
  h G0 H0 G H σ _ E fun v G1 H1 e1 hv => by
    cases hv with
    | cons a b =>
      cases b
      cases a with
      | @tup a xs _ ha hr =>
        refine .inr (.inl ⟨a, xs, rfl, e1.gh.t ha, ?_⟩)
        rw [← hr.length] at q
        refine q _ G1 H1 _ _ e1 (walk_enumT (K := K) (a := a)) (fun G2 H2 hg gh => gh.t ((GH.of hg).t ha)) fun i G2 H2 x H3 hi hg gh hy => ?_
        obtain ⟨T, x1, y1, rfl, hT, rfl, h1, h2⟩ := hy
        cases h1
        obtain ⟨d, hd, hq⟩ := hr.got h2
        exact new_pair gh hT (.int _) (by rw [getD_of hd]; exact hq.mono (GH.of hg))
theorem ei_enumS {t : TA} {z : Str} (h : EA K t ρ [.str z]) : EI K (iEnumU K t) ρ z.cps.size (fun i => .tuple [.int (i : Nat), chD z i]) := fun G0 H0 G H σ R E q =>
  h G0 H0 G H σ _ E fun v G1 H1 e1 hv => by
    cases hv with
    | cons a b =>
      cases b
      cases a
      refine .inr (.inr ⟨z, rfl, q _ G1 H1 _ _ e1 walk_enumS (fun _ _ _ _ => trivial) fun i G2 H2 x H3 hi hg gh hy => ?_⟩)
      obtain ⟨T, c, rfl, hT, rfl, hc⟩ := hy
      exact new_pair gh hT (.int _) (by rw [ch_of hc]; exact .str _)

/-! ### a comprehension -/
def wipeS (ρ : List Sl) : List Nat → List Sl
  | [] => ρ
  | v :: vs => (wipeS ρ vs).set v .no
theorem En.wipe {G0 H0 G H : Hp} {σ : St} (E : En K G0 H0 G H σ ρ) : ∀ vs : List Nat, En K G0 H0 G H (L2.wipe σ vs) (wipeS ρ vs)
  | [] => E
  | v :: vs => (En.wipe E vs).setX v none
theorem wipe_get {σ : St} {k : Nat} : ∀ {vs : List Nat}, (L2.wipe σ vs)[k]? = if k ∈ vs ∧ k < σ.length then some none else σ[k]?
  | [] => by simp [L2.wipe]
  | v :: vs => by
    unfold L2.wipe
    by_cases e : v = k
    · subst e
      by_cases h : v < σ.length
      · rw [List.getElem?_set_self (by rw [wipe_length]; exact h), if_pos ⟨List.mem_cons_self, h⟩]
      · rw [if_neg (fun z => h z.2), List.getElem?_eq_none (by rw [List.length_set, wipe_length]; omega), List.getElem?_eq_none (by omega)]
    · rw [List.getElem?_set_ne e, wipe_get (vs := vs)]
      by_cases h : k ∈ vs ∧ k < σ.length
      · rw [if_pos h, if_pos ⟨List.mem_cons_of_mem _ h.1, h.2⟩]
      · rw [if_neg h, if_neg fun z => h ⟨(List.mem_cons.mp z.1).resolve_left (Ne.symm e), z.2⟩]
theorem wipe_eq {σ σ' : St} {vs ts : List Nat} (hl : σ'.length = σ.length) (hk : ∀ k, k ∉ ts → σ'[k]? = (L2.wipe σ vs)[k]?) (hs : ∀ t ∈ ts, t ∈ vs) : L2.wipe σ' vs = L2.wipe σ vs := by
  refine List.ext_getElem? fun k => ?_
  rw [wipe_get, hl]
  by_cases h : k ∈ vs ∧ k < σ.length
  · rw [if_pos h, wipe_get, if_pos h]
  · rw [if_neg h]
    by_cases hv : k ∈ vs
    · have : ¬ k < σ.length := fun z => h ⟨hv, z⟩
      rw [List.getElem?_eq_none (by omega), List.getElem?_eq_none (by rw [wipe_length]; omega)]
    · exact hk k fun z => hv (hs k z)
/-- what a comprehension gives: the value at each turn that passes -/
def lcD : Nat → (Nat → Bool) → (Nat → D) → List D
  | 0, _, _ => []
  | n + 1, b, f => if b n = true then lcD n b f ++ [f n] else lcD n b f
theorem lcD_len (b : Nat → Bool) (f : Nat → D) : ∀ n, (lcD n b f).length ≤ n
  | 0 => Nat.le_refl _
  | n + 1 => by
    unfold lcD
    have := lcD_len b f n
    split
    · rw [List.length_append]
      exact Nat.succ_le_succ this
    · omega
theorem en_lc {wi : TI} {g : TG} {vs : List Nat} {n : Nat} {item : Nat → D} {b : Nat → Bool} {f : Nat → D} (hi : EI K wi ρ n item) (hn : n ≤ 16000000)
    (hs : ∀ i, i < n → ∃ ρ2 ts, GT K g (wipeS ρ vs) (item i) ρ2 ts ∧ (∀ t ∈ ts, t ∈ vs) ∧ ET K tt ρ2 (b i) ∧ (b i = true → EV K te ρ2 (f i))) :
    EVN K (tLc wi g tt te vs) ρ (.list (lcD n b f)) := fun G0 H0 G H σ Q E q =>
  hi G0 H0 G H σ _ E fun J G1 H1 Gd Y x w hG hY Dl hD => by
    have E1 := E.go x
    have hH : H Dl = none := by
      cases w : H Dl with
      | none => rfl
      | some o => have := x.hh _ _ w; rw [hD] at this; cases this
    have hG1 : G1 Dl = none := x.gh.none hD
    refine lc_it w (fun i H' => ∃ G' vl, Ext G1 H1 G' H' ∧ G' Dl = none ∧ H' Dl = some (.lst vl) ∧ DqA K G' vl (lcD i b f)) ⟨G1, [], .fresh x.gh hD, hG1, upd_same, .nil⟩ (fun i H' _ ⟨G', vl, e, _⟩ => hG G' H' e.gg e.gh) (fun i y H' H3 hlt ⟨G', vl, e, n1, h1, r1⟩ hy => ?_)
      (fun H' ⟨G', vl, e, n1, h1, r1⟩ => q Dl G' H' (x.trans e) hH n1 (.lst h1 r1))
    obtain ⟨G3, x3, hdq⟩ := hY i G' H' y H3 hlt e.gg e.gh hy
    obtain ⟨ρ2, ts, hg, hts, ht, he⟩ := hs i hlt
    have E3 : En K G0 H0 G3 H3 (L2.wipe σ vs) (wipeS ρ vs) := ((E1.go e).go x3).wipe vs
    have n3 : G3 Dl = none := x3.own _ _ h1 rfl n1
    refine hg G0 H0 G3 H3 _ y _ E3 hdq fun σ2 E2 hl hk => ⟨wipe_eq (by rw [hl, wipe_length]) hk hts, ?_⟩
    refine ht G0 H0 G3 H3 σ2 _ E2 fun G4 H4 x4 => ?_
    have h4 : H4 Dl = some (.lst vl) := x4.hh _ _ (x3.hh _ _ h1)
    have n4 : G4 Dl = none := x4.own _ _ (x3.hh _ _ h1) rfl n3
    have r4 : DqA K G4 vl (lcD i b f) := (r1.mono x3.g).mono x4.g
    have e4 : Ext G1 H1 G4 H4 := (e.trans x3).trans x4
    cases hb : b i with
    | false =>
      rw [if_neg Bool.false_ne_true]
      refine ⟨G4, vl, e4, n4, h4, ?_⟩
      unfold lcD
      rw [if_neg (by rw [hb]; exact Bool.false_ne_true)]
      exact r4
    | true =>
      rw [if_pos rfl]
      refine he hb G0 H0 G4 H4 σ2 _ (E2.go x4) fun u G5 H5 x5 hu => ?_
      have h5 := x5.hh _ _ h4
      have n5 := x5.own _ _ h4 rfl n4
      have hlen := lcD_len b f i
      have hl2 := r4.length
      refine ⟨vl, h5, by rw [hl2, sizeLine_eq]; omega, G5, vl ++ [u], ?_, n5, upd_same, ?_⟩
      · have e5 := e4.trans x5
        refine ⟨e5.gg, fun a o ha => ?_, fun a o ha => ?_, e5.own⟩
        · rw [upd_ne (ne_of_none ha hD)]; exact e5.hh a o ha
        · have ne : a ≠ Dl := ne_of_none ha n5
          rw [upd_ne ne]
          exact e5.gh a o ha
      · have hb' : lcD (i + 1) b f = lcD i b f ++ [f i] := by
          show (if b i = true then lcD i b f ++ [f i] else lcD i b f) = _
          rw [if_pos hb]
        rw [hb']
        exact (r4.mono x5.g).append (.one hu)
theorem et_yes : ET K tYes ρ true := fun _ _ G H _ _ E q => q G H (.refl E.gh)

/-! ### built-ins -/
theorem cd_lenS {z : Str} (h : z.length ≤ sizeLine) : CD K (rLen K) [.str z] (.int z.length) := fun xs G H Q g hx q => by
  cases hx with
  | cons a b =>
    cases a
    cases b
    exact ⟨_, z.length, rfl, ⟨h, rfl⟩, q _ G H (.refl g) (.int _)⟩
theorem cd_lenL {ds : List D} : CD K (rLen K) [.list ds] (.int ds.length) := fun xs G H Q g hx q => by
  cases hx with
  | cons a b =>
    cases b
    cases a with
    | @lst a xs _ ha hr => exact ⟨_, xs.length, rfl, .inl ⟨xs, SqL.of (g.lst ha), rfl⟩, by rw [hr.length]; exact q _ G H (.refl g) (.int _)⟩
theorem cd_lenT {ds : List D} : CD K (rLen K) [.tuple ds] (.int ds.length) := fun xs G H Q g hx q => by
  cases hx with
  | cons a b =>
    cases b
    cases a with
    | @tup a xs _ ha hr => exact ⟨_, xs.length, rfl, .inr ⟨xs, g.t ha, rfl⟩, by rw [hr.length]; exact q _ G H (.refl g) (.int _)⟩
theorem ev_lenO {n : Nat} {ds : List D} (hi : ρ[n]? = some (.ow (.list ds))) : EV K (tCB (rLen K) (tCons (tVar n) tNil)) ρ (.int ds.length) := fun G0 H0 G H σ Q E q => by
  obtain ⟨l, vs, h1, h2, h3⟩ := own_look E hi
  exact ⟨_, h1, _, vs.length, rfl, .inl ⟨vs, SqL.of h2, rfl⟩, by rw [h3.length]; exact q _ G H (.refl E.gh) (.int _)⟩
def rIntU : List V → Hp → VK → Prop := fun xs H Q => (∃ i, xs = [.int i] ∧ Q (.int i) H) ∨ ∃ k, xs = [.bl k] ∧ Q (.int (if k then 1 else 0)) H
theorem cd_int {i : Int} : CD K rIntU [.int i] (.int i) := fun xs G H Q g hx q => by
  cases hx with
  | cons a b =>
    cases a
    cases b
    exact .inl ⟨i, rfl, q _ G H (.refl g) (.int _)⟩
/-- a datum's type -/
def tyD : D → String
  | .none => "NoneType"
  | .bool _ => "bool"
  | .int _ => "int"
  | .str _ => "str"
  | .list _ => "list"
  | .tuple _ => "tuple"
  | .dict _ => "dict"
def isDicD : D → Bool
  | .dict _ => true
  | _ => false
theorem ty_dq {G H : Hp} {v : V} (g : GH G H) (h : Dq K G v d) (nd : isDicD d = false) : TyX K H v (.type (tyD d)) := by
  cases h with
  | non => exact .base .non
  | bl b => exact .base (.bl b)
  | int i => exact .base (.int i)
  | str x => exact .base (.str x)
  | lst a b => exact .base (.lst (g.lst a))
  | tup a b =>
    rcases g.t a with (h | ⟨o, h⟩) | ⟨o, its, n, h, c, _⟩
    · exact .base (.tup h)
    · exact .fTuple h
    · exact .kTuple h c
  | dK _ _ => cases nd
  | dT _ _ => cases nd
  | scr _ => cases nd
theorem ev_isi {T : String} {b : Bool} (h : EV K ta ρ d) (nd : isDicD d = false) (hk : kitB (tyD d) T = some b) : EV K (tCB (rIsi K) (tCons ta (tCons (tC (.ty T)) tNil))) ρ (.bool b) := fun G0 H0 G H σ Q E q =>
  h G0 H0 G H σ _ E fun v G1 H1 e1 h1 => ⟨v, .ty T, .type (tyD d), .type T, b, rfl, .ty T, ty_dq e1.gh h1 nd, kit_ty hk, q _ G1 H1 e1 (.bl b)⟩
/-- xs.append(e), xs the owned list of slot n -/
theorem st_append {n : Nat} {ds : List D} (hi : ρ[n]? = some (.ow (.list ds))) (h : EV K te ρ d) (hz : ds.length < 16000000) (q : P (.nx (ρ.set n (.ow (.list (ds ++ [d])))))) :
    ST K Ex (tDrop (tBM K "list" rAppend (tVar n) (tCons te tNil))) ρ P := fun G0 H0 G H σ D E f => by
  obtain ⟨l, vs, h1, h2, h3⟩ := own_look E hi
  refine ⟨_, h1, .inl ⟨rfl, vs, SqL.of h2⟩, h G0 H0 G H σ _ E fun v G1 H1 e1 hv => ?_⟩
  have h4 := e1.hh _ _ h2
  have r4 := h3.mono e1.g
  exact ⟨l, vs, v, rfl, rfl, h4, by rw [h3.length, sizeLine_eq]; omega, f.nx _ _ _ _ q ((E.go e1).write hi h1 (.lst upd_same (r4.append (.one hv))))⟩
/-- xs[i] = e -/
theorem st_setL {n : Nat} {ds : List D} {i : Int} {j : Nat} (hi : ρ[n]? = some (.ow (.list ds))) (h : EV K te ρ d) (hb : EV K tb ρ (.int i)) (hj : ixN ds.length i = some j) (q : P (.nx (ρ.set n (.ow (.list (ds.set j d)))))) :
    ST K Ex (tAsg te (gSub (tVar n) tb rSetL)) ρ P := fun G0 H0 G H σ D E f =>
  h G0 H0 G H σ _ E fun v G1 H1 e1 hv => by
    obtain ⟨l, vs, h1, h2, h3⟩ := own_look (E.go e1) hi
    refine ⟨_, h1, hb G0 H0 G1 H1 σ _ (E.go e1) fun y G2 H2 e2 hy => ?_⟩
    cases hy
    have h4 := e2.hh _ _ h2
    have r4 := h3.mono e2.g
    exact ⟨l, vs, i, j, rfl, rfl, h4, by rw [h3.length]; exact hj, f.nx _ _ _ _ q (((E.go e1).go e2).write hi h1 (.lst upd_same (r4.set j (hv.mono e2.g))))⟩
/-- x += e -/
def rIAddU : R2 := fun x y H Q => rI0 (fun i j => .int (i + j)) x y H Q ∨ (fun x y H Q => (∃ i j, x = .str i ∧ y = .str j ∧ i.length + j.length ≤ sizeLine ∧ Q (.str (i ++ j)) H) ∨ rExt2 x y H Q) x y H Q
theorem ip_addU {X : Cx} : PIp X .Add rIAddU := iop_add.or (iop_add_str.or iop_ext)
theorem st_augI {n : Nat} {a b : Int} (hi : ρ[n]? = some (.fr (.int a))) (h : EV K te ρ (.int b)) (q : P (.nx (ρ.set n (.fr (.int (a + b)))))) : ST K Ex (tAug n te rIAddU) ρ P := fun G0 H0 G H σ D E f => by
  obtain ⟨v, h1, h2⟩ := E.fr n _ hi
  cases h2
  refine ⟨_, h1, h G0 H0 G H σ _ E fun y G1 H1 e1 hy => ?_⟩
  cases hy
  exact .inl ⟨a, b, rfl, rfl, f.nx _ _ _ _ q ((E.go e1).setF n (.int _))⟩
theorem st_augO {n : Nat} {ds es : List D} (hi : ρ[n]? = some (.ow (.list ds))) (h : EV K te ρ (.list es)) (hz : ds.length + es.length ≤ 16000000) (q : P (.nx (ρ.set n (.ow (.list (ds ++ es)))))) :
    ST K Ex (tAug n te rIAddU) ρ P := fun G0 H0 G H σ D E f => by
  obtain ⟨l, vs, h1, h2, h3⟩ := own_look E hi
  refine ⟨_, h1, h G0 H0 G H σ _ E fun y G1 H1 e1 hy => ?_⟩
  cases hy with
  | @lst b xs _ hb hr =>
    have h4 := e1.hh _ _ h2
    have r4 := h3.mono e1.g
    refine .inr (.inr ⟨l, b, vs, xs, rfl, rfl, h4, e1.gh.lst hb, by rw [h3.length, hr.length, sizeLine_eq]; omega, ?_⟩)
    have E2 := (E.go e1).write hi h1 (.lst (upd_same (H := H1) (a := l) (o := .lst (vs ++ xs))) (r4.append hr))
    have E3 := f.nx _ σ G1 _ q E2
    have : σ.set n (some (V.ref l)) = σ := by
      refine List.ext_getElem? fun k => ?_
      by_cases e : n = k
      · subst e
        rw [List.getElem?_set_self (List.getElem?_eq_some_iff.mp h1).1, h1]
      · rw [List.getElem?_set_ne e]
    show D.nx (σ.set n (some (V.ref l))) _
    rw [this]
    exact E3

/-! ### own defs -/
/-- what a def answers, by data -/
def PF (K : PySem.W.Frag) (R : List D → D → Prop) : Sp := fun vs H Q _ => ∃ G ds d, GH G H ∧ DqA K G vs ds ∧ R ds d ∧ ∀ v G' H', Ext G H G' H' → Dq K G' v d → Q v H'
theorem ev_call {R : List D → D → Prop} {t : TA} {ds : List D} (h : EA K t ρ ds) (hr : R ds d) : EV K (tCall (PF K R) [] Ex t) ρ d := fun G0 H0 G H σ Q E q =>
  h G0 H0 G H σ _ E fun vs G1 H1 e1 h1 => by
    rw [List.append_nil]
    exact ⟨G1, ds, d, e1.gh, h1, hr, fun v G2 H2 e2 h2 => q v G2 H2 (e1.trans e2) h2⟩
/-- the slots at a def's entry -/
def start0 (n : Nat) (ds : List D) : List Sl := ds.map Sl.fr ++ List.replicate (n - ds.length) Sl.no
theorem start0_get {n i : Nat} {ds : List D} {sl : Sl} (e : (start0 n ds)[i]? = some sl) : (∃ d, ds[i]? = some d ∧ sl = .fr d) ∨ sl = .no := by
  unfold start0 at e
  rw [List.getElem?_append] at e
  split at e
  · rw [List.getElem?_map] at e
    cases e2 : ds[i]? with
    | none => rw [e2] at e; cases e
    | some d' => rw [e2] at e; cases e; exact .inl ⟨d', rfl, rfl⟩
  · rw [List.getElem?_replicate] at e
    split at e
    · cases e; exact .inr rfl
    · cases e
theorem en_start {G H : Hp} {vs : List V} {ds : List D} {N : List Str} (g : GH G H) (h : DqA K G vs ds) : En K G H G H (L2.start N vs) (start0 N.length ds) := by
  have hl := h.length
  refine ⟨?_, .refl g, fun i d e => ?_, fun i d e => ?_, fun i a dd fl e => ?_, fun i j d e l q => ?_, fun i kls e => ?_, fun i j x y e => ?_⟩
  · unfold L2.start start0
    rw [List.length_append, List.length_append, List.length_map, List.length_map, List.length_replicate, List.length_replicate, hl]
  · rcases start0_get e with ⟨d', e2, e3⟩ | e3
    · cases e3
      obtain ⟨v, h1, h2⟩ := h.get e2
      refine ⟨v, ?_, h2⟩
      unfold L2.start
      rw [List.getElem?_append_left (by rw [List.length_map]; exact (List.getElem?_eq_some_iff.mp h1).1), List.getElem?_map, h1]
      rfl
    · cases e3
  · rcases start0_get e with ⟨d', e2, e3⟩ | e3 <;> cases e3
  · rcases start0_get e with ⟨d', e2, e3⟩ | e3 <;> cases e3
  · rcases start0_get q with ⟨d', e2, e3⟩ | e3 <;> cases e3
  · rcases start0_get e with ⟨d', e2, e3⟩ | e3 <;> cases e3
  · rcases start0_get e with ⟨d', e2, e3⟩ | e3 <;> cases e3
end
section
open PySem.Spec PyProof.Rows
variable {P : Program} {w : World} {K : PySem.W.Frag} {mg : Str → Option Value} {base : Heap}
/-- a def that raises nothing keeps its word, by its body's -/
theorem fn_pf {x qual : Str} {params : Arguments} {body : List Stmt} {scope : Scope} {f : Addr} {fd : FuncData} {N ps : List Str} {k : Nat} {R : List D → D → Prop} (F : FunD K x qual params body scope [] [] f fd) (S : FnScope N ps scope)
    (len : ∀ ds d, R ds d → ds.length = ps.length)
    (hb : ∀ (cdv : Value) (A : Around) (outer : List PySem.Env) (s : Shared) (H : Hp) (E : XK), Room k (A.deeper (envOfC qual scope s.heap.objs.size f cdv)) →
      ∃ t, PSs (cxOf CX0 P w K mg base N qual scope f cdv A outer s H E) body t ∧ ∀ ds d, R ds d → DL.ST K E0 t (start0 N.length ds) (fun o => o = .rt d ∨ (d = .none ∧ ∃ ρ, o = .nx ρ))) : FnOk P w K mg base CX0 (k + 1) f fd ps (PF K R) := by
  refine F.ok S (fun vs H Q E h => ?_) (fun cdv A outer s H vs Q E hr h => ?_)
  · obtain ⟨G, ds, d, g, ha, hR, q⟩ := h
    exact ha.length.trans (len ds d hR)
  · obtain ⟨t, h1, h2⟩ := hb cdv A outer s H E hr
    obtain ⟨G, ds, d, g, ha, hR, q⟩ := h
    refine ⟨t, h1, h2 ds d hR G H G H _ _ (en_start g ha) ⟨fun ρ' σ' G' H' p E' => ?_, fun d' v G' H' p x hv => ?_, fun ρ' σ' G' H' p E' => ?_, fun ρ' σ' G' H' p E' => ?_, fun C fl dd fs G' H' p => ?_⟩⟩
    · rcases p with p | ⟨rfl, _⟩
      · cases p
      · exact q _ G' H' E'.ext .non
    · rcases p with p | ⟨rfl, ρ, p⟩
      · cases p
        exact q v G' H' x hv
      · cases p
    · rcases p with p | ⟨_, _, p⟩ <;> cases p
    · rcases p with p | ⟨_, _, p⟩ <;> cases p
    · rcases p with p | ⟨_, _, p⟩ <;> cases p
end
end DL

set_option maxHeartbeats 1000000
/-! DL7: exceptions of own classes with fields: made, raised, caught, asked, by data. -/
namespace PySem.W
open PySem PySem.Spec PySem.Calls PyProof.Rows
section
variable {prog : Program} {w : World} {A : Around} {E : Value → Shared → Prop} {s : Shared} {K : Frag} {x D : Addr} {ox : Obj} {od : Option Obj}
theorem dl_findObj {C : Addr} {name : Str} {a g : Value} (od : Option Obj) (hc : (clsIn K C).isSome = true) (ha : findIn K (.ref C) name = some (some a)) (hg : specialIn K a "__get__" = some (some g)) (ht : takesIn K a = some true) : findObj K C od name = some (.bind g a) := by
  obtain ⟨cd, q⟩ := Option.isSome_iff_exists.mp hc
  unfold findObj
  rw [q, Option.bind_some, ha, Option.bind_some]
  simp [hg, ht]
theorem dl_class {Q : Option Value → Shared → Prop} (C : L2.ExcC K D) (X : K.In s.heap) (I : InstAt s.heap x ox D od) (h : Q (some (.ref D)) { s with toks := s.toks + 1 }) : wpAny (model prog w) A (getAttr? (.ref x) "__class__") Q E s := by
  have hf : findObj K D od "__class__" = some (.bind (.builtin "getset_descriptor.__get__") (.builtin "object.__class__")) := dl_findObj od (by obtain ⟨cd, hc, _⟩ := any_some C.hd; rw [hc]; rfl) C.ha C.hn C.ht
  obtain ⟨hp, g, d, t, os⟩ := s
  have T0 := I.type (M := model prog w)
  have T1 := looks_findIn (M := model prog w) X C.hg
  have T2 := looks_findIn (M := model prog w) X C.hk
  have T3 := looks_find (M := model prog w) X I hf
  have sub : Looks (model prog w) hp (isInstance (.ref x) (.type "BaseException")) true := T0.andThen (looks_subIn X C.hs)
  have e0 : (false && onTheHeap (Value.builtin "BaseException.__getattribute__")) = false := rfl
  have e2 : (Value.builtin "BaseException.__getattribute__" == Value.builtin "object.__getattribute__") = false := by decide +kernel
  have e1 : (onTheHeap (Value.ref D) && Value.builtin "BaseException.__getattribute__" == Value.builtin "object.__getattribute__") = false := by rw [e2]; rfl
  unfold getAttr? getAttrBy? getAttrBy
  refine wpAny_bind (wpAny_mkText (wpAny_bind (wpAny_attempt (wpAny_holding (wpAny_bind (T0.at (wpAny_bind (T1.at ?_))))))))
  show wpAny _ _ (if (onTheHeap (Value.ref D) && Value.builtin "BaseException.__getattribute__" == Value.builtin "object.__getattribute__") = true then _ else _) _ _ _
  rw [e1, if_neg Bool.false_ne_true]
  unfold getAttrByItsOwn hookBefore
  refine wpAny_bind ?_
  rw [if_pos (show onTheHeap (Value.ref D) = true from rfl)]
  refine T2.at ?_
  refine wpAny_bind (wpAny_attempt (wpAny_holding ?_))
  unfold callGetattribute
  rw [e0, if_neg Bool.false_ne_true]
  unfold boundAndCalled
  rw [PySem.F.excAttr_ValueError.ga.bind (.ref x)]
  refine wpAny_bind (wpAny_pure ?_)
  show wpAny _ _ (call (.builtin "BaseException.__getattribute__") [.ref x, .str "__class__" t]) _ _ _
  refine wpAny_call (codeAny_call_builtin PySem.F.excAttr_ValueError.ga.plain PySem.F.entry_bexc_ga ?_)
  refine @check_slot (model prog w) _ _ ⟨hp, g, d, t + 1, os⟩ "BaseException.__getattribute__" "BaseException" "__getattribute__" (.ref x) [.str "__class__" t] [] _ (by decide +kernel) (by decide +kernel) sub (PySem.F.args_bexc_ga (.ref x) (.str "__class__" t)) ?_
  unfold Builtin.«object.__getattribute__»
  refine wpAny_bind (wpAny_of_eq (a := ((Value.ref x : Value), [Value.str "__class__" t])) (by first | rfl | (simp only [slotArgs]; rfl)) ?_)
  refine wpAny_bind (wpAny_pure (wpAny_bind (T0.at (wpAny_bind (T3.at ?_)))))
  show wpAny _ _ (holding [Value.builtin "object.__class__"] (call (.builtin "getset_descriptor.__get__") [.builtin "object.__class__", .ref x, .ref D]) >>= ret) _ _ _
  refine wpAny_bind (wpAny_holding (wpAny_call (class_get (s := ⟨hp, g, d, t + 1, os⟩) (ox := ox) (od := od) X I C.hm ?_)))
  refine wpAny_pure ?_
  show wpAny _ _ (handedOut (.ref D)) _ _ _
  rw [handedOut_of (v := .ref D) rfl]
  first
    | exact wpAny_pure (wpAny_pure h)
    | exact wpAny_pure h
    | exact wpAny_pure (wpAny_bind (wpAny_pure (wpAny_pure h)))
theorem dl_kitx (C : L2.ExcC K D) : KitX K (.ref x) (.ref D) (fun h => InstAt h x ox D od) where
  ty := fun _ _ _ I => I.type
  it := fun _ _ X _ => by
    obtain ⟨cdD, hcD, _⟩ := any_some C.hd
    unfold clsIn at hcD
    split at hcD
    · rename_i c' d' cd' sl' ho
      intro A' Q' E' s' k q
      unfold isType loadHead
      exact wpAny_bind (wpAny_loadPart (k _ _ (X _ _ ho)) (wpAny_pure q))
    · cases hcD
  ne := fun h tp dd its n sl X htp => by
    obtain ⟨cdD, hcD, _⟩ := any_some C.hd
    refine Bool.eq_false_iff.mpr fun q => ?_
    have e : D = tp := Value.ref.inj (beq_iff_eq.mp q)
    subst e
    unfold clsIn at hcD
    split at hcD
    · rename_i c' d' cd' sl' ho
      have z := (X _ _ ho).symm.trans htp
      cases z
    · cases hcD
  ca := fun X I k => dl_class C X I k
end
end PySem.W

namespace DL
open PySem L2 PySem.Spec PyProof.Rows
/-- isinstance(e, c), e the exception (with a dict of its own) that the suite holds -/
def rIsX (K : PySem.W.Frag) (cls : Value) (d : Option Addr) (a : Addr) : List V → Hp → VK → Prop := fun xs H Q => ∃ (c : V) (cv : Value) (b : Bool) (D dd : Addr) (fs : List (Str × V)),
  xs = [.ref a, c] ∧ cls = .ref D ∧ d = some dd ∧ H dd = some (.xd fs) ∧ ExcC K D ∧ (∀ u, RelV c u → u = cv) ∧ PySem.W.kitOne K (.ref D) cv = some b ∧ Q (.bl b) H
theorem call_isX {X : Cx} {a : Addr} {cls : Value} {d : Option Addr} {oe : Obj} {pn : List (Addr × Obj)} (hz : Zc cls d oe) (hf : ∃ vs, oe.data = .fields vs) : CallR (X.suite a ((a, oe) :: pn)) (.builtin "isinstance") (rIsX X.K cls d a) := by
  intro pins s σ H xs us Q I r h
  obtain ⟨c, cv, b, D, dd, fs, rfl, rfl, rfl, hdd, hC, hcv, e, q⟩ := h
  cases r with
  | cons rx rr =>
    cases rr with
    | cons rt rr =>
      cases rr
      cases rx
      have ec := hcv _ rt
      subst ec
      obtain ⟨hget, _⟩ := I.pin (a, oe) (List.mem_append.mpr (.inl List.mem_cons_self))
      obtain ⟨vs, hv⟩ := hf
      have hx : ObjOk X.prog X.w H s.heap dd (.xd fs) := I.hok dd _ hdd
      obtain ⟨mA, hns, _⟩ := hx
      obtain ⟨o1, ho1, _⟩ := lookIn_ns hns
      have J : PySem.W.InstAt s.heap a oe D (some o1) := ⟨hget, hz.1, by unfold PySem.W.notCls; rw [hv] <;> rfl, by rw [hz.2]; exact ho1⟩
      exact PySem.W.kia_one (PySem.W.dl_kitx hC) I.kIn J e (fun z => nomatch z) fun tk => ⟨.bl b, H, I.kept (t' := tk) fun _ _ z => z, rfl, q⟩

section
variable {K : PySem.W.Frag} {ρ : List Sl} {ta te : TE} {d : D} {P : Oc → Prop} {Ex : XK}
/-- what an __init__ that stores its arguments, each under its name, keeps -/
def spI (K : PySem.W.Frag) (C : Addr) (fls : List Str) : Sp := fun vs H Q _ => ∃ (a : Addr) (ys : List V), vs = .ref a :: ys ∧ ys.length = fls.length ∧ H a = some (exo a C none) ∧
  ∀ d H2, H d = none → d ≠ a → H2 a = some (exo a C (some d)) → H2 d = some (exd d (fls.zip ys).reverse) → (∀ b, b ≠ a → b ≠ d → H2 b = H b) → Q .non H2
/-- raise C(e, ..) -/
theorem st_raise {C : Addr} {fls : List Str} {t : TA} {ds : List D} (h : EA K t ρ ds) (hl : ds.length = fls.length) (hl2 : ds.length ≤ 1000) (q : P (.ex C (fls.zip ds).reverse)) :
    ST K Ex (fun _ σ H => tMkO C (spI K C fls) [] t σ H fun cls d H' => (fun (cls : Value) (d : Option Addr) (_ : L2.St) (H : Hp) => Ex cls d H) cls d σ H') ρ P := fun G0 H0 G H σ D E f =>
  h G0 H0 G H σ _ E fun vs G1 H1 e1 h1 => ⟨by rw [h1.length]; exact hl2, fun a ha => by
    rw [List.append_nil]
    refine ⟨a, vs, rfl, by rw [h1.length]; exact hl, upd_same, fun d H2 hd hda ea ed keep => ⟨rfl, d, (fls.zip vs).reverse, ea, ed, ?_, ?_⟩⟩
    · rw [upd_ne hda] at hd; exact hd
    · have hd1 : H1 d = none := by rw [upd_ne hda] at hd; exact hd
      have x : Ext G1 H1 (upd G1 d (.xd (fls.zip vs).reverse)) (upd (del H2 a) d (.xd (fls.zip vs).reverse)) := by
        have gd : G1 d = none := e1.gh.none hd1
        have ga : G1 a = none := e1.gh.none ha
        have old : ∀ b o, H1 b = some o → del H2 a b = some o := fun b o hb => by
          have n1 : b ≠ a := ne_of_none hb ha
          have n2 : b ≠ d := ne_of_none hb hd1
          rw [del_ne n1, keep b n1 n2, upd_ne n1]
          exact hb
        refine ⟨fun b o hb => by rw [upd_ne (ne_of_none hb gd)]; exact hb, fun b o hb => by rw [upd_ne (ne_of_none hb hd1)]; exact old b o hb, fun b o hb => ?_, fun b o hb _ n => by rw [upd_ne (ne_of_none hb hd1)]; exact n⟩
        by_cases hbd : b = d
        · subst hbd
          rw [upd_same] at hb
          exact .inl (by rw [upd_same]; exact hb)
        · rw [upd_ne hbd] at hb
          rw [upd_ne hbd]
          have n1 : b ≠ a := ne_of_none hb ga
          rw [del_ne n1, keep b n1 hbd, upd_ne n1]
          exact e1.gh b o hb
      refine f.ex C _ d _ _ _ q (E.ext.trans (e1.trans x)) upd_same ?_
      have h2 := h1.mono x.g
      have hlen := h1.length
      refine ⟨?_, ?_⟩
      · rw [List.map_reverse, List.map_reverse, List.map_fst_zip (by omega), List.map_fst_zip (by omega)]
      · rw [List.map_reverse, List.map_reverse, List.map_snd_zip (by omega), List.map_snd_zip (by omega)]
        exact h2.rev⟩
/-- a def that may raise: it answers d where R tells so, it raises C with the fields fl where Y tells so -/
def PX (K : PySem.W.Frag) (R : List D → D → Prop) (Y : List D → Addr → List (Str × D) → Prop) : Sp := fun vs H Q E => ∃ G ds, GH G H ∧ DqA K G vs ds ∧
  ((∃ d, R ds d ∧ ∀ v G' H', Ext G H G' H' → Dq K G' v d → Q v H') ∨ (∃ C fl, Y ds C fl ∧ ∀ dd fs G' H', Ext G H G' H' → G' dd = some (.xd fs) → DqF K G' fs fl → E (.ref C) (some dd) H'))
/-- a call in a def that lets the callee's exception out -/
theorem st_asgX {R : List D → D → Prop} {Y : List D → Addr → List (Str × D) → Prop} {t : TA} {ds : List D} {j : Nat} (h : EA K t ρ ds) (hr : (∃ d, R ds d ∧ P (.nx (ρ.set j (.fr d)))) ∨ (∃ C fl, Y ds C fl ∧ P (.ex C fl))) :
    ST K Ex (tAsg (tCallS (PX K R Y) (fun _ => Ex) t) (gName j)) ρ P := fun G0 H0 G H σ D E f =>
  h G0 H0 G H σ _ E fun vs G1 H1 e1 h1 => by
    have E1 := E.go e1
    rcases hr with ⟨d, hd, q⟩ | ⟨C, fl, hY, q⟩
    · exact ⟨G1, ds, e1.gh, h1, .inl ⟨d, hd, fun v G2 H2 x hv => f.nx _ _ G2 H2 q ((E1.go x).setF j hv)⟩⟩
    · exact ⟨G1, ds, e1.gh, h1, .inr ⟨C, fl, hY, fun dd fs G2 H2 x hx hf => f.ex C fl dd fs G2 H2 q (E1.ext.trans x) hx hf⟩⟩
theorem st_retX {R : List D → D → Prop} {Y : List D → Addr → List (Str × D) → Prop} {t : TA} {ds : List D} (h : EA K t ρ ds) (hr : (∃ d, R ds d ∧ P (.rt d)) ∨ (∃ C fl, Y ds C fl ∧ P (.ex C fl))) :
    ST K Ex (tRet (tCallS (PX K R Y) (fun _ => Ex) t)) ρ P := fun G0 H0 G H σ D E f =>
  h G0 H0 G H σ _ E fun vs G1 H1 e1 h1 => by
    have E1 := E.go e1
    rcases hr with ⟨d, hd, q⟩ | ⟨C, fl, hY, q⟩
    · exact ⟨G1, ds, e1.gh, h1, .inl ⟨d, hd, fun v G2 H2 x hv => f.rt _ _ G2 H2 q (E1.ext.trans x) hv⟩⟩
    · exact ⟨G1, ds, e1.gh, h1, .inr ⟨C, fl, hY, fun dd fs G2 H2 x hx hf => f.ex C fl dd fs G2 H2 q (E1.ext.trans x) hx hf⟩⟩
/-- the ends of an except suite: slot i is forgotten -/
def suiP (i : Nat) (P : Oc → Prop) : Oc → Prop
  | .nx ρ => P (.nx (ρ.set i .no))
  | .ct ρ => P (.ct (ρ.set i .no))
  | .bk ρ => P (.bk (ρ.set i .no))
  | .rt d => P (.rt d)
  | .ex _ _ => False
/-- try: x = f(..) / except X as n: suite -/
theorem st_tryAsg {R : List D → D → Prop} {Y : List D → Addr → List (Str × D) → Prop} {t : TA} {ds : List D} {i j : Nat} {c : Value} {ts : Addr → Value → Option Addr → TS} {Wout : WX} (h : EA K t ρ ds)
    (hr : (∃ d, R ds d ∧ P (.nx (ρ.set j (.fr d)))) ∨
      (∃ C fl, Y ds C fl ∧ PySem.W.exmOne K (.ref C) c = some true ∧ ∀ a dd, ST K E0 (ts a (.ref C) (some dd)) (ρ.set i (Sl.ex a dd fl)) (suiP i P))) :
    ST K Ex (fun D σ H => tAsg (tCallS (PX K R Y) (WE (wAs K c i ts Wout D)) t) (gName j) D σ H) ρ P := fun G0 H0 G H σ D E f =>
  h G0 H0 G H σ _ E fun vs G1 H1 e1 h1 => by
    have E1 := E.go e1
    rcases hr with ⟨d, hd, q⟩ | ⟨C, fl, hY, he, q⟩
    · exact ⟨G1, ds, e1.gh, h1, .inl ⟨d, hd, fun v G2 H2 x hv => f.nx _ _ G2 H2 q ((E1.go x).setF j hv)⟩⟩
    · refine ⟨G1, ds, e1.gh, h1, .inr ⟨C, fl, hY, fun dd fs G2 H2 x hx hf => ⟨true, he, fun _ a ha => ?_, fun z => nomatch z⟩⟩⟩
      exact q a dd G0 H0 G2 H2 _ _ ((E1.go x).setE i hx hf) ⟨fun ρ' σ' G' H' p E' => f.nx _ _ G' H' p (E'.setX i none), fun d v G' H' p x hd => f.rt d v G' H' p x hd,
        fun ρ' σ' G' H' p E' => f.bk _ _ G' H' p (E'.setX i none), fun ρ' σ' G' H' p E' => f.ct _ _ G' H' p (E'.setX i none), fun C fl dd fs G' H' p => p.elim⟩
/-- e.f of a caught exception -/
theorem ev_xf {n : Nat} {a dd C : Addr} {fl : List (Str × D)} {f : Str} (hn : ρ[n]? = some (Sl.ex a dd fl)) (hf : fl.lookup f = some d) : EV K (tXf a (.ref C) (some dd) C f (tVar n)) ρ d := fun G0 H0 G H σ Q E q => by
  obtain ⟨h1, fs, h2, h3⟩ := E.ex n a dd fl hn
  obtain ⟨v, h4, h5⟩ := h3.get hf
  rcases E.gh dd _ h2 with h6 | ⟨z, _⟩
  · exact ⟨_, h1, rfl, rfl, dd, fs, v, rfl, h6, h4, q v G H (.refl E.gh) h5⟩
  · cases z
/-- isinstance(e, c) of a caught exception -/
theorem ev_isX {n : Nat} {a dd C : Addr} {fl : List (Str × D)} {c : V} {cv : Value} {b : Bool} (hn : ρ[n]? = some (Sl.ex a dd fl)) (hC : ExcC K C) (hc : ∀ u, RelV c u → u = cv) (hk : PySem.W.kitOne K (.ref C) cv = some b) :
    EV K (tCB (rIsX K (.ref C) (some dd) a) (tCons (tVar n) (tCons (tC c) tNil))) ρ (.bool b) := fun G0 H0 G H σ Q E q => by
  obtain ⟨h1, fs, h2, h3⟩ := E.ex n a dd fl hn
  rcases E.gh dd _ h2 with h6 | ⟨z, _⟩
  · exact ⟨_, h1, c, cv, b, C, dd, fs, rfl, rfl, rfl, h6, hC, hc, hk, q _ G H (.refl E.gh) (.bl b)⟩
  · cases z
end
section
variable {P : Program} {w : World} {K : PySem.W.Frag} {mg : Str → Option Value} {base : Heap}
/-- a def that may raise keeps its word, by its body's -/
theorem fn_px {x qual : Str} {params : Arguments} {body : List Stmt} {scope : Scope} {f : Addr} {fd : FuncData} {N ps : List Str} {k : Nat} {R : List D → D → Prop} {Y : List D → Addr → List (Str × D) → Prop} (F : FunD K x qual params body scope [] [] f fd) (S : FnScope N ps scope)
    (len : ∀ ds d, R ds d → ds.length = ps.length) (lenY : ∀ ds C fl, Y ds C fl → ds.length = ps.length)
    (hb : ∀ (cdv : Value) (A : Around) (outer : List PySem.Env) (s : Shared) (H : Hp) (E : XK), Room k (A.deeper (envOfC qual scope s.heap.objs.size f cdv)) →
      ∃ t, PSs (cxOf (L2.CX P w) P w K mg base N qual scope f cdv A outer s H E) body t ∧ (∀ ds d, R ds d → DL.ST K E t (start0 N.length ds) (fun o => o = .rt d ∨ (d = .none ∧ ∃ ρ, o = .nx ρ))) ∧
        (∀ ds C fl, Y ds C fl → DL.ST K E t (start0 N.length ds) (fun o => o = .ex C fl))) : FnOk P w K mg base (L2.CX P w) (k + 1) f fd ps (PX K R Y) := by
  refine F.ok S (fun vs H Q E h => ?_) (fun cdv A outer s H vs Q E hr h => ?_)
  · obtain ⟨G, ds, g, ha, h⟩ := h
    rcases h with ⟨d, hR, _⟩ | ⟨C, fl, hY, _⟩
    · exact ha.length.trans (len ds d hR)
    · exact ha.length.trans (lenY ds C fl hY)
  · obtain ⟨t, h1, h2, h3⟩ := hb cdv A outer s H E hr
    obtain ⟨G, ds, g, ha, h⟩ := h
    rcases h with ⟨d, hR, q⟩ | ⟨C, fl, hY, q⟩
    · refine ⟨t, h1, h2 ds d hR G H G H _ _ (en_start g ha) ⟨fun ρ' σ' G' H' p E' => ?_, fun d' v G' H' p x hv => ?_, fun ρ' σ' G' H' p E' => ?_, fun ρ' σ' G' H' p E' => ?_, fun C fl dd fs G' H' p => ?_⟩⟩
      · rcases p with p | ⟨rfl, _⟩
        · cases p
        · exact q _ G' H' E'.ext .non
      · rcases p with p | ⟨rfl, ρ, p⟩
        · cases p
          exact q v G' H' x hv
        · cases p
      · rcases p with p | ⟨_, _, p⟩ <;> cases p
      · rcases p with p | ⟨_, _, p⟩ <;> cases p
      · rcases p with p | ⟨_, _, p⟩ <;> cases p
    · exact ⟨t, h1, h3 ds C fl hY G H G H _ _ (en_start g ha) ⟨(fun _ _ _ _ p _ => nomatch p), (fun _ _ _ _ p _ => nomatch p), (fun _ _ _ _ p _ => nomatch p), (fun _ _ _ _ p _ => nomatch p), fun C' fl' dd fs G' H' p x h4 h5 => by
        cases p
        exact q dd fs G' H' x h4 h5⟩⟩
/-- an __init__ with one field -/
theorem fn_init1 {qual f1 : Str} {params : Arguments} {body : List Stmt} {scope : Scope} {f C : Addr} {fd : FuncData} {N : List Str} {k : Nat} (F : FunD K "__init__" qual params body scope [] [] f fd) (S : FnScope N ["self", f1] scope) (hN : N = (["self", f1] : List Str)) (T : OexC K C) (hno : PySem.W.findIn K (.ref C) f1 = some none)
    (hb : ∀ (cdv : Value) (A : Around) (outer : List PySem.Env) (s : Shared) (H : Hp) (E : XK), PSs (cxOf CX0 P w K mg base N qual scope f cdv A outer s H E) body (tOst K f1 (tVar 0) (tVar 1))) :
    FnOk P w K mg base CX0 (k + 1) f fd ["self", f1] (spI K C [f1]) := by
  subst hN
  refine F.ok S (fun vs H Q E h => ?_) (fun cdv A outer s H vs Q E hr h => ⟨_, hb cdv A outer s H E, ?_⟩)
  · obtain ⟨a, ys, rfl, hl, _⟩ := h
    rw [List.length_cons, hl]; rfl
  · obtain ⟨a, ys, rfl, hl, ha, q⟩ := h
    match ys, hl with
    | [y], _ =>
      refine ⟨_, rfl, _, rfl, a, C, rfl, T, hno, .inl ⟨ha, fun dx hd ne => ?_⟩⟩
      refine q dx _ hd ne upd_same (by rw [upd_ne ne, upd_same]; rfl) fun b h1 h2 => by rw [upd_ne h1, upd_ne h2]
/-- .. with two fields -/
theorem fn_init2 {qual f1 f2 : Str} {params : Arguments} {body : List Stmt} {scope : Scope} {f C : Addr} {fd : FuncData} {N : List Str} {k : Nat} (F : FunD K "__init__" qual params body scope [] [] f fd) (S : FnScope N ["self", f1, f2] scope) (hN : N = (["self", f1, f2] : List Str)) (T : OexC K C)
    (hno1 : PySem.W.findIn K (.ref C) f1 = some none) (hno2 : PySem.W.findIn K (.ref C) f2 = some none)
    (hb : ∀ (cdv : Value) (A : Around) (outer : List PySem.Env) (s : Shared) (H : Hp) (E : XK), PSs (cxOf CX0 P w K mg base N qual scope f cdv A outer s H E) body (tSeq (tOst K f1 (tVar 0) (tVar 1)) (tOst K f2 (tVar 0) (tVar 2)))) :
    FnOk P w K mg base CX0 (k + 1) f fd ["self", f1, f2] (spI K C [f1, f2]) := by
  subst hN
  refine F.ok S (fun vs H Q E h => ?_) (fun cdv A outer s H vs Q E hr h => ⟨_, hb cdv A outer s H E, ?_⟩)
  · obtain ⟨a, ys, rfl, hl, _⟩ := h
    rw [List.length_cons, hl]; rfl
  · obtain ⟨a, ys, rfl, hl, ha, q⟩ := h
    match ys, hl with
    | [y, z], _ =>
      refine ⟨_, rfl, _, rfl, a, C, rfl, T, hno1, .inl ⟨ha, fun dx hd ne => ?_⟩⟩
      refine ⟨_, rfl, _, rfl, a, C, rfl, T, hno2, .inr ⟨dx, _, upd_same, by rw [upd_ne ne, upd_same], by show 1 ≤ 900; decide, ?_⟩⟩
      refine q dx _ hd ne (by rw [upd_ne ne.symm, upd_same]) (by rw [upd_same]; rfl) fun b h1 h2 => by rw [upd_ne h2, upd_ne h1, upd_ne h2]
end
end DL

set_option maxHeartbeats 1000000
/-! DL8: what the top has left: a Hook with one more Bool; own exception classes. -/
namespace DL
open PySem PySem.Spec PyProof.Rows L2

/-! ### the Hook -/
structure SaysB (fa : List He.Fa) (fn : List He.DefD) (ex : PySem.W.Frag → Bool) (K : PySem.W.Frag) : Prop where
  d : He.SaysD fa fn K
  more : ex K = true
abbrev AlB : Type := He.AlD × Bool
def obsB (fa : List He.Fa) (fn : List He.DefD) (ex : PySem.W.Frag → Bool) (K : PySem.W.Frag) : AlB := (He.obsD fa fn K, ex K)
def obsBG (n : Nat) (fa : List He.Fa) (fn : List He.DefD) (ex : PySem.W.Frag → Bool) (g : Addr → Option Obj) : AlB := obsB fa fn ex (He.frG g (He.asD g n))
def hookB (n : Nat) (fa : List He.Fa) (fn : List He.DefD) (ex : PySem.W.Frag → Bool) : PySem.W.Hook where
  α := AlB
  obs := fun s => obsBG n fa fn ex s.heap.get?
  val := fun _ => (He.valD fn, true)
  says := fun _ h => ∃ K : PySem.W.Frag, K.In h ∧ SaysB fa fn ex K
  of := fun _ _ e => ⟨_, He.frG_in, ⟨congrArg (fun z : AlB => z.1) e, congrArg (fun z : AlB => z.2) e⟩⟩
  keeps := fun _ _ _ ⟨K, hK, c⟩ k => ⟨K, PySem.W.Frag.In.keeps hK k, c⟩
theorem obsBG_eq {n : Nat} {fa : List He.Fa} {fn : List He.DefD} {ex : PySem.W.Frag → Bool} {g : Addr → Option Obj} {s : Shared} (h : ∀ a, g a = s.heap.get? a) : obsBG n fa fn ex g = (hookB n fa fn ex).obs s := by
  have e : g = s.heap.get? := funext h
  rw [e] <;> rfl

/-! ### an own exception class -/
def oexB (K : PySem.W.Frag) (C : Addr) : Bool := match K.lookup C with
  | some ⟨.type "type", _, .cls cd, sl⟩ => (match cd.mro, sl.toList with
    | .ref C' :: bm, [_, _, _, _, some (.builtin n), _] => C' == C && (n == "ValueError.__new__" && (!cd.hasDel && (cd.hasDict && PySem.HandSPX.refsVE bm)))
    | _, _ => false)
  | _ => false
theorem oexB_ok {K : PySem.W.Frag} {C : Addr} (h : oexB K C = true) : ∃ nm q N bs bm sn sub ab col dd k0 k1 k2 k3 k5, K.lookup C = some (excClassObj nm q C N bs bm true sn sub ab col dd k0 k1 k2 k3 k5 "ValueError.__new__") ∧ PySem.HandSPX.refsVE bm = true := by
  unfold oexB at h
  split at h
  · rename_i dd cd sl hl
    split at h
    · rename_i C' bm a0 a1 a2 a3 n a5 hm hs
      obtain ⟨h1, h⟩ := Bool.and_eq_true_iff.mp h
      obtain ⟨h2, h⟩ := Bool.and_eq_true_iff.mp h
      obtain ⟨h3, h⟩ := Bool.and_eq_true_iff.mp h
      obtain ⟨h4, h5⟩ := Bool.and_eq_true_iff.mp h
      have e1 : C' = C := beq_iff_eq.mp h1
      have e2 : n = "ValueError.__new__" := beq_iff_eq.mp h2
      subst e1
      subst e2
      obtain ⟨nm, bs, mro, N, q, hd, sn, sub, ab, col, del⟩ := cd
      dsimp only at hm h3 h4
      subst hm
      subst h4
      have e3 : del = false := by
        cases del with
        | false => rfl
        | true => cases h3
      subst e3
      have e4 : sl = #[a0, a1, a2, a3, some (.builtin "ValueError.__new__"), a5] := by
        cases sl with
        | mk l => exact congrArg Array.mk hs
      subst e4
      exact ⟨nm, q, N, bs, bm, sn, sub, ab, col, dd, a0, a1, a2, a3, a5, hl, h5⟩
    · cases h
  · cases h
structure ExF (K : PySem.W.Frag) (C : Addr) : Prop where
  oex : OexC K C
  exc : ExcC K C
  xf : XfC K C
def exB (K : PySem.W.Frag) (C : Addr) : Bool := oexB K C && (He.eqO (PySem.W.findIn K (.ref C) "__setattr__") (some (some (.builtin "object.__setattr__"))) && (decide (PySem.W.subIn K (.ref C) (.type "BaseException") = some true) && (decide (PySem.W.typeIn K (.ref C) = some (.type "type")) && (PySem.W.keepIn K (.ref C) &&
  (He.eqO (PySem.W.findIn K (.ref C) "__getattribute__") (some (some (.builtin "BaseException.__getattribute__"))) && (He.eqO (PySem.W.findIn K (.ref C) "__getattr__") (some none) && (PySem.W.hasDictIn K C && (He.eqO (PySem.W.findIn K (.ref C) "__class__") (some (some (.builtin "object.__class__"))) &&
  (He.eqO (PySem.W.specialIn K (.builtin "object.__class__") "__get__") (some (some (.builtin "getset_descriptor.__get__"))) && (decide (PySem.W.takesIn K (.builtin "object.__class__") = some true) && decide (PySem.W.mroIn K C (.type "object") = some true)))))))))))
theorem exB_ok {K : PySem.W.Frag} {C : Addr} (h : exB K C = true) : ExF K C := by
  unfold exB at h
  obtain ⟨h1, h⟩ := Bool.and_eq_true_iff.mp h
  obtain ⟨h2, h⟩ := Bool.and_eq_true_iff.mp h
  obtain ⟨h3, h⟩ := Bool.and_eq_true_iff.mp h
  obtain ⟨h4, h⟩ := Bool.and_eq_true_iff.mp h
  obtain ⟨h5, h⟩ := Bool.and_eq_true_iff.mp h
  obtain ⟨h6, h⟩ := Bool.and_eq_true_iff.mp h
  obtain ⟨h7, h⟩ := Bool.and_eq_true_iff.mp h
  obtain ⟨h8, h⟩ := Bool.and_eq_true_iff.mp h
  obtain ⟨h9, h⟩ := Bool.and_eq_true_iff.mp h
  obtain ⟨h10, h⟩ := Bool.and_eq_true_iff.mp h
  obtain ⟨h11, h12⟩ := Bool.and_eq_true_iff.mp h
  have a3 := of_decide_eq_true h3
  exact ⟨⟨oexB_ok h1, He.eqO_ok h2, a3, of_decide_eq_true h4, h5⟩, ⟨He.eqO_ok h6, He.eqO_ok h7, a3, h8, He.eqO_ok h9, He.eqO_ok h10, of_decide_eq_true h11, of_decide_eq_true h12⟩, ⟨He.eqO_ok h6, He.eqO_ok h7, a3, h8⟩⟩
/-- its __init__ -/
def exI (K : PySem.W.Frag) (C : Addr) : Bool := He.eqO (PySem.W.findIn K (.ref C) "__init__") (some (some (.ref (He.ma K C "__init__")))) && decide (PySem.W.typeIn K (.ref (He.ma K C "__init__")) = some (.type "function"))
theorem exI_ok {K : PySem.W.Frag} {C : Addr} (h : exI K C = true) : PySem.W.findIn K (.ref C) "__init__" = some (some (.ref (He.ma K C "__init__"))) ∧ PySem.W.typeIn K (.ref (He.ma K C "__init__")) = some (.type "function") := by
  obtain ⟨h1, h2⟩ := Bool.and_eq_true_iff.mp h
  exact ⟨He.eqO_ok h1, of_decide_eq_true h2⟩
def kitR (K : PySem.W.Frag) (C E : Addr) (b : Bool) : Bool := decide (PySem.W.kitOne K (.ref C) (.ref E) = some b)
def kitT (K : PySem.W.Frag) (C : Addr) (n : String) (b : Bool) : Bool := decide (PySem.W.kitOne K (.ref C) (.type n) = some b)
theorem kitR_ok {K : PySem.W.Frag} {C E : Addr} {b : Bool} (h : kitR K C E b = true) : PySem.W.kitOne K (.ref C) (.ref E) = some b := of_decide_eq_true h
theorem kitT_ok {K : PySem.W.Frag} {C : Addr} {n : String} {b : Bool} (h : kitT K C n b = true) : PySem.W.kitOne K (.ref C) (.type n) = some b := of_decide_eq_true h
/-- all of a list of Bools -/
theorem allB {bs : List Bool} (h : bs.all id = true) (i : Nat) {b : Bool} (e : bs[i]? = some b) : b = true := List.all_eq_true.mp h b (List.mem_of_getElem? e)
end DL

set_option maxHeartbeats 1000000
/-! DL9: short words for derivations and readings. -/
namespace DL
open PySem PySem.Spec PyProof.Rows L2

theorem b_len : bootBuiltins "len" = some (.builtin "len") := by decide +kernel
theorem b_isinstance : bootBuiltins "isinstance" = some (.builtin "isinstance") := by decide +kernel
theorem b_sorted : bootBuiltins "sorted" = some (.builtin "sorted") := by decide +kernel
theorem b_int : bootBuiltins "int" = some (.type "int") := by decide +kernel
theorem b_str : bootBuiltins "str" = some (.type "str") := by decide +kernel
theorem b_bool : bootBuiltins "bool" = some (.type "bool") := by decide +kernel
theorem b_tuple : bootBuiltins "tuple" = some (.type "tuple") := by decide +kernel
theorem b_list : bootBuiltins "list" = some (.type "list") := by decide +kernel
theorem b_dict : bootBuiltins "dict" = some (.type "dict") := by decide +kernel
theorem b_ValueError : bootBuiltins "ValueError" = some (.type "ValueError") := by decide +kernel

/-- a def of the top keeps sp, at level k -/
structure Okd (P : Program) (w : World) (K : PySem.W.Frag) (mg : Str → Option Value) (base : Heap) (CX : CXT) (k : Nat) (x : Str) (ps : List Str) (sp : Sp) : Prop where
  m : mg x = some (.ref (He.ga K x))
  ok : ∃ fd, FnOk P w K mg base CX k (He.ga K x) fd ps sp ∧ Binds K fd ps [] ∧ PySem.W.keepIn K (.ref (He.ga K x)) = true
section
variable {X : Cx} {pos p : Pos}
theorem pe_callD {k j : Nat} {x : Str} {ps : List Str} {sp : Sp} {e : Expr} {es : List Expr} {t : TA} (O : Okd X.prog X.w X.K X.mg X.base CX0 k x ps sp) (hr : Room j X.A) (hk : k ≤ j) (ha : PA X (e :: es) t) (hg : Gl X x := by rfl)
    (hdb : (x == ("__debug__" : Str)) = false := by decide) (he : starEach (e :: es) X.env = (false, eval e X.env) :: starEach es X.env := by rfl) (hpl : (backTo pos (starEach es X.env)).any (·.1) = false := by rfl) :
    PE X (.Call (.Name x p) (e :: es) [] pos) (tCall sp [] E0 t) := by
  obtain ⟨m, fd, F, b, kp⟩ := O
  exact pe_call F (hr.mono hk) hg m kp b .nil pass0 ha hdb he hpl
/-- .. of one that may raise, what is raised being wished for at the slots -/
theorem pe_callDS {k j : Nat} {x : Str} {ps : List Str} {sp : Sp} {e : Expr} {es : List Expr} {t : TA} {W : WX} (O : Okd X.prog X.w X.K X.mg X.base (L2.CX X.prog X.w) k x ps sp) (hr : Room j X.A) (hk : k ≤ j) (tk : Takes X W) (ha : PA X (e :: es) t) (hg : Gl X x := by rfl)
    (hdb : (x == ("__debug__" : Str)) = false := by decide) (he : starEach (e :: es) X.env = (false, eval e X.env) :: starEach es X.env := by rfl) (hpl : (backTo pos (starEach es X.env)).any (·.1) = false := by rfl) :
    PE X (.Call (.Name x p) (e :: es) [] pos) (tCallS sp (WE W) t) := by
  obtain ⟨m, fd, F, b, kp⟩ := O
  exact pe_callS F (hr.mono hk) hg m kp b (fun σ => passAt tk σ) ha hdb he hpl
theorem pe_gint {x : Str} {i : Int} (hm : ∃ t, X.mg x = some (.int i t)) (hg : Gl X x := by rfl) (hd : (x == ("__debug__" : Str)) = false := by decide) : PE X (.Name x pos) (tC (.int i)) := by
  obtain ⟨t, hm⟩ := hm
  exact pe_glob hg hm ⟨t, rfl⟩ hd
theorem pe_gstr {x z : Str} (hm : ∃ t, X.mg x = some (.str z t)) (hg : Gl X x := by rfl) (hd : (x == ("__debug__" : Str)) = false := by decide) : PE X (.Name x pos) (tC (.str z)) := by
  obtain ⟨t, hm⟩ := hm
  exact pe_glob hg hm ⟨t, rfl⟩ hd
theorem pe_gref {x : Str} {a : Addr} (hm : X.mg x = some (.ref a)) (hg : Gl X x := by rfl) (hd : (x == ("__debug__" : Str)) = false := by decide) : PE X (.Name x pos) (tC (.ref a)) := pe_glob hg hm rfl hd
def tTr (K : PySem.W.Frag) (ta : TE) : TT := fun σ H Q => ta σ H fun x H' => ∃ k, TruV K x H' k ∧ Q k H'
theorem pt_tr {e : Expr} {te : TE} (h : PE X e te) (he : ∀ whole, isTrue e X.env whole = (do let v ← whole; standAt e.pos; holding [v] (truthy v)) := by intro _; rfl) : PT X e (tTr X.K te) := pt_truth h he
def rJoinU (K : PySem.W.Frag) : V → List V → Hp → VK → Prop := fun x xs H Q => ∃ a p, ∃ ys : List Str, x = .str a ∧ xs = [.ref p] ∧ (SqL K H p (ys.map V.str) ∨ SqT K H p (ys.map V.str)) ∧
  (ys.map (·.length)).sum + ys.length * a.length ≤ 16777216 ∧ Q (.str (Txt.join a ys)) H
theorem pe_joinU {o e : Expr} {to te : TE} {apos : Pos} (ho : PE X o to) (he : PE X e te) (hs : starEach [e] X.env = [(false, eval e X.env)] := by rfl) (hbase : attributeBase o "join" X.env (eval o X.env) = eval o X.env := by rfl) (hline : (apos.endLine == pos.line) = true := by rfl) :
    PE X (.Call (.Attribute o "join" apos) [e] [] pos) (tM1 (rJoinU X.K) to te) := pe_join ho he hs hbase hline
def rSIx : V → List V → Hp → VK → Prop := fun x xs H Q => ∃ a b i rest, x = .str a ∧ xs = [.str b] ∧ Builtin.Str.occurrences a b 0 a.length 1 = i :: rest ∧ Q (.int (i : Nat)) H
theorem pe_sindex {o e : Expr} {to te : TE} {apos : Pos} (ho : PE X o to) (he : PE X e te) (hs : starEach [e] X.env = [(false, eval e X.env)] := by rfl) (hbase : attributeBase o "index" X.env (eval o X.env) = eval o X.env := by rfl) (hline : (apos.endLine == pos.line) = true := by rfl) :
    PE X (.Call (.Attribute o "index" apos) [e] [] pos) (tM1 rSIx to te) := pe_m1 F.slot_str_index F.type_str_index mt_sindex ho he hs hbase hline
/-- raise C(e, ..) of an own class whose __init__ stores its arguments -/
def tRaiseO (K : PySem.W.Frag) (C : Addr) (fls : List Str) (Ex : XK) (t : TA) : TS := fun _ σ H => tMkO C (spI K C fls) [] t σ H fun cls d H' => (fun (cls : Value) (d : Option Addr) (_ : L2.St) (H : Hp) => Ex cls d H) cls d σ H'
/-- what the walk asks of such a class: where it stands, its word -/
structure ExOk (P : Program) (w : World) (K : PySem.W.Frag) (mg : Str → Option Value) (base : Heap) (k : Nat) (x : Str) (fls : List Str) : Prop where
  m : mg x = some (.ref (He.ga K x))
  ef : ExF K (He.ga K x)
  ini : PySem.W.findIn K (.ref (He.ga K x)) "__init__" = some (some (.ref (He.ma K (He.ga K x) "__init__"))) ∧ PySem.W.typeIn K (.ref (He.ma K (He.ga K x) "__init__")) = some (.type "function")
  ok : ∃ fd, FnOk P w K mg base CX0 k (He.ma K (He.ga K x) "__init__") fd ("self" :: fls) (spI K (He.ga K x) fls) ∧ Binds K fd ("self" :: fls) []
theorem ps_raiseO {k j : Nat} {x : Str} {fls : List Str} {Ex : XK} {e : Expr} {es : List Expr} {t : TA} {pos2 : Pos} (O : ExOk X.prog X.w X.K X.mg X.base k x fls) (hr : Room j X.A) (hk : k + 1 ≤ j) (hc : X.calm = true) (tk : Takes X (fun cls d _ H => Ex cls d H)) (ha : PA X (e :: es) t) (hg : Gl X x := by rfl)
    (hdb : (x == ("__debug__" : Str)) = false := by decide) (he : starEach (e :: es) X.env = (false, eval e X.env) :: starEach es X.env := by rfl) (hpl : (backTo pos (starEach es X.env)).any (·.1) = false := by rfl) :
    PS X (.Raise (some (.Call (.Name x p) (e :: es) [] pos)) none pos2) (tRaiseO X.K (He.ga X.K x) fls Ex t) := by
  obtain ⟨m, ef, ⟨i1, i2⟩, fd, F, b⟩ := O
  exact ps_raise hc tk (pmk_oex ef.oex i1 i2 F (hr.mono hk) b .nil (fun _ _ _ _ _ _ _ h => h.elim) hg m ha hdb he hpl)
/-- try: x = f(..) / except C as n: suite; nothing else leaves -/
def tTryA (K : PySem.W.Frag) (c : Value) (i : Nat) (ts : Addr → Value → Option Addr → TS) (sp : Sp) (t : TA) (j : Nat) : TS := fun D σ H => tAsg (tCallS sp (WE (wAs K c i ts (fun _ _ _ _ => False) D)) t) (gName j) D σ H
end
section
variable {K : PySem.W.Frag} {Ex : XK} {ρ : List Sl} {ta tb te : TE} {tt : TT} {t u v : TS} {d : D} {P : Oc → Prop}
theorem st_raiseO {C : Addr} {fls : List Str} {t : TA} {ds : List D} (h : EA K t ρ ds) (hl : ds.length = fls.length) (hl2 : ds.length ≤ 1000) (q : P (.ex C (fls.zip ds).reverse)) : ST K Ex (tRaiseO K C fls Ex t) ρ P := st_raise h hl hl2 q
theorem st_tryA {R : List D → D → Prop} {Y : List D → Addr → List (Str × D) → Prop} {t : TA} {ds : List D} {i j : Nat} {c : Value} {ts : Addr → Value → Option Addr → TS} (h : EA K t ρ ds)
    (hr : (∃ d, R ds d ∧ P (.nx (ρ.set j (.fr d)))) ∨
      (∃ C fl, Y ds C fl ∧ PySem.W.exmOne K (.ref C) c = some true ∧ ∀ a dd, ST K E0 (ts a (.ref C) (some dd)) (ρ.set i (Sl.ex a dd fl)) (suiP i P))) :
    ST K Ex (tTryA K c i ts (PX K R Y) t j) ρ P := st_tryAsg h hr
theorem q_asg {i : Nat} (h : EV K te ρ d) (q : ST K Ex u (ρ.set i (.fr d)) P) : ST K Ex (tSeq (tAsg te (gName i)) u) ρ P := st_seq (st_asg h q)
theorem q_asgN {i : Nat} (h : EVN K te ρ d) (q : ST K Ex u (ρ.set i (.ow d)) P) : ST K Ex (tSeq (tAsg te (gName i)) u) ρ P := st_seq (st_asgN h q)
theorem q_asgG {g : TG} {ρ' : List Sl} {ts : List Nat} (h : EV K te ρ d) (hg : GT K g ρ d ρ' ts) (q : ST K Ex u ρ' P) : ST K Ex (tSeq (tAsg te g) u) ρ P := st_seq (st_asgG h hg q)
theorem q_append {n : Nat} {ds : List D} (hi : ρ[n]? = some (.ow (.list ds))) (h : EV K te ρ d) (hz : ds.length < 16000000) (q : ST K Ex u (ρ.set n (.ow (.list (ds ++ [d])))) P) :
    ST K Ex (tSeq (tDrop (tBM K "list" rAppend (tVar n) (tCons te tNil))) u) ρ P := st_seq (st_append hi h hz q)
theorem q_setL {n : Nat} {ds : List D} {i : Int} {j : Nat} (hi : ρ[n]? = some (.ow (.list ds))) (h : EV K te ρ d) (hb : EV K tb ρ (.int i)) (hj : ixN ds.length i = some j) (q : ST K Ex u (ρ.set n (.ow (.list (ds.set j d)))) P) :
    ST K Ex (tSeq (tAsg te (gSub (tVar n) tb rSetL)) u) ρ P := st_seq (st_setL hi h hb hj q)
theorem q_augI {n : Nat} {a b : Int} (hi : ρ[n]? = some (.fr (.int a))) (h : EV K te ρ (.int b)) (q : ST K Ex u (ρ.set n (.fr (.int (a + b)))) P) : ST K Ex (tSeq (tAug n te rIAddU) u) ρ P := st_seq (st_augI hi h q)
theorem q_augO {n : Nat} {ds es : List D} (hi : ρ[n]? = some (.ow (.list ds))) (h : EV K te ρ (.list es)) (hz : ds.length + es.length ≤ 16000000) (q : ST K Ex u (ρ.set n (.ow (.list (ds ++ es)))) P) :
    ST K Ex (tSeq (tAug n te rIAddU) u) ρ P := st_seq (st_augO hi h hz q)
/-- if c: t (no else), then u -/
theorem q_when {b : Bool} (h : ET K tt ρ b) (h1 : b = true → ST K Ex t ρ (seqP K Ex u P)) (h2 : b = false → ST K Ex u ρ P) : ST K Ex (tSeq (tIfS tt t tNext) u) ρ P := st_seq (st_if h h1 fun hb => st_next (h2 hb))
theorem q_if {b : Bool} (h : ET K tt ρ b) (h1 : b = true → ST K Ex t ρ (seqP K Ex u P)) (h2 : b = false → ST K Ex v ρ (seqP K Ex u P)) : ST K Ex (tSeq (tIfS tt t v) u) ρ P := st_seq (st_if h h1 h2)
theorem et_or1 {tu : TT} (h : ET K tt ρ true) : ET K (tOr tt tu) ρ true := fun G0 H0 G H σ Q E q => h G0 H0 G H σ _ E fun G1 H1 e1 => q G1 H1 e1
theorem et_and0 {tu : TT} (h : ET K tt ρ false) : ET K (tAnd tt tu) ρ false := fun G0 H0 G H σ Q E q => h G0 H0 G H σ _ E fun G1 H1 e1 => q G1 H1 e1
theorem ev_or1 (h : EV K ta ρ (.bool true)) : EV K (tOrV ta tb) ρ (.bool true) := ev_orV (b := true) h (fun z => nomatch z)
theorem ev_and0 (h : EV K ta ρ (.bool false)) : EV K (tAndV ta tb) ρ (.bool false) := ev_andV (b := true) h (fun z => nomatch z)
theorem ev_if1 (h : ET K tt ρ true) (h1 : EV K ta ρ d) : EV K (tIf tt ta tb) ρ d := ev_if h (fun _ => h1) (fun z => nomatch z)
theorem ev_if0 (h : ET K tt ρ false) (h1 : EV K tb ρ d) : EV K (tIf tt ta tb) ρ d := ev_if h (fun z => nomatch z) (fun _ => h1)
theorem q_yes (h : ET K tt ρ true) (h1 : ST K Ex t ρ (seqP K Ex u P)) : ST K Ex (tSeq (tIfS tt t v) u) ρ P := q_if h (fun _ => h1) (fun z => nomatch z)
theorem q_no (h : ET K tt ρ false) (h1 : ST K Ex u ρ P) : ST K Ex (tSeq (tIfS tt t tNext) u) ρ P := q_when h (fun z => nomatch z) (fun _ => h1)
theorem q_noE (h : ET K tt ρ false) (h1 : ST K Ex v ρ (seqP K Ex u P)) : ST K Ex (tSeq (tIfS tt t v) u) ρ P := q_if h (fun z => nomatch z) (fun _ => h1)
/-- a word between two statements -/
def cutP (M : List Sl → Prop) (P : Oc → Prop) : Oc → Prop
  | .nx ρ => M ρ
  | o => P o
theorem q_cut (M : List Sl → Prop) (h : ST K Ex t ρ (cutP M P)) (k : ∀ ρ', M ρ' → ST K Ex u ρ' P) : ST K Ex (tSeq t u) ρ P := st_seq (h.mono fun o p => match o, p with
  | .nx ρ', p => k ρ' p
  | .rt _, p => p
  | .bk _, p => p
  | .ct _, p => p
  | .ex _ _, p => p)
theorem isNone_ne {d : D} (h : d ≠ .none) : isNoneD d = false := by cases d <;> first | rfl | exact absurd rfl h
/-- if c: x = e (no else): the value of x behind it -/
theorem q_ifAsg {b : Bool} {i : Nat} {d' : D} (hi : ρ[i]? = some (.fr d')) (h : ET K tt ρ b) (h1 : b = true → EV K te ρ d) (q : ST K Ex u (ρ.set i (.fr (if b = true then d else d'))) P) : ST K Ex (tSeq (tIfS tt (tAsg te (gName i)) tNext) u) ρ P := by
  refine st_seq (st_if h (fun hb => st_asg (h1 hb) ?_) fun hb => st_next ?_)
  · rw [if_pos hb] at q
    exact q
  · rw [if_neg (by rw [hb]; exact Bool.false_ne_true)] at q
    have e : ρ.set i (.fr d') = ρ := by
      refine List.ext_getElem? fun k => ?_
      by_cases z : i = k
      · subst z
        rw [List.getElem?_set_self (List.getElem?_eq_some_iff.mp hi).1, hi]
      · rw [List.getElem?_set_ne z]
    rw [e] at q
    exact q
theorem q_for {wi : TI} {g : TG} {n : Nat} {item : Nat → D} (hi : EI K wi ρ n item) (I : Nat → List Sl → Prop) (h0 : I 0 ρ)
    (hs : ∀ i ρ1, i < n → I i ρ1 → ∃ ρ2 ts, GT K g ρ1 (item i) ρ2 ts ∧ ST K Ex t ρ2 (loopP (I (i + 1)) (seqP K Ex u P)))
    (hd : ∀ ρ1, I n ρ1 → ST K Ex u ρ1 P) : ST K Ex (tSeq (tFor wi g t) u) ρ P := st_seq (st_for hi I h0 hs hd)
theorem q_while {I : Nat → List Sl → Prop} (m : Nat) (h0 : I m ρ)
    (hs : ∀ m ρ1, I m ρ1 → ∃ b, ET K tt ρ1 b ∧ (b = true → ST K Ex t ρ1 (loopP (fun ρ3 => ∃ m', m' < m ∧ I m' ρ3) (seqP K Ex u P))) ∧ (b = false → ST K Ex u ρ1 P)) : ST K Ex (tSeq (tWhile tt t) u) ρ P := st_seq (st_while m h0 hs)
theorem q_frz {i : Nat} (hi : ρ[i]? = some (.ow d)) (h : ST K Ex t (ρ.set i (.fr d)) P) : ST K Ex t ρ P := st_frz hi h
/-- what a def answers, told by a word about the answer -/
def PQ (K : PySem.W.Frag) (Pre : List D → Prop) (Post : List D → D → Prop) : Sp := fun vs H Q _ => ∃ G ds, GH G H ∧ DqA K G vs ds ∧ Pre ds ∧ ∀ d v G' H', Post ds d → Ext G H G' H' → Dq K G' v d → Q v H'
theorem q_asgQ {Pre : List D → Prop} {Post : List D → D → Prop} {Ey : XK} {t : TA} {ds : List D} {i : Nat} (h : EA K t ρ ds) (hp : Pre ds) (q : ∀ d, Post ds d → ST K Ex u (ρ.set i (.fr d)) P) : ST K Ex (tSeq (tAsg (tCall (PQ K Pre Post) [] Ey t) (gName i)) u) ρ P :=
  st_seq fun G0 H0 G H σ D E f => h G0 H0 G H σ _ E fun vs G1 H1 e1 h1 => by
    rw [List.append_nil]
    exact ⟨G1, ds, e1.gh, h1, hp, fun d v G2 H2 hd x hv => f.nx _ _ G2 H2 (q d hd) (((E.go e1).go x).setF i hv)⟩
/-! tests -/
def truD : D → Bool
  | .none => false
  | .bool b => b
  | .int i => i != 0
  | .str s => (s.length : Int) != 0
  | .list ds => !ds.isEmpty
  | .tuple ds => !ds.isEmpty
  | .dict _ => false
theorem et_tr (h : EV K ta ρ d) (nd : isDicD d = false) (hz : ∀ s, d = .str s → s.length ≤ sizeLine) : ET K (tTr K ta) ρ (truD d) := fun G0 H0 G H σ Q E q => h G0 H0 G H σ _ E fun v G1 H1 e1 h1 => by
  refine ⟨truD d, ?_, q G1 H1 e1⟩
  cases h1 with
  | non => exact rfl
  | bl b => exact rfl
  | int i => exact rfl
  | str x => exact ⟨hz x rfl, rfl⟩
  | @lst a xs ds ha hr =>
    refine .inl ⟨xs, SqL.of (e1.gh.lst ha), ?_⟩
    have := hr.length
    cases xs <;> cases ds <;> first | rfl | cases this
  | @tup a xs ds ha hr =>
    refine .inr (.inl ⟨xs, e1.gh.t ha, ?_⟩)
    have := hr.length
    cases xs <;> cases ds <;> first | rfl | cases this
  | dK _ _ => cases nd
  | dT _ _ => cases nd
  | scr _ => cases nd
theorem et_trB {b : Bool} (h : EV K ta ρ (.bool b)) : ET K (tTr K ta) ρ b := et_tr h rfl (fun _ z => nomatch z)
theorem et_trO {n : Nat} {ds : List D} (hi : ρ[n]? = some (.ow (.list ds))) : ET K (tTr K (tVar n)) ρ (!ds.isEmpty) := fun G0 H0 G H σ Q E q => by
  obtain ⟨l, vs, h1, h2, h3⟩ := own_look E hi
  refine ⟨_, h1, _, .inl ⟨vs, SqL.of h2, rfl⟩, ?_⟩
  have e : (!vs.isEmpty) = (!ds.isEmpty) := by
    have := h3.length
    cases vs <;> cases ds <;> first | rfl | cases this
  rw [e]
  exact q G H (.refl E.gh)
/-! texts -/
theorem map_str_dq {G : Hp} : ∀ {ys : List Str} {vs : List V}, DqA K G vs (ys.map PyData.str) → vs = ys.map V.str
  | [], _, h => by cases h; rfl
  | y :: ys, _, h => by
    cases h with
    | cons a b =>
      cases a
      rw [List.map_cons, map_str_dq b]
theorem ev_joinL {a : Str} {ys : List Str} (h1 : EV K ta ρ (.str a)) (h2 : EV K tb ρ (.list (ys.map PyData.str))) (hz : (ys.map (·.length)).sum + ys.length * a.length ≤ 16777216) : EV K (tM1 (rJoinU K) ta tb) ρ (.str (Txt.join a ys)) := fun G0 H0 G H σ Q E q =>
  h1 G0 H0 G H σ _ E fun v G1 H1 e1 hv => by
    cases hv
    refine ⟨⟨a, rfl⟩, h2 G0 H0 G1 H1 σ _ (E.go e1) fun u G2 H2 e2 hu => ?_⟩
    cases hu with
    | @lst p xs _ ha hr =>
      have e := map_str_dq hr
      subst e
      exact ⟨a, p, ys, rfl, rfl, .inl (SqL.of (e2.gh.lst ha)), hz, q _ G2 H2 (e1.trans e2) (.str _)⟩
theorem ev_sindex {a b : Str} {i : Nat} {rest : List Nat} (h1 : EV K ta ρ (.str a)) (h2 : EV K tb ρ (.str b)) (ho : Builtin.Str.occurrences a b 0 a.length 1 = i :: rest) : EV K (tM1 rSIx ta tb) ρ (.int (i : Nat)) := fun G0 H0 G H σ Q E q =>
  h1 G0 H0 G H σ _ E fun v G1 H1 e1 hv => by
    cases hv
    refine ⟨⟨a, rfl⟩, h2 G0 H0 G1 H1 σ _ (E.go e1) fun u G2 H2 e2 hu => ?_⟩
    cases hu
    exact ⟨a, b, i, rest, rfl, rfl, ho, q _ G2 H2 (e1.trans e2) (.int _)⟩
/-! items -/
theorem atI_nn {α : Type} {ds : List α} {i : Int} (z : α) (h0 : 0 ≤ i) (h1 : i < ds.length) : atI ds i = some (ds.getD i.toNat z) := by
  obtain ⟨k, rfl⟩ : ∃ k : Nat, i = (k : Nat) := ⟨i.toNat, by omega⟩
  have hk : k < ds.length := by omega
  refine atI_nat ?_
  rw [List.getD_eq_getElem?_getD]
  simp [hk]
theorem atI_ints {ns : List Int} {i : Int} (h0 : 0 ≤ i) (h1 : i < ns.length) : atI (ns.map PyData.int) i = some (.int (ns.getD i.toNat 0)) := by
  obtain ⟨k, rfl⟩ : ∃ k : Nat, i = (k : Nat) := ⟨i.toNat, by omega⟩
  have hk : k < ns.length := by omega
  refine atI_nat ?_
  rw [List.getElem?_map, List.getD_eq_getElem?_getD]
  simp [hk]
theorem atI_strs {ys : List Str} {i : Int} (h0 : 0 ≤ i) (h1 : i < ys.length) : atI (ys.map PyData.str) i = some (.str (ys.getD i.toNat Str.empty)) := by
  obtain ⟨k, rfl⟩ : ∃ k : Nat, i = (k : Nat) := ⟨i.toNat, by omega⟩
  have hk : k < ys.length := by omega
  refine atI_nat ?_
  rw [List.getElem?_map, List.getD_eq_getElem?_getD]
  simp [hk]
theorem ixN_nn {n : Nat} {i : Int} (h0 : 0 ≤ i) (h1 : i < n) : ixN n i = some i.toNat := by
  unfold ixN
  rw [if_pos h0, if_pos h1]
end
/-! tuple(..), list(..) -/
def rTupU (K : PySem.W.Frag) : List V → Hp → VK → Prop := fun xs H Q => ∃ p ys, xs = [.ref p] ∧ ((SqL K H p ys ∧ ∀ l, H l = none → Q (.ref l) (upd H l (.tup ys))) ∨ (SqT K H p ys ∧ Q (.ref p) H))
theorem call_tupleU {X : Cx} : CallR X (.type "tuple") (rTupU X.K) := call_tuple_of
def rListU (K : PySem.W.Frag) : List V → Hp → VK → Prop := fun xs H Q => ∃ p ys, xs = [.ref p] ∧ (SqL K H p ys ∨ SqT K H p ys) ∧ ∀ l, H l = none → Q (.ref l) (upd H l (.lst ys))
theorem call_listU {X : Cx} : CallR X (.type "list") (rListU X.K) := call_list_of
theorem cd_tupL {K : PySem.W.Frag} {ds : List D} : CD K (rTupU K) [.list ds] (.tuple ds) := fun xs G H Q g hx q => by
  cases hx with
  | cons a b =>
    cases b
    cases a with
    | @lst a xs _ ha hr =>
      refine ⟨a, xs, rfl, .inl ⟨SqL.of (g.lst ha), fun l hl => ?_⟩⟩
      exact q _ _ _ (.new g hl) (.tup (SqT.of upd_same) (hr.mono (Ext.new g hl).g))
theorem cd_tupT {K : PySem.W.Frag} {ds : List D} : CD K (rTupU K) [.tuple ds] (.tuple ds) := fun xs G H Q g hx q => by
  cases hx with
  | cons a b =>
    cases b
    cases a with
    | @tup a xs _ ha hr => exact ⟨a, xs, rfl, .inr ⟨g.t ha, q _ G H (.refl g) (.tup ha hr)⟩⟩
theorem cn_listL {K : PySem.W.Frag} {ds : List D} : CN K (rListU K) [.list ds] (.list ds) := fun xs G H Q g hx q => by
  cases hx with
  | cons a b =>
    cases b
    cases a with
    | @lst a xs _ ha hr => exact ⟨a, xs, rfl, .inl (SqL.of (g.lst ha)), fun l hl => q l G _ (.fresh g hl) hl (g.none hl) (.lst upd_same hr)⟩
theorem cn_listT {K : PySem.W.Frag} {ds : List D} : CN K (rListU K) [.tuple ds] (.list ds) := fun xs G H Q g hx q => by
  cases hx with
  | cons a b =>
    cases b
    cases a with
    | @tup a xs _ ha hr => exact ⟨a, xs, rfl, .inr (g.t ha), fun l hl => q l G _ (.fresh g hl) hl (g.none hl) (.lst upd_same hr)⟩
/-! the first place where p holds, below n -/
def firstP (p : Nat → Bool) (n : Nat) : Option Nat := (List.range n).find? p
theorem firstP_some {p : Nat → Bool} {n i : Nat} (hi : i < n) (h0 : ∀ j, j < i → p j = false) (h1 : p i = true) : firstP p n = some i := by
  unfold firstP
  rw [List.find?_range_eq_some]
  exact ⟨h1, by simpa using hi, fun j hj => by rw [h0 j hj]; rfl⟩
theorem firstP_none {p : Nat → Bool} {n : Nat} (h0 : ∀ j, j < n → p j = false) : firstP p n = none := by
  unfold firstP
  rw [List.find?_eq_none]
  intro x hx
  rw [h0 x (by simpa using hx)]
  exact Bool.false_ne_true
theorem len_app (a b : Str) : (a ++ b).length = a.length + b.length := by
  show (a.cps ++ b.cps).size = a.cps.size + b.cps.size
  rw [Array.size_append]
theorem len_cut (z : Str) (lo hi : Option Int) : (cutS z lo hi).length ≤ z.length := cutS_length z lo hi
theorem len_rep (z : Str) (k : Int) : (repS z k).length = k.toNat * z.length := by
  unfold repS Str.length
  rw [List.size_toArray]
  have : ∀ m : Nat, ((List.replicate m z.cps.toList).flatten).length = m * z.cps.toList.length := fun m => by
    induction m with
    | zero => simp
    | succ m ih => rw [List.replicate_succ, List.flatten_cons, List.length_append, ih, Nat.succ_mul]; omega
  rw [this, Array.length_toList]
theorem len_one (c : Nat) : (⟨#[c]⟩ : Str).length = 1 := rfl
section
variable {P : Program} {w : World} {K : PySem.W.Frag} {mg : Str → Option Value} {base : Heap}
theorem fn_pq {x qual : Str} {params : Arguments} {body : List Stmt} {scope : Scope} {f : Addr} {fd : FuncData} {N ps : List Str} {k : Nat} {Pre : List D → Prop} {Post : List D → D → Prop} (F : FunD K x qual params body scope [] [] f fd) (S : FnScope N ps scope)
    (len : ∀ ds, Pre ds → ds.length = ps.length)
    (hb : ∀ (cdv : Value) (A : Around) (outer : List PySem.Env) (s : Shared) (H : Hp) (E : XK), Room k (A.deeper (envOfC qual scope s.heap.objs.size f cdv)) →
      ∃ t, PSs (cxOf CX0 P w K mg base N qual scope f cdv A outer s H E) body t ∧ ∀ ds, Pre ds → DL.ST K E0 t (start0 N.length ds) (fun o => ∃ d, o = .rt d ∧ Post ds d)) : FnOk P w K mg base CX0 (k + 1) f fd ps (PQ K Pre Post) := by
  refine F.ok S (fun vs H Q E h => ?_) (fun cdv A outer s H vs Q E hr h => ?_)
  · obtain ⟨G, ds, g, ha, hR, q⟩ := h
    exact ha.length.trans (len ds hR)
  · obtain ⟨t, h1, h2⟩ := hb cdv A outer s H E hr
    obtain ⟨G, ds, g, ha, hR, q⟩ := h
    exact ⟨t, h1, h2 ds hR G H G H _ _ (en_start g ha) ⟨(fun _ _ _ _ ⟨_, p, _⟩ _ => nomatch p), (fun d' v G' H' ⟨d, p, hp⟩ x hv => by cases p; exact q _ v G' H' hp x hv), (fun _ _ _ _ ⟨_, p, _⟩ _ => nomatch p), (fun _ _ _ _ ⟨_, p, _⟩ _ => nomatch p), (fun _ _ _ _ _ _ ⟨_, p, _⟩ => nomatch p)⟩⟩
end
end DL

set_option maxHeartbeats 1000000
/-! DL10: dicts by data. dkD: keys are ints and texts; dtD: keys are tuples of such. -/
namespace DL
open PySem PySem.Spec PyProof.Rows L2
section
variable {κ : Type} [DecidableEq κ]
def getG (kvs : List (κ × D)) (k : κ) : Option D := (kvs.find? fun kv => decide (kv.1 = k)).map (·.2)
def hasG (kvs : List (κ × D)) (k : κ) : Bool := (getG kvs k).isSome
def putG (kvs : List (κ × D)) (k : κ) (d : D) : List (κ × D) := if (kvs.any fun kv => decide (kv.1 = k)) = true then kvs.map (fun kv => if kv.1 = k then (kv.1, d) else kv) else kvs ++ [(k, d)]
end
def dkD (kvs : List (Key × D)) : D := .dict (kvs.map fun p => (kD p.1, p.2))
def dtD (kvs : List (List Key × D)) : D := .dict ((.none, .none) :: kvs.map fun p => (.tuple (p.1.map kD), p.2))
inductive DqV {κ : Type} (K : PySem.W.Frag) (G : Hp) : List (κ × V) → List (κ × D) → Prop
  | nil : DqV K G [] []
  | cons {k : κ} {v : V} {d : D} {es : List (κ × V)} {kvs : List (κ × D)} : Dq K G v d → DqV K G es kvs → DqV K G ((k, v) :: es) ((k, d) :: kvs)
theorem kD_inj : ∀ {a b : Key}, kD a = kD b → a = b
  | .inl i, .inl j, h => by cases h; rfl
  | .inr i, .inr j, h => by cases h; rfl
  | .inl i, .inr j, h => by cases h
  | .inr i, .inl j, h => by cases h
theorem kDs_inj : ∀ {a b : List Key}, a.map kD = b.map kD → a = b
  | [], [], _ => rfl
  | [], _ :: _, h => by cases h
  | _ :: _, [], h => by cases h
  | x :: a, y :: b, h => by
    rw [List.map_cons, List.map_cons] at h
    injection h with h1 h2
    rw [kD_inj h1, kDs_inj h2]
theorem kD_none {k : Key} (h : kD k = .none) : False := by cases k <;> cases h
section
variable {K : PySem.W.Frag} {G : Hp}
theorem DqK.v : ∀ {kvs : List (Key × D)} {es : List (Key × V)} {ls : List (D × D)}, DqK K G es ls → ls = kvs.map (fun p => (kD p.1, p.2)) → DqV K G es kvs
  | [], _, _, h, e => by
    subst e
    cases h
    exact .nil
  | (k, d) :: kvs, _, _, h, e => by
    cases h with
    | nil => cases e
    | cons a b =>
      rw [List.map_cons] at e
      injection e with e1 e2
      injection e1 with e3 e4
      have := kD_inj e3
      subst this
      dsimp only at e4
      subst e4
      exact .cons a (DqK.v b e2)
theorem DqT.v : ∀ {kvs : List (List Key × D)} {es : List (List Key × V)} {ls : List (D × D)}, DqT K G es ls → ls = kvs.map (fun p => (PyData.tuple (p.1.map kD), p.2)) → DqV K G es kvs
  | [], _, _, h, e => by
    subst e
    cases h
    exact .nil
  | (k, d) :: kvs, _, _, h, e => by
    cases h with
    | nil => cases e
    | cons a b =>
      rw [List.map_cons] at e
      injection e with e1 e2
      injection e1 with e3 e4
      injection e3 with e3
      have := kDs_inj e3
      subst this
      dsimp only at e4
      subst e4
      exact .cons a (DqT.v b e2)
theorem DqV.k : ∀ {kvs : List (Key × D)} {es : List (Key × V)}, DqV K G es kvs → DqK K G es (kvs.map fun p => (kD p.1, p.2))
  | [], _, h => by cases h; exact .nil
  | _ :: kvs, _, h => by
    cases h with
    | cons a b => exact .cons a (DqV.k b)
theorem DqV.t : ∀ {kvs : List (List Key × D)} {es : List (List Key × V)}, DqV K G es kvs → DqT K G es (kvs.map fun p => (PyData.tuple (p.1.map kD), p.2))
  | [], _, h => by cases h; exact .nil
  | _ :: kvs, _, h => by
    cases h with
    | cons a b => exact .cons a (DqV.t b)
theorem DqV.mono {κ : Type} {A B : Hp} (x : GH A B) : ∀ {es : List (κ × V)} {kvs : List (κ × D)}, DqV K A es kvs → DqV K B es kvs
  | _, _, .nil => .nil
  | _, _, .cons a b => .cons (a.mono x) (DqV.mono x b)
theorem DqV.length {κ : Type} : ∀ {es : List (κ × V)} {kvs : List (κ × D)}, DqV K G es kvs → es.length = kvs.length
  | _, _, .nil => rfl
  | _, _, .cons _ b => congrArg Nat.succ (DqV.length b)
theorem DqV.keys {κ : Type} : ∀ {es : List (κ × V)} {kvs : List (κ × D)}, DqV K G es kvs → es.map (·.1) = kvs.map (·.1)
  | _, _, .nil => rfl
  | _, _, .cons _ b => congrArg _ (DqV.keys b)
theorem DqV.get {κ : Type} [DecidableEq κ] {k : κ} : ∀ {es : List (κ × V)} {kvs : List (κ × D)}, DqV K G es kvs → (valV es k = none ∧ getG kvs k = none) ∨ ∃ v d, valV es k = some v ∧ getG kvs k = some d ∧ Dq K G v d
  | _, _, .nil => .inl ⟨rfl, rfl⟩
  | _, _, @DqV.cons _ _ _ k' v d es kvs a b => by
    by_cases e : k' = k
    · refine .inr ⟨v, d, valV_pos e, ?_, a⟩
      unfold getG
      rw [List.find?_cons_of_pos (by exact decide_eq_true e)]
      rfl
    · rw [valV_neg (p := (k', v)) e]
      have : getG ((k', d) :: kvs) k = getG kvs k := by
        unfold getG
        rw [List.find?_cons_of_neg (by simpa using e)]
      rw [this]
      exact DqV.get b
theorem DqV.any {κ : Type} [DecidableEq κ] {k : κ} : ∀ {es : List (κ × V)} {kvs : List (κ × D)}, DqV K G es kvs → (es.any fun kv => decide (kv.1 = k)) = kvs.any fun kv => decide (kv.1 = k)
  | _, _, .nil => rfl
  | _, _, .cons _ b => by rw [List.any_cons, List.any_cons, DqV.any b]
theorem DqV.map {κ : Type} [DecidableEq κ] {k : κ} {v : V} {d : D} (x : Dq K G v d) : ∀ {es : List (κ × V)} {kvs : List (κ × D)}, DqV K G es kvs → DqV K G (es.map fun kv => if kv.1 = k then (kv.1, v) else kv) (kvs.map fun kv => if kv.1 = k then (kv.1, d) else kv)
  | _, _, .nil => .nil
  | _, _, @DqV.cons _ _ _ k' v' d' es kvs a b => by
    rw [List.map_cons, List.map_cons]
    by_cases e : k' = k
    · rw [if_pos e, if_pos e]
      exact .cons x (DqV.map x b)
    · rw [if_neg e, if_neg e]
      exact .cons a (DqV.map x b)
theorem DqV.snoc {κ : Type} {k : κ} {v : V} {d : D} (x : Dq K G v d) : ∀ {es : List (κ × V)} {kvs : List (κ × D)}, DqV K G es kvs → DqV K G (es ++ [(k, v)]) (kvs ++ [(k, d)])
  | _, _, .nil => .cons x .nil
  | _, _, .cons a b => .cons a (DqV.snoc x b)
theorem DqV.put {κ : Type} [DecidableEq κ] {k : κ} {v : V} {d : D} {es : List (κ × V)} {kvs : List (κ × D)} (h : DqV K G es kvs) (x : Dq K G v d) : DqV K G (putK es k v) (putG kvs k d) := by
  unfold putK putG
  rw [h.any]
  split
  · exact h.map x
  · exact h.snoc x
theorem putG_len {κ : Type} [DecidableEq κ] (kvs : List (κ × D)) (k : κ) (d : D) : (putG kvs k d).length ≤ kvs.length + 1 := by
  unfold putG
  split
  · rw [List.length_map]; omega
  · rw [List.length_append]; exact Nat.le_refl _
theorem dq_dk {v : V} {kvs : List (Key × D)} (h : Dq K G v (dkD kvs)) : ∃ a es, v = .ref a ∧ Rd G a (.dK es) ∧ DqV K G es kvs := by
  unfold dkD at h
  generalize e : (kvs.map fun p => (kD p.1, p.2)) = ls at h
  cases h with
  | dK a b => exact ⟨_, _, rfl, a, DqK.v b e.symm⟩
  | scr a =>
    cases kvs with
    | nil => cases e
    | cons p kvs =>
      rw [List.map_cons] at e
      injection e with e1 e2
      injection e1 with e3 _
      exact (kD_none e3).elim
  | dT a b =>
    cases kvs with
    | nil => cases e
    | cons p kvs =>
      rw [List.map_cons] at e
      injection e with e1 e2
      injection e1 with e3 _
      exact (kD_none e3).elim
theorem dq_dt {v : V} {kvs : List (List Key × D)} (h : Dq K G v (dtD kvs)) : ∃ a es, v = .ref a ∧ Rd G a (.dT es) ∧ DqV K G es kvs := by
  unfold dtD at h
  generalize e : ((PyData.none, PyData.none) :: kvs.map fun p => (PyData.tuple (p.1.map kD), p.2)) = ls at h
  cases h with
  | dK a b =>
    cases b with
    | nil => cases e
    | cons a b =>
      injection e with e1 e2
      injection e1 with e3 _
      exact (kD_none e3.symm).elim
  | scr a =>
    injection e with e1 e2
    injection e1 with _ e3
    cases e3
  | dT a b =>
    injection e with e1 e2
    exact ⟨_, _, rfl, a, DqT.v b e2.symm⟩
theorem own_dk {H : Hp} {l : Addr} {kvs : List (Key × D)} (h : OwnC K G H l (dkD kvs)) : ∃ es, H l = some (.dK es) ∧ DqV K G es kvs := by
  unfold dkD at h
  generalize e : (kvs.map fun p => (kD p.1, p.2)) = ls at h
  cases h with
  | dK a b => exact ⟨_, a, DqK.v b e.symm⟩
  | dT a b =>
    cases kvs with
    | nil => cases e
    | cons p kvs =>
      rw [List.map_cons] at e
      injection e with e1 e2
      injection e1 with e3 _
      exact (kD_none e3).elim
theorem own_dt {H : Hp} {l : Addr} {kvs : List (List Key × D)} (h : OwnC K G H l (dtD kvs)) : ∃ es, H l = some (.dT es) ∧ DqV K G es kvs := by
  unfold dtD at h
  generalize e : ((PyData.none, PyData.none) :: kvs.map fun p => (PyData.tuple (p.1.map kD), p.2)) = ls at h
  cases h with
  | dK a b =>
    cases b with
    | nil => cases e
    | cons a b =>
      injection e with e1 e2
      injection e1 with e3 _
      exact (kD_none e3.symm).elim
  | dT a b =>
    injection e with e1 e2
    exact ⟨_, a, DqT.v b e2.symm⟩
theorem key_dq {v : V} : ∀ {k : Key}, Dq K G v (kD k) → v = kV k
  | .inl i, h => by cases h; rfl
  | .inr z, h => by cases h; rfl
theorem keys_dq : ∀ {ks : List Key} {vs : List V}, DqA K G vs (ks.map kD) → vs = ks.map kV
  | [], _, h => by cases h; rfl
  | k :: ks, _, h => by
    cases h with
    | cons a b => rw [key_dq a, keys_dq b]; rfl
theorem dq_keys : ∀ ks : List Key, DqA K G (ks.map kV) (ks.map kD)
  | [] => .nil
  | .inl i :: ks => .cons (.int i) (dq_keys ks)
  | .inr z :: ks => .cons (.str z) (dq_keys ks)
end
section
variable {K : PySem.W.Frag} {Ex : XK} {ρ : List Sl} {ta tb te : TE} {tt : TT} {t u : TS} {d : D} {P : Oc → Prop}
theorem en_dnewK : EVN K tDNewK ρ (dkD []) := fun G0 H0 G H σ Q E q p hp => q p G _ (.fresh E.gh hp) hp (E.gh.none hp) (.dK upd_same .nil)
theorem en_dnewT : EVN K tDNewT ρ (dtD []) := fun G0 H0 G H σ Q E q p hp => q p G _ (.fresh E.gh hp) hp (E.gh.none hp) (.dT upd_same .nil)
/-- a tuple of keys, laid anew -/
def EVT (K : PySem.W.Frag) (te : TE) (ρ : List Sl) (ks : List Key) : Prop := ∀ (G0 H0 G H : Hp) (σ : L2.St) (Q : VK), En K G0 H0 G H σ ρ → (∀ p G' H', Ext G H G' H' → G' p = some (.tup (ks.map kV)) → Q (.ref p) H') → te σ H Q
theorem evt_tup {t : TA} {ks : List Key} {ds : List D} (h : EA K t ρ ds) (e : ds = ks.map kD) (hl : ks.length ≤ sizeLine) : EVT K (tTup t) ρ ks := fun G0 H0 G H σ Q E q =>
  h G0 H0 G H σ _ E fun vs G1 H1 e1 h1 => by
    subst e
    have e2 := keys_dq h1
    subst e2
    exact ⟨by rw [List.length_map]; exact hl, fun p hp => q p _ _ (e1.trans (.new e1.gh hp)) upd_same⟩
theorem evt_ite {b : Bool} {k1 k2 : List Key} (h : ET K tt ρ b) (h1 : b = true → EVT K ta ρ k1) (h2 : b = false → EVT K tb ρ k2) : EVT K (tIf tt ta tb) ρ (if b = true then k1 else k2) := fun G0 H0 G H σ Q E q =>
  h G0 H0 G H σ _ E fun G1 H1 e1 => by
    cases b with
    | true => exact h1 rfl G0 H0 G1 H1 σ _ (E.go e1) fun p G2 H2 e2 hp => q p G2 H2 (e1.trans e2) hp
    | false => exact h2 rfl G0 H0 G1 H1 σ _ (E.go e1) fun p G2 H2 e2 hp => q p G2 H2 (e1.trans e2) hp
theorem GH.tup {A B : Hp} (x : GH A B) {a : Addr} {xs : List V} (h : A a = some (.tup xs)) : B a = some (.tup xs) := by
  rcases x a _ h with h | ⟨d, _⟩
  · exact h
  · cases d
theorem st_dputK {n : Nat} {kvs : List (Key × D)} {k : Key} {dk : D} (hi : ρ[n]? = some (.ow (dkD kvs))) (hk : EV K tb ρ dk) (ek : dk = kD k) (h : EV K te ρ d) (hz : kvs.length < 16000000) (q : P (.nx (ρ.set n (.ow (dkD (putG kvs k d)))))) :
    ST K Ex (sDPut (tVar n) tb te) ρ P := fun G0 H0 G H σ D E f =>
  h G0 H0 G H σ _ E fun v G1 H1 e1 hv => by
    obtain ⟨l, h1, _, _, h4⟩ := (E.go e1).ow n _ hi
    subst ek
    refine ⟨_, h1, hk G0 H0 G1 H1 σ _ (E.go e1) fun y G2 H2 e2 hy => ?_⟩
    obtain ⟨es, h5, h6⟩ := own_dk h4
    have e := key_dq hy
    subst e
    refine ⟨l, _, rfl, DPut.k (e2.hh _ _ h5) (by rw [h6.length, sizeLine_eq]; omega), f.nx _ _ _ _ q (((E.go e1).go e2).write hi h1 ?_)⟩
    exact .dK upd_same (((h6.mono e2.g).put (hv.mono e2.g)).k)
theorem st_dputT {n : Nat} {kvs : List (List Key × D)} {k : List Key} (hi : ρ[n]? = some (.ow (dtD kvs))) (hk : EVT K tb ρ k) (h : EV K te ρ d) (hz : kvs.length < 16000000) (q : P (.nx (ρ.set n (.ow (dtD (putG kvs k d)))))) :
    ST K Ex (sDPut (tVar n) tb te) ρ P := fun G0 H0 G H σ D E f =>
  h G0 H0 G H σ _ E fun v G1 H1 e1 hv => by
    obtain ⟨l, h1, _, _, h4⟩ := (E.go e1).ow n _ hi
    refine ⟨_, h1, hk G0 H0 G1 H1 σ _ (E.go e1) fun y G2 H2 e2 hy => ?_⟩
    obtain ⟨es, h5, h6⟩ := own_dt h4
    refine ⟨l, _, rfl, DPut.t (e2.hh _ _ h5) (e2.gh.tup hy) (by rw [h6.length, sizeLine_eq]; omega), f.nx _ _ _ _ q (((E.go e1).go e2).write hi h1 ?_)⟩
    exact .dT upd_same (((h6.mono e2.g).put (hv.mono e2.g)).t)
/-- x in d, a frozen one -/
theorem dget_k {G H : Hp} (g : GH G H) {a : Addr} {es : List (Key × V)} {kvs : List (Key × D)} {k : Key} (h : Rd G a (.dK es)) (r : DqV K G es kvs) : (getG kvs k = none ∧ DGet H a (kV k) none) ∨ ∃ v d, getG kvs k = some d ∧ DGet H a (kV k) (some v) ∧ Dq K G v d := by
  rcases r.get (k := k) with ⟨h1, h2⟩ | ⟨v, d, h1, h2, h3⟩
  · exact .inl ⟨h2, .inl ⟨es, k, g.rd h, rfl, h1.symm⟩⟩
  · exact .inr ⟨v, d, h2, .inl ⟨es, k, g.rd h, rfl, h1.symm⟩, h3⟩
theorem ev_inD {kvs : List (Key × D)} {k : Key} {dk : D} (hk : EV K ta ρ dk) (ek : dk = kD k) (h : EV K tb ρ (dkD kvs)) : EV K (tDIn ta tb) ρ (.bool (hasG kvs k)) := fun G0 H0 G H σ Q E q =>
  hk G0 H0 G H σ _ E fun y G1 H1 e1 hy => h G0 H0 G1 H1 σ _ (E.go e1) fun x G2 H2 e2 hx => by
    subst ek
    obtain ⟨a, es, rfl, h1, h2⟩ := dq_dk hx
    have e := key_dq hy
    subst e
    unfold hasG at q
    rcases dget_k e2.gh h1 h2 (k := k) with ⟨h3, h4⟩ | ⟨v, d, h3, h4, h5⟩
    · exact ⟨a, _, rfl, h4, q _ G2 H2 (e1.trans e2) (by rw [h3]; exact .bl _)⟩
    · exact ⟨a, _, rfl, h4, q _ G2 H2 (e1.trans e2) (by rw [h3]; exact .bl _)⟩
theorem ev_ninD {kvs : List (Key × D)} {k : Key} {dk : D} (hk : EV K ta ρ dk) (ek : dk = kD k) (h : EV K tb ρ (dkD kvs)) : EV K (tDNotIn ta tb) ρ (.bool (!hasG kvs k)) := fun G0 H0 G H σ Q E q =>
  hk G0 H0 G H σ _ E fun y G1 H1 e1 hy => h G0 H0 G1 H1 σ _ (E.go e1) fun x G2 H2 e2 hx => by
    subst ek
    obtain ⟨a, es, rfl, h1, h2⟩ := dq_dk hx
    have e := key_dq hy
    subst e
    unfold hasG at q
    rcases dget_k e2.gh h1 h2 (k := k) with ⟨h3, h4⟩ | ⟨v, d, h3, h4, h5⟩
    · exact ⟨a, _, rfl, h4, q _ G2 H2 (e1.trans e2) (by rw [h3]; exact .bl _)⟩
    · exact ⟨a, _, rfl, h4, q _ G2 H2 (e1.trans e2) (by rw [h3]; exact .bl _)⟩
/-- d[x], a frozen one -/
theorem ev_getD {kvs : List (Key × D)} {k : Key} {dk : D} (h : EV K ta ρ (dkD kvs)) (hk : EV K tb ρ dk) (ek : dk = kD k) (e : getG kvs k = some d) : EV K (tDGet ta tb) ρ d := fun G0 H0 G H σ Q E q =>
  h G0 H0 G H σ _ E fun x G1 H1 e1 hx => hk G0 H0 G1 H1 σ _ (E.go e1) fun y G2 H2 e2 hy => by
    subst ek
    obtain ⟨a, es, rfl, h1, h2⟩ := dq_dk (hx.mono e2.g)
    have ez := key_dq hy
    subst ez
    rcases dget_k e2.gh h1 h2 (k := k) with ⟨h3, h4⟩ | ⟨v, d', h3, h4, h5⟩
    · rw [e] at h3; cases h3
    · rw [e] at h3
      cases h3
      exact ⟨a, v, rfl, h4, q _ G2 H2 (e1.trans e2) h5⟩
/-- d.get(x, z), a frozen one -/
theorem ev_get2 {kvs : List (Key × D)} {k : Key} {dk z : D} {tz : TE} (h : EV K ta ρ (dkD kvs)) (hk : EV K tb ρ dk) (ek : dk = kD k) (hz : EV K tz ρ z) : EV K (tDGet2 ta tb tz) ρ ((getG kvs k).getD z) := fun G0 H0 G H σ Q E q =>
  h G0 H0 G H σ _ E fun x G1 H1 e1 hx => by
    obtain ⟨a, es, rfl, h1, h2⟩ := dq_dk hx
    refine ⟨a, rfl, .inl ⟨es, e1.gh.rd h1⟩, hk G0 H0 G1 H1 σ _ (E.go e1) fun y G2 H2 e2 hy => hz G0 H0 G2 H2 σ _ ((E.go e1).go e2) fun w G3 H3 e3 hw => ?_⟩
    subst ek
    have ez := key_dq hy
    subst ez
    have h1' := (e2.trans e3).g.rd h1
    rcases dget_k e3.gh h1' (h2.mono (e2.trans e3).g) (k := k) with ⟨h3, h4⟩ | ⟨v, d', h3, h4, h5⟩
    · exact ⟨_, h4, q _ G3 H3 ((e1.trans e2).trans e3) (by rw [h3]; exact hw)⟩
    · exact ⟨_, h4, q _ G3 H3 ((e1.trans e2).trans e3) (by rw [h3]; exact h5)⟩
/-- what a dict comprehension gives -/
def dcD : Nat → (Nat → Bool) → (Nat → Key) → (Nat → D) → List (Key × D)
  | 0, _, _, _ => []
  | n + 1, b, k, f => if b n = true then putG (dcD n b k f) (k n) (f n) else dcD n b k f
theorem dcD_len (b : Nat → Bool) (k : Nat → Key) (f : Nat → D) : ∀ n, (dcD n b k f).length ≤ n
  | 0 => Nat.le_refl _
  | n + 1 => by
    unfold dcD
    have := dcD_len b k f n
    split
    · exact Nat.le_trans (putG_len _ _ _) (Nat.succ_le_succ this)
    · omega
end
end DL

set_option maxHeartbeats 1000000
/-! DL11: the order of texts and of pairs of texts; sorted. -/
namespace DL
open PySem PySem.Spec PyProof.Rows L2
/-! ### orders -/
def ltS (a b : Str) : Bool := decide (a.cps.toList < b.cps.toList)
theorem str_ext {a b : Str} (h : a.cps.toList = b.cps.toList) : a = b := by
  cases a
  cases b
  exact congrArg Str.mk (Array.toList_inj.mp h)
theorem ltS_irr (a : Str) : ltS a a = false := decide_eq_false (List.lt_irrefl _)
theorem ltS_tr {a b c : Str} (h : ltS a b = true) (k : ltS b c = true) : ltS a c = true := decide_eq_true (List.lt_trans (of_decide_eq_true h) (of_decide_eq_true k))
theorem ltS_as {a b : Str} (h : ltS a b = true) : ltS b a = false := decide_eq_false (List.lt_asymm (of_decide_eq_true h))
theorem ltS_eq {a b : Str} (h : ltS a b = false) (k : ltS b a = false) : a = b := by
  refine str_ext (List.le_antisymm ?_ ?_)
  · exact List.not_lt.mp (of_decide_eq_false k)
  · exact List.not_lt.mp (of_decide_eq_false h)
/-- of pairs: by the first, then by the second -/
def ltQ (p q : Str × Str) : Bool := if p.1 = q.1 then ltS p.2 q.2 else ltS p.1 q.1
theorem ltQ_irr (a : Str × Str) : ltQ a a = false := by
  unfold ltQ
  rw [if_pos rfl, ltS_irr]
theorem ltQ_tr {a b c : Str × Str} (h : ltQ a b = true) (k : ltQ b c = true) : ltQ a c = true := by
  unfold ltQ at *
  by_cases e : a.1 = b.1
  · rw [if_pos e] at h
    by_cases f : b.1 = c.1
    · rw [if_pos f] at k
      rw [if_pos (e.trans f)]
      exact ltS_tr h k
    · rw [if_neg f] at k
      rw [if_neg (fun z => f (e.symm.trans z)), e]
      exact k
  · rw [if_neg e] at h
    by_cases f : b.1 = c.1
    · rw [if_neg (fun z => e (z.trans f.symm)), ← f]
      exact h
    · rw [if_neg f] at k
      have := ltS_tr h k
      rw [if_neg (fun z => by rw [z, ltS_irr] at this; cases this)]
      exact this
theorem ltQ_eq {a b : Str × Str} (h : ltQ a b = false) (k : ltQ b a = false) : a = b := by
  unfold ltQ at *
  by_cases e : a.1 = b.1
  · rw [if_pos e] at h
    rw [if_pos e.symm] at k
    exact Prod.ext e (ltS_eq h k)
  · rw [if_neg e] at h
    rw [if_neg (fun z => e z.symm)] at k
    exact absurd (ltS_eq h k) e
theorem ltQ_as {a b : Str × Str} (h : ltQ a b = true) : ltQ b a = false := by
  cases q : ltQ b a with
  | false => rfl
  | true =>
    have := ltQ_tr h q
    rw [ltQ_irr] at this
    cases this
section
variable {α : Type} {lt : α → α → Bool}
/-- a strict total order -/
structure Sto (lt : α → α → Bool) : Prop where
  irr : ∀ a, lt a a = false
  tr : ∀ {a b c}, lt a b = true → lt b c = true → lt a c = true
  eq : ∀ {a b}, lt a b = false → lt b a = false → a = b
theorem Sto.as (O : Sto lt) {a b : α} (h : lt a b = true) : lt b a = false := by
  cases q : lt b a with
  | false => rfl
  | true =>
    have := O.tr h q
    rw [O.irr] at this
    cases this
theorem Sto.tr' (O : Sto lt) {x y z : α} (h : lt y x = false) (k : lt z y = false) : lt z x = false := by
  cases q : lt z x with
  | false => rfl
  | true =>
    cases a : lt x y with
    | true =>
      have := O.tr q a
      rw [k] at this
      cases this
    | false =>
      have e := O.eq a h
      subst e
      rw [q] at k
      cases k
theorem Sto.swo_of {β : Type} (O : Sto lt) (f : β → α) : SrtO.Swo fun x y => lt (f x) (f y) := ⟨fun _ _ h => O.as h, fun _ _ _ h k => O.tr' h k⟩
theorem Sto.swo (O : Sto lt) : SrtO.Swo lt := ⟨fun _ _ h => O.as h, fun _ _ _ h k => O.tr' h k⟩
def srt (lt : α → α → Bool) (l : List α) : List α := l.mergeSort fun x y => !lt y x
theorem srt_perm (l : List α) : (srt lt l).Perm l := List.mergeSort_perm _ _
theorem srt_pw (O : Sto lt) (l : List α) : (srt lt l).Pairwise fun x y => lt y x = false := by
  have := List.pairwise_mergeSort (le := fun x y => !lt y x) (fun a b c h k => by
    rw [Bool.not_eq_true'] at *
    exact O.tr' h k) (fun a b => by
    cases q : lt b a with
    | false => rfl
    | true =>
      rw [O.as q]
      rfl) l
  exact this.imp fun h => by simpa using h
theorem srt_uniq (O : Sto lt) {l m : List α} (hp : l.Perm m) (hs : l.Pairwise fun x y => lt y x = false) : l = srt lt m := by
  refine List.Perm.eq_of_pairwise (le := fun x y => lt y x = false) (fun a b _ _ h k => O.eq k h) hs (srt_pw O m) (hp.trans (srt_perm m).symm)
theorem srt_len (l : List α) : (srt lt l).length = l.length := (srt_perm l).length_eq
end
theorem stoS : Sto ltS := ⟨ltS_irr, ltS_tr, ltS_eq⟩
theorem stoQ : Sto ltQ := ⟨ltQ_irr, ltQ_tr, ltQ_eq⟩
end DL

set_option maxHeartbeats 1000000
/-! DL12: sorted(..) by data; comparisons of pairs of texts; a dict comprehension; words for the walk. -/
namespace DL
open PySem PySem.Spec PyProof.Rows L2
/-! ### sorted of a list of texts -/
theorem rising_pw : ∀ (l : List Str) (p : Str), risingS p l = true → (p :: l).Pairwise fun x y => ltS y x = false
  | [], p, _ => List.pairwise_singleton _ _
  | x :: r, p, h => by
    have h : (!ltCps x.cps.toList p.cps.toList && risingS x r) = true := h
    rw [Bool.and_eq_true] at h
    have ih := rising_pw r x h.2
    have h1 : ltS x p = false := by
      have := h.1
      rw [ltCps_eq] at this
      simpa [ltS] using this
    refine List.pairwise_cons.mpr ⟨fun y hy => ?_, ih⟩
    rcases List.mem_cons.mp hy with rfl | hy
    · exact h1
    · exact stoS.tr' h1 ((List.pairwise_cons.mp ih).1 y hy)
theorem sortedS_pw : ∀ {l : List Str}, sortedS l = true → l.Pairwise fun x y => ltS y x = false
  | [], _ => List.Pairwise.nil
  | x :: r, h => rising_pw r x h
section
variable {K : PySem.W.Frag}
theorem cn_sortS {zs : List Str} (hl : zs.length < 64) : CN K (rSortedS K) [.list (zs.map PyData.str)] (.list ((srt ltS zs).map PyData.str)) := fun xs G H Q g hx q => by
  cases hx with
  | cons a b =>
    cases b
    cases a with
    | @lst a xs _ ha hr =>
      have e := map_str_dq hr
      subst e
      refine ⟨a, zs, rfl, SqL.of (g.lst ha), hl, fun ys p hp hs hn => ?_⟩
      have e := srt_uniq stoS hp (sortedS_pw hs)
      subst e
      refine q p G _ (.fresh g hn) hn (g.none hn) (.lst upd_same ?_)
      clear hs hp hr ha
      induction (srt ltS zs) with
      | nil => exact .nil
      | cons z l ih => exact .cons (.str z) ih
/-! ### pairs of texts in the heap -/
/-- v is the pair (x, y) -/
def IsPS (h : Heap) (v : Value) (p : Str × Str) : Prop := ∃ a o t u n, v = .ref a ∧ h.get? a = some o ∧ o.cls = .type "tuple" ∧ o.data = .seq #[.str p.1 t, .str p.2 u] n
theorem IsPS.keeps {h h' : Heap} {v : Value} {p : Str × Str} (x : IsPS h v p) (k : ∀ b o, h.get? b = some o → o.cls = .type "tuple" → h'.get? b = some o) : IsPS h' v p := by
  obtain ⟨a, o, t, u, n, e, ho, hc, hd⟩ := x
  exact ⟨a, o, t, u, n, e, k a o ho hc, hc, hd⟩
section
variable {prog : Program} {w : World} {A : Around} {s : Shared}
theorem ps_cmp {vs : List Value} {k : Value → Str × Str} (hp : ∀ v ∈ vs, IsPS s.heap v (k v)) : SrtO.Cmp prog w A s (tuples' true) (fun p => p.1 ∈ vs) (SrtO.lt2 fun v u => ltQ (k v) (k u)) := by
  intro p q hm hm'
  have h1 := hp _ hm
  have h2 := hp _ hm'
  show wpAny (model prog w) A (keyLt' (tuples' true) p.1 q.1) (fun r s' => s' = s ∧ r = ltQ (k p.1) (k q.1)) (fun _ _ => False) s
  generalize k p.1 = x at h1 ⊢
  generalize k q.1 = y at h2 ⊢
  obtain ⟨a, o, t, u, n, e, ho, _, hd⟩ := h1
  obtain ⟨a', o', t', u', n', e', ho', _, hd'⟩ := h2
  rw [e, e']
  unfold ltQ
  refine PySem.W.kat_lt ho hd ho' hd' ?_
  show PySem.W.KatLex prog w A true (decide (2 < 2)) _ [(.str x.1 t, .str y.1 t'), (.str x.2 u, .str y.2 u')] 0 s
  refine PySem.W.kat_cons (wpAny_eqBool_str ?_)
  refine PySem.W.kat_go (fun e1 => ?_) (fun e1 => ?_)
  · rw [if_pos (of_decide_eq_true e1)]
    refine PySem.W.kat_yes (PySem.W.kat_cons (wpAny_eqBool_str ?_))
    refine PySem.W.kat_go (fun e2 => ?_) (fun e2 => ?_)
    · rw [of_decide_eq_true e2, ltS_irr]
      exact PySem.W.kat_yes (PySem.W.kat_nil ⟨rfl, rfl⟩)
    · exact PySem.W.kat_no (oneLt_any_str ⟨rfl, rfl⟩)
  · rw [if_neg (of_decide_eq_false e1)]
    exact PySem.W.kat_no (oneLt_any_str ⟨rfl, rfl⟩)
theorem ps_firsts {h : Heap} : ∀ {vs : List Value} {k : Value → Str × Str}, (∀ v ∈ vs, IsPS h v (k v)) → ∃ fs : List Value, PySem.W.KatTups h vs fs ∧ fs.length = vs.length ∧ ∀ f ∈ fs, ∃ x t, f = Value.str x t
  | [], _, _ => ⟨[], PySem.W.KatTups.nil, rfl, fun _ hm => by simp at hm⟩
  | v :: vs, k, hp => by
    obtain ⟨fs, h1, h2, h3⟩ := ps_firsts (vs := vs) (k := k) fun v' hm => hp v' (List.mem_cons_of_mem _ hm)
    obtain ⟨a, o, t, u, n, e, ho, hc, hd⟩ := hp v (List.mem_cons_self ..)
    generalize k v = p at hd
    subst e
    refine ⟨.str p.1 t :: fs, PySem.W.KatTups.cons ho hc hd rfl h1, congrArg Nat.succ h2, fun f hm => ?_⟩
    rcases List.mem_cons.mp hm with rfl | hm
    · exact ⟨_, _, rfl⟩
    · exact h3 f hm
theorem ps_sortable {a : Addr} {vs : List Value} {k : Value → Str × Str} (h0 : 0 < vs.length) (hp : ∀ v ∈ vs, IsPS s.heap v (k v)) (ha : ∀ o, s.heap.get? a = some o → o.cls ≠ .type "tuple") : SrtO.SortableO prog w A s a vs fun v u => ltQ (k v) (k u) := by
  intro h' keep
  have hp' : ∀ v ∈ vs, IsPS h' v (k v) := fun v hm => (hp v hm).keeps fun b o e c => keep b o (fun z => by subst z; exact ha o e c) e
  obtain ⟨fs, h1, h2, h3⟩ := ps_firsts hp'
  refine ⟨tuples' true, fun Q E hq => ?_, ps_cmp hp'⟩
  refine PySem.W.kat_kind (T := .type "str") h1 (by omega) (fun f hm => ?_) (by rfl) ?_
  · obtain ⟨x, t, rfl⟩ := h3 f hm
    exact PySem.W.Looks.now
  · have e : (Value.type "str" != Value.type "tuple") = true := by first | decide +kernel | rfl | decide
    rw [e]
    exact hq
end
/-- what the heap holds at a pair of texts -/
def psAt (H : Hp) (v : Value) : Str × Str := match v with
  | .ref b => (match H b with
    | some (.tup [.str x, .str y]) => (x, y)
    | _ => (Str.empty, Str.empty))
  | _ => (Str.empty, Str.empty)
def keyQ (p : Str × Str) : List Key := [.inr p.1, .inr p.2]
/-- the addresses bs hold the pairs qs -/
def AtQ (H : Hp) (bs : List Addr) (qs : List (Str × Str)) : Prop := Paired (fun b q => H b = some (.tup [.str q.1, .str q.2])) bs qs
/-- sorted(d), d a dict whose keys are pairs of texts -/
def rSortDT (K : PySem.W.Frag) : List V → Hp → VK → Prop := fun xs H Q => ∃ (d : Addr) (kvs : List (List Key × V)) (qs : List (Str × Str)), xs = [.ref d] ∧ Rd H d (.dT kvs) ∧ kvs.map (·.1) = qs.map keyQ ∧
  ∀ p bs, AtQ H bs (srt ltQ qs) → H p = none → Q (.ref p) (upd H p (.lst (bs.map V.ref)))
end
theorem paired_map {α β : Type} {R : α → β → Prop} {f : α → β} : ∀ {l : List α}, (∀ a ∈ l, R a (f a)) → Paired R l (l.map f)
  | [], _ => Paired.nil
  | a :: l, h => Paired.cons (h a (List.mem_cons_self ..)) (paired_map fun b hb => h b (List.mem_cons_of_mem _ hb))
theorem call_sortedDT {X : Cx} (hc : X.calm = true) : CallR X (.builtin "sorted") (rSortDT X.K) := by
  intro pins s σ H xs us Q I r h
  obtain ⟨d, kvs, qs, rfl, hd, hks, q⟩ := h
  obtain ⟨u, rfl, rx⟩ := r.one
  cases rx
  obtain ⟨z, hs, ks, pr, o, es, ep, ho, hx, hdt, he, hn⟩ := (show ObjOk X.prog X.w H s.heap d (.dT kvs) from hd.ok I.hok)
  have l1 : es.size = ks.length := size_of_entries he
  have l2 : kvs.length = ks.length := Paired.length pr
  refine Calls.call_function_entry PyProof.Rows.kind_sorted PyProof.Rows.plain_sorted PyProof.Rows.entry_sorted (PyProof.Rows.args_sorted1 _) ?_
  unfold Builtin.«sorted»
  refine wpAny_bind (m := checkCount "sorted" 1 1 _) (wpAny_pure ?_)
  refine wpAny_bind (PySem.W.kdu_collect (A := X.A.in1) (kdl_raw hs hx hdt) (I.ok.hd hc) ho (by omega) fun h' tk acc hk it => ?_)
  have ea : acc.toList = ks.map fun x => Value.ref x.2.1 := by
    have hl : acc.toList.length = ks.length := by rw [Array.length_toList, it.1]; exact l1
    apply List.ext_getElem?
    intro j
    rw [List.getElem?_map]
    cases hj : acc.toList[j]? with
    | none => rw [List.getElem?_eq_none (by have := List.getElem?_eq_none_iff.mp hj; omega)] <;> rfl
    | some v =>
      obtain ⟨en, hen, hv⟩ := it.2 j v (by rw [← Array.getElem?_toList]; exact hj)
      have qe := entry_at he j
      rw [hen] at qe
      cases hb : ks[j]? with
      | none =>
        rw [hb] at qe
        exact nomatch (show some en = none from qe)
      | some b =>
        rw [hb] at qe
        have e2 : en = entryOfKey (tupleKind (mixKind X.prog X.w)) b := Option.some.inj qe
        rw [hv, e2] <;> rfl
  have hal : acc.toList.length ≤ sizeLine := by rw [ea, List.length_map]; omega
  have I1 : Inv X pins σ H { s with heap := h', toks := tk } := I.kept hk
  -- the pairs
  have hps : ∀ x ∈ ks, ∃ p : Str × Str, H x.2.1 = some (.tup [.str p.1, .str p.2]) := by
    intro x hx'
    have kk : ∀ {l : List (List Key × V)} {m : List (List Key × Addr × Value)} {ns : List (Str × Str)}, KT H l m → l.map (·.1) = ns.map keyQ → ∀ x ∈ m, ∃ p : Str × Str, H x.2.1 = some (.tup [.str p.1, .str p.2]) := by
      intro l m ns r
      induction r generalizing ns with
      | nil => intro _ x hx; cases hx
      | @cons a b l m h t ih =>
        intro e x hx
        cases ns with
        | nil => cases e
        | cons n ns =>
          rw [List.map_cons, List.map_cons] at e
          injection e with e1 e2
          rcases List.mem_cons.mp hx with rfl | hx
          · refine ⟨n, ?_⟩
            rw [h.2.1, e1]
            rfl
          · exact ih e2 x hx
    exact kk pr hks x hx'
  have hkv : ks.map (fun x => psAt H (.ref x.2.1)) = qs := by
    have kk : ∀ {l : List (List Key × V)} {m : List (List Key × Addr × Value)} {ns : List (Str × Str)}, KT H l m → l.map (·.1) = ns.map keyQ → m.map (fun x => psAt H (.ref x.2.1)) = ns := by
      intro l m ns r
      induction r generalizing ns with
      | nil => intro e; cases ns with
        | nil => rfl
        | cons => cases e
      | @cons a b l m h t ih =>
        intro e
        cases ns with
        | nil => cases e
        | cons n ns =>
          rw [List.map_cons, List.map_cons] at e
          injection e with e1 e2
          rw [List.map_cons, ih e2]
          congr 1
          have := h.2.1
          rw [e1] at this
          unfold psAt
          dsimp only
          rw [this]
          rfl
    exact kk pr hks
  have hmem : ∀ v ∈ acc.toList, ∃ b p, v = Value.ref b ∧ H b = some (.tup [.str p.1, .str p.2]) ∧ psAt H v = p := fun v hv => by
    rw [ea] at hv
    obtain ⟨x, hx', rfl⟩ := List.mem_map.mp hv
    obtain ⟨p, hp⟩ := hps x hx'
    exact ⟨_, p, rfl, hp, by unfold psAt; dsimp only; rw [hp]⟩
  have hoL : (h'.push (seqObj "list" acc.toList.toArray 0)).get? h'.objs.size = some (seqObj "list" acc.toList.toArray 0) := Heap.get?_push_size _ rfl
  have hP : ∀ v ∈ acc.toList, IsPS (h'.push (seqObj "list" acc.toList.toArray 0)) v (psAt H v) := fun v hv => by
    obtain ⟨b, p, rfl, hb, hp⟩ := hmem v hv
    rw [hp]
    obtain ⟨_, its2, r2, o2, ho2, hc2, n2, hd2⟩ := I1.hok _ _ hb
    obtain ⟨u1, u2, rfl, ri, rj⟩ := vals2 r2
    obtain ⟨t1, rfl⟩ := ri
    obtain ⟨t2, rfl⟩ := rj
    exact ⟨b, o2, t1, t2, n2, rfl, Heap.get?_push_of_some _ ho2, hc2, hd2⟩
  refine wpAny_bind (wpAny_newList ?_ hal)
  show wpAny _ _ _ _ _ { s with heap := h'.push (seqObj "list" acc.toList.toArray 0), toks := tk }
  refine wpAny_bind (wpAny_holding (wpAny_call_entry PyProof.Rows.slot_list_sort ⟨_, hoL, rfl⟩ PyProof.Rows.entry_list_sort
    (SrtO.list_sort_ord (stoQ.swo_of (psAt H)) (s := { s with heap := h'.push (seqObj "list" acc.toList.toArray 0), toks := tk }) hoL hal (fun h2 => ps_sortable (by omega) hP fun o e => ?_) fun out hs hb => ⟨_, rfl, ?_⟩)
    (PyProof.Rows.args_list_sort _)))
  · have e' := e.symm.trans hoL
    cases e'
    intro c
    exact absurd (Value.type.inj c) (by decide)
  · have hm2 : ∀ v ∈ out, ∃ b p, v = Value.ref b ∧ H b = some (.tup [.str p.1, .str p.2]) ∧ psAt H v = p := fun v hv => hmem v (hb.perm.mem_iff.mp hv)
    have eo : out = (out.map fun v => match v with | .ref a => a | _ => 0).map Value.ref := by
      rw [List.map_map]
      refine (List.map_id out).symm.trans (List.map_congr_left fun v hv => ?_)
      obtain ⟨b, p, rfl, _⟩ := hm2 v hv
      rfl
    generalize eb : (out.map fun v => match v with | .ref a => a | _ => 0) = bs at eo
    obtain ⟨e', he'⟩ := PyProof.Rows.sortedHeap_at (vs := acc.toList) (out := out.toArray) hoL
    have ho' : out.length ≤ sizeLine := by rw [hb.perm.length_eq]; exact hal
    have hlen : (bs.map V.ref).length ≤ sizeLine := by
      have := congrArg List.length eo
      rw [List.length_map] at this ⊢
      omega
    have eq : srt ltQ qs = out.map (psAt H) := by
      refine (srt_uniq stoQ ?_ ?_).symm
      · rw [← hkv]
        have := hb.perm.map (psAt H)
        rw [ea, List.map_map] at this
        exact this
      · exact List.pairwise_map.mpr hs
    refine wpAny_pure ⟨_, rfl, .ref h'.objs.size, upd H h'.objs.size (.lst (bs.map V.ref)), I1.laid (t' := tk) (fun b u e => ?_) (Nat.le_refl _)
      (show ObjOk X.prog X.w _ _ _ (.lst (bs.map V.ref)) from ⟨hlen, out, e', by rw [eo]; exact vals_refs bs, he'⟩), rfl, q _ bs ?_ (I1.hok.fresh (Nat.le_refl _))⟩
    · have hb : b < h'.objs.size := Heap.lt_size e
      rw [PyProof.Rows.sortedHeap_old (Nat.ne_of_lt hb) (by rw [size_push']; exact Nat.lt_succ_of_lt hb)]
      exact Heap.get?_push_of_some _ e
    · rw [eq, eo, List.map_map]
      refine paired_map fun b hb' => ?_
      have : Value.ref b ∈ out := by rw [eo]; exact List.mem_map.mpr ⟨b, hb', rfl⟩
      obtain ⟨b', p, e1, e2, e3⟩ := hm2 _ this
      cases e1
      show H b = some (.tup [.str (psAt H (.ref b)).1, .str (psAt H (.ref b)).2])
      rw [e3]
      exact e2
end DL

set_option maxHeartbeats 1000000
/-! DL13: sorted(dict), comparisons of pairs of texts, dict comprehensions, str(int), xs[::-1]. -/
namespace DL
open PySem PySem.Spec PyProof.Rows L2
def pqD (p : Str × Str) : D := .tuple [.str p.1, .str p.2]
section
variable {K : PySem.W.Frag}
theorem atQ_dq {G H : Hp} (g : ∀ b xs, H b = some (.tup xs) → G b = some (.tup xs)) : ∀ {bs : List Addr} {qs : List (Str × Str)}, AtQ H bs qs → DqA K G (bs.map V.ref) (qs.map pqD)
  | _, _, .nil => .nil
  | _, _, .cons h t => .cons (.tup (SqT.of (g _ _ h)) (.cons (.str _) (.cons (.str _) .nil))) (atQ_dq g t)
/-- the tuples that stand are frozen too -/
def tupG (G H : Hp) : Hp := fun a => match G a with
  | some o => some o
  | none => (match H a with
    | some (.tup xs) => some (.tup xs)
    | _ => none)
theorem tupG_old {G H : Hp} {a : Addr} {o : HO} (h : G a = some o) : tupG G H a = some o := by
  unfold tupG
  rw [h]
theorem tupG_tup {G H : Hp} (g : GH G H) {a : Addr} {xs : List V} (h : H a = some (.tup xs)) : tupG G H a = some (.tup xs) := by
  unfold tupG
  cases e : G a with
  | none => dsimp only; rw [h]
  | some o =>
    dsimp only
    rcases g a o e with q | ⟨_, _, q⟩
    · rw [h] at q
      exact q.symm
    · rw [h] at q
      cases q
theorem tupG_none {G H : Hp} {a : Addr} (h : H a = none) (g : GH G H) : tupG G H a = none := by
  unfold tupG
  rw [g.none h]
  dsimp only
  rw [h]
theorem Ext.tups {G H : Hp} (g : GH G H) : Ext G H (tupG G H) H := by
  refine ⟨fun a o h => tupG_old h, fun a o h => h, fun a u r => ?_, fun a o h t n => ?_⟩
  · unfold tupG at r
    cases e : G a with
    | some o =>
      rw [e] at r
      cases r
      exact g a _ e
    | none =>
      rw [e] at r
      dsimp only at r
      cases q : H a with
      | none => rw [q] at r; cases r
      | some o =>
        rw [q] at r
        cases o <;> first | (cases r; exact .inl rfl) | cases r
  · unfold tupG
    rw [n]
    dsimp only
    rw [h]
    cases o <;> first | rfl | cases t
theorem cn_sortDT {kvs : List (List Key × D)} {qs : List (Str × Str)} (e : kvs.map (·.1) = qs.map keyQ) : CN K (rSortDT K) [dtD kvs] (.list ((srt ltQ qs).map pqD)) := fun xs G H Q g hx q => by
  cases hx with
  | cons a b =>
    cases b
    obtain ⟨d, es, rfl, h1, h2⟩ := dq_dt a
    refine ⟨d, es, qs, rfl, g.rd h1, by rw [h2.keys, e], fun p bs hb hp => ?_⟩
    have x := Ext.tups g
    exact q p _ _ (x.trans (.fresh x.gh hp)) hp (tupG_none hp g) (.lst upd_same (atQ_dq (fun b xs h => tupG_tup g h) hb))
/-! ### pairs of texts are compared -/
def rLtQ (K : PySem.W.Frag) : R2 := fun x y H Q => ∃ (a b : Addr) (p q : Str × Str), x = .ref a ∧ y = .ref b ∧ SqT K H a [.str p.1, .str p.2] ∧ SqT K H b [.str q.1, .str q.2] ∧ Q (.bl (ltQ p q)) H
def rGeQ (K : PySem.W.Frag) : R2 := fun x y H Q => ∃ (a b : Addr) (p q : Str × Str), x = .ref a ∧ y = .ref b ∧ SqT K H a [.str p.1, .str p.2] ∧ SqT K H b [.str q.1, .str q.2] ∧ Q (.bl (!ltQ p q)) H
theorem lex2 {e r : Nat → Bool} {z : Bool} : Ob.lexAt e r z 0 2 = if e 0 = true then (if e 1 = true then z else r 1) else r 0 := rfl
end
section
variable {X : Cx}
theorem eq_ss {A : Around} {s : Shared} (a b : Str) (t u : Tok) : SeqAt.EqAt A s (.str a t) (.str b u) (decide (a = b)) := by
  have z : (a == b) = decide (a = b) := by
    by_cases q : a = b
    · rw [decide_eq_true q]; exact beq_iff_eq.mpr q
    · rw [decide_eq_false q]; exact beq_eq_false_iff_ne.mpr q
  rw [← z]
  exact SeqAt.EqAt.str_str _ _ _ _
theorem op_ltQ (hu : X.A.units < cLine) : OpR X (compareOp .Lt) (rLtQ X.K) := by
  intro pins s σ H x y v u Q I rx ry h
  obtain ⟨a, b, p, q, rfl, rfl, ha, hb, h⟩ := h
  cases rx
  cases ry
  obtain ⟨its, r1, p1, _⟩ := I.tuple ha
  obtain ⟨its2, r2, p2, _⟩ := I.tuple hb
  obtain ⟨u1, u2, rfl, i1, i2⟩ := vals2 r1
  obtain ⟨t1, rfl⟩ := i1
  obtain ⟨t2, rfl⟩ := i2
  obtain ⟨w1, w2, rfl, j1, j2⟩ := vals2 r2
  obtain ⟨z1, rfl⟩ := j1
  obtain ⟨z2, rfl⟩ := j2
  have R := Ob.RcOp.tuples_lt (A := X.A) (s := s) (e := fun j => if j = 0 then decide (p.1 = q.1) else decide (p.2 = q.2)) (r := fun j => if j = 0 then ltS p.1 q.1 else ltS p.2 q.2) p1 p2 hu (fun j h1 h2 => by
    match j, h1 with
    | 0, _ => exact eq_ss _ _ _ _
    | 1, _ => exact eq_ss _ _ _ _) (fun j h1 h2 _ => by
    match j, h1 with
    | 0, _ => exact fun _ _ _ _ h => lt_str h
    | 1, _ => exact fun _ _ _ _ h => lt_str h)
  have e : Ob.lexAt (fun j => if j = 0 then decide (p.1 = q.1) else decide (p.2 = q.2)) (fun j => if j = 0 then ltS p.1 q.1 else ltS p.2 q.2) (decide (2 < 2)) 0 2 = ltQ p q := by
    rw [lex2]
    unfold ltQ
    by_cases c : p.1 = q.1
    · rw [if_pos c, if_pos (by simpa using c)]
      by_cases f : p.2 = q.2
      · rw [if_pos (by simpa using f), f, ltS_irr]
        rfl
      · rw [if_neg (by simpa using f)]
        rfl
    · rw [if_neg c, if_neg (by simpa using c)]
      rfl
  have R' := R X.prog X.w X.xe (EP X pins σ Q) ⟨.bl (ltQ p q), H, I, congrArg Value.bool e, h⟩
  exact R'
theorem op_geQ (hu : X.A.units < cLine) : OpR X (compareOp .GtE) (rGeQ X.K) := by
  intro pins s σ H x y v u Q I rx ry h
  obtain ⟨a, b, p, q, rfl, rfl, ha, hb, h⟩ := h
  cases rx
  cases ry
  obtain ⟨its, r1, p1, _⟩ := I.tuple ha
  obtain ⟨its2, r2, p2, _⟩ := I.tuple hb
  obtain ⟨u1, u2, rfl, i1, i2⟩ := vals2 r1
  obtain ⟨t1, rfl⟩ := i1
  obtain ⟨t2, rfl⟩ := i2
  obtain ⟨w1, w2, rfl, j1, j2⟩ := vals2 r2
  obtain ⟨z1, rfl⟩ := j1
  obtain ⟨z2, rfl⟩ := j2
  have R := Ob.RcOp.tuples_ge (A := X.A) (s := s) (e := fun j => if j = 0 then decide (p.1 = q.1) else decide (p.2 = q.2)) (r := fun j => if j = 0 then !ltS p.1 q.1 else !ltS p.2 q.2) p1 p2 hu (fun j h1 h2 => by
    match j, h1 with
    | 0, _ => exact eq_ss _ _ _ _
    | 1, _ => exact eq_ss _ _ _ _) (fun j h1 h2 _ => by
    match j, h1 with
    | 0, _ => exact fun _ _ _ _ h => P.ge_str h
    | 1, _ => exact fun _ _ _ _ h => P.ge_str h)
  have e : Ob.lexAt (fun j => if j = 0 then decide (p.1 = q.1) else decide (p.2 = q.2)) (fun j => if j = 0 then !ltS p.1 q.1 else !ltS p.2 q.2) (decide (2 ≥ 2)) 0 2 = !ltQ p q := by
    rw [lex2]
    unfold ltQ
    by_cases c : p.1 = q.1
    · rw [if_pos c, if_pos (by simpa using c)]
      by_cases f : p.2 = q.2
      · rw [if_pos (by simpa using f), f, ltS_irr]
        rfl
      · rw [if_neg (by simpa using f)]
        rfl
    · rw [if_neg c, if_neg (by simpa using c)]
      rfl
  exact R X.prog X.w X.xe (EP X pins σ Q) ⟨.bl (!ltQ p q), H, I, congrArg Value.bool e, h⟩
end
/-- one rule or another -/
def rOr (r r' : R2) : R2 := fun x y H Q => r x y H Q ∨ r' x y H Q
section
variable {K : PySem.W.Frag} {Ex : XK} {ρ : List Sl} {ta tb te tk tv : TE} {tt : TT} {t u : TS} {d d1 d2 : D} {P : Oc → Prop} {r r' : R2}
theorem od_orL (h : OD K r d1 d2 d) : OD K (rOr r r') d1 d2 d := fun x y G H Q g hx hy q => .inl (h x y G H Q g hx hy q)
theorem od_orR (h : OD K r' d1 d2 d) : OD K (rOr r r') d1 d2 d := fun x y G H Q g hx hy q => .inr (h x y G H Q g hx hy q)
theorem ps_sq {G H : Hp} (g : GH G H) {x : V} {a b : Str} (h : Dq K G x (.tuple [.str a, .str b])) : ∃ l, x = .ref l ∧ SqT K H l [.str a, .str b] := by
  cases h with
  | @tup l xs _ ha hr =>
    cases hr with
    | cons h1 h2 => cases h2 with
      | cons h2 h3 =>
        cases h1
        cases h2
        cases h3
        exact ⟨l, rfl, g.t ha⟩
theorem od_ltQ {a b c e : Str} : OD K (rLtQ K) (.tuple [.str a, .str b]) (.tuple [.str c, .str e]) (.bool (ltQ (a, b) (c, e))) := fun x y G H Q g hx hy q => by
  obtain ⟨l, rfl, h1⟩ := ps_sq g hx
  obtain ⟨m, rfl, h2⟩ := ps_sq g hy
  exact ⟨l, m, (a, b), (c, e), rfl, rfl, h1, h2, q _ G H (.refl g) (.bl _)⟩
theorem od_geQ {a b c e : Str} : OD K (rGeQ K) (.tuple [.str a, .str b]) (.tuple [.str c, .str e]) (.bool (!ltQ (a, b) (c, e))) := fun x y G H Q g hx hy q => by
  obtain ⟨l, rfl, h1⟩ := ps_sq g hx
  obtain ⟨m, rfl, h2⟩ := ps_sq g hy
  exact ⟨l, m, (a, b), (c, e), rfl, rfl, h1, h2, q _ G H (.refl g) (.bl _)⟩
/-- xs[::-1] -/
theorem en_revL {ds : List D} (h : EV K te ρ (.list ds)) : EVN K (tRevL K te) ρ (.list ds.reverse) := fun G0 H0 G H σ Q E q =>
  h G0 H0 G H σ _ E fun v G1 H1 e1 hv => by
    cases hv with
    | @lst a xs _ ha hr =>
      refine ⟨a, xs, rfl, SqL.of (e1.gh.lst ha), fun p hp => ?_⟩
      refine q p G1 _ (e1.trans (.fresh e1.gh hp)) ?_ (e1.gh.none hp) (.lst upd_same hr.rev)
      cases w : H p with
      | none => rfl
      | some o => have := e1.hh _ _ w; rw [hp] at this; cases this
/-- str(i) -/
def strI (i : Int) : Str := (toString i : String)
def rStrI : List V → Hp → VK → Prop := fun xs H Q => ∃ i, xs = [.int i] ∧ i.natAbs.log2 < 1920 ∧ Q (.str (toString i)) H
theorem call_strI {X : Cx} : CallR X (.type "str") rStrI := call_str_int
theorem cd_strI {i : Int} (h : i.natAbs.log2 < 1920) : CD K rStrI [.int i] (.str (strI i)) := fun xs G H Q g hx q => by
  cases hx with
  | cons a b =>
    cases b
    cases a
    exact ⟨i, rfl, h, q _ G H (.refl g) (.str _)⟩
/-- a dict comprehension -/
theorem dc_it {J : It} {n : Nat} {Gd : Hp → Prop} {Y : Nat → Hp → V → Hp → Prop} (w : Walk J n Gd Y) {g : TG} {vs : List Nat} {σ : L2.St} {H1 : Hp} {D : Addr} {Qd : Hp → Prop} (Pv : Nat → Hp → Prop) (h0 : Pv 0 (upd H1 D (.dK []))) (hG : ∀ i H, i ≤ n → Pv i H → Gd H)
    (hs : ∀ i x H H', i < n → Pv i H → Y i H x H' → g x (wipe σ vs) H' fun σ2 H2 => wipe σ2 vs = wipe σ vs ∧ tt σ2 H2 fun b H3 =>
      if b = true then tk σ2 H3 fun y H4 => tv σ2 H4 fun z H5 => ∃ kvs k, y = kV k ∧ H5 D = some (.dK kvs) ∧ kvs.length < sizeLine ∧ Pv (i + 1) (upd H5 D (.dK (putK kvs k z))) else Pv (i + 1) H3) (hd : ∀ H, Pv n H → Qd H) :
    ∃ W : Nat → Nat → Hp → Prop, (∃ m, W 0 m (upd H1 D (.dK []))) ∧ ∀ i m H, W i m H →
      (J.stop i H ∧ Qd H) ∨ (J.go i H ∧ ∃ Nx : Hp → Prop, (∀ H', Nx H' → ∃ m', m' < m ∧ W (i + 1) m' H') ∧ ∀ x H', J.yld i H x H' → g x (wipe σ vs) H' fun σ2 H2 => wipe σ2 vs = wipe σ vs ∧ tt σ2 H2 fun b H3 =>
        if b = true then tk σ2 H3 fun y H4 => tv σ2 H4 fun z H5 => ∃ kvs k, y = kV k ∧ H5 D = some (.dK kvs) ∧ kvs.length < sizeLine ∧ Nx (upd H5 D (.dK (putK kvs k z))) else Nx H3) := by
  refine ⟨fun i m H => m = n - i ∧ i ≤ n ∧ Pv i H, ⟨n, rfl, Nat.zero_le _, h0⟩, ?_⟩
  rintro i m H ⟨rfl, hi, p⟩
  by_cases hlt : i < n
  · exact .inr ⟨w.goes i H hlt (hG i H hi p), Pv (i + 1), fun H' p' => ⟨n - (i + 1), by omega, rfl, hlt, p'⟩, fun x H' y => hs i x H H' hlt p (w.yields i H x H' hlt (hG i H hi p) y)⟩
  · have e : i = n := by omega
    subst e
    exact .inl ⟨w.stops H (hG _ H hi p), hd H p⟩
theorem en_dc {wi : TI} {g : TG} {vs : List Nat} {n : Nat} {item : Nat → D} {b : Nat → Bool} {k : Nat → Key} {f : Nat → D} (hi : EI K wi ρ n item) (hn : n ≤ 16000000)
    (hs : ∀ i, i < n → ∃ ρ2 ts, GT K g (wipeS ρ vs) (item i) ρ2 ts ∧ (∀ t ∈ ts, t ∈ vs) ∧ ET K tt ρ2 (b i) ∧ (b i = true → EV K tk ρ2 (kD (k i)) ∧ EV K tv ρ2 (f i))) :
    EVN K (tDc wi g tt tk tv vs) ρ (dkD (dcD n b k f)) := fun G0 H0 G H σ Q E q =>
  hi G0 H0 G H σ _ E fun J G1 H1 Gd Y x w hG hY Dl hD => by
    have E1 := E.go x
    have hH : H Dl = none := by
      cases w : H Dl with
      | none => rfl
      | some o => have := x.hh _ _ w; rw [hD] at this; cases this
    have hG1 : G1 Dl = none := x.gh.none hD
    refine dc_it w (fun i H' => ∃ G' es, Ext G1 H1 G' H' ∧ G' Dl = none ∧ H' Dl = some (.dK es) ∧ DqV K G' es (dcD i b k f)) ⟨G1, [], .fresh x.gh hD, hG1, upd_same, .nil⟩ (fun i H' _ ⟨G', vl, e, _⟩ => hG G' H' e.gg e.gh) (fun i y H' H3 hlt ⟨G', es, e, n1, h1, r1⟩ hy => ?_)
      (fun H' ⟨G', es, e, n1, h1, r1⟩ => q Dl G' H' (x.trans e) hH n1 (.dK h1 r1.k))
    obtain ⟨G3, x3, hdq⟩ := hY i G' H' y H3 hlt e.gg e.gh hy
    obtain ⟨ρ2, ts, hg, hts, ht, he⟩ := hs i hlt
    have E3 : En K G0 H0 G3 H3 (L2.wipe σ vs) (wipeS ρ vs) := ((E1.go e).go x3).wipe vs
    have n3 : G3 Dl = none := x3.own _ _ h1 rfl n1
    refine hg G0 H0 G3 H3 _ y _ E3 hdq fun σ2 E2 hl hk => ⟨wipe_eq (by rw [hl, wipe_length]) hk hts, ?_⟩
    refine ht G0 H0 G3 H3 σ2 _ E2 fun G4 H4 x4 => ?_
    have h4 : H4 Dl = some (.dK es) := x4.hh _ _ (x3.hh _ _ h1)
    have n4 : G4 Dl = none := x4.own _ _ (x3.hh _ _ h1) rfl n3
    have r4 : DqV K G4 es (dcD i b k f) := (r1.mono x3.g).mono x4.g
    have e4 : Ext G1 H1 G4 H4 := (e.trans x3).trans x4
    cases hb : b i with
    | false =>
      rw [if_neg Bool.false_ne_true]
      refine ⟨G4, es, e4, n4, h4, ?_⟩
      unfold dcD
      rw [if_neg (by rw [hb]; exact Bool.false_ne_true)]
      exact r4
    | true =>
      rw [if_pos rfl]
      refine (he hb).1 G0 H0 G4 H4 σ2 _ (E2.go x4) fun u G5 H5 x5 hu => (he hb).2 G0 H0 G5 H5 σ2 _ ((E2.go x4).go x5) fun z G6 H6 x6 hz => ?_
      have x56 := x5.trans x6
      have h5 := x56.hh _ _ h4
      have n5 := x56.own _ _ h4 rfl n4
      have hlen := dcD_len b k f i
      have hl2 := r4.length
      refine ⟨es, k i, key_dq hu, h5, by rw [hl2, sizeLine_eq]; omega, G6, putK es (k i) z, ?_, n5, upd_same, ?_⟩
      · have e5 := e4.trans x56
        refine ⟨e5.gg, fun a o ha => ?_, fun a o ha => ?_, e5.own⟩
        · rw [upd_ne (ne_of_none ha hD)]; exact e5.hh a o ha
        · have ne : a ≠ Dl := ne_of_none ha n5
          rw [upd_ne ne]
          exact e5.gh a o ha
      · have hb' : dcD (i + 1) b k f = putG (dcD i b k f) (k i) (f i) := by
          show (if b i = true then putG (dcD i b k f) (k i) (f i) else dcD i b k f) = _
          rw [if_pos hb]
        rw [hb']
        exact (r4.mono x56.g).put hz
end
end DL

set_option maxHeartbeats 1000000
/-! DL14: x = {k: v for ..} of a local name. -/
namespace DL
open PySem PySem.Spec PyProof.Rows L2
section
variable {X : Cx}
theorem ps_setDc {i : Nat} {y : Str} {py : Pos} {kx vx tg iter : Expr} {ifs : List Expr} {scope : Scope} {own : List (Str × Nat)} {pos spos : Pos} {wi : TI} {g : TG} {tt : TT} {tk tv : TE} (hc : X.calm = true) (hN : X.N.Nodup) (hy : X.N[i]? = some y) (hyl : X.env.scope.names.lookup y = some .local)
    (hsw : swapsWith (.DictComp kx vx [⟨tg, iter, ifs, 0⟩] scope pos) (some (.Name y py)) spos.line X.env = pure true) (hi : PI X tg iter wi) (ok : BlkOk X.N X.env.scope scope own)
    (hg : ∀ (s : Shared) (H : Hp) (C : Addr) (cl : List (Str × Addr)) (fp : List Addr), PG (X.blk s H scope (compEnvC scope cl C X.env) fp) tg g) (ht : ∀ (s : Shared) (H : Hp) (C : Addr) (cl : List (Str × Addr)) (fp : List Addr), PTs (X.blk s H scope (compEnvC scope cl C X.env) fp) ifs tt) (hk : ∀ (s : Shared) (H : Hp) (C : Addr) (cl : List (Str × Addr)) (fp : List Addr), PE (X.blk s H scope (compEnvC scope cl C X.env) fp) kx tk)
    (he : ∀ (s : Shared) (H : Hp) (C : Addr) (cl : List (Str × Addr)) (fp : List Addr), PE (X.blk s H scope (compEnvC scope cl C X.env) fp) vx tv) (hs : ∀ x, foldedSetIterable iter X.env x = pure x := by intro _; rfl) :
    PS X (.Assign [.Name y py] (.DictComp kx vx [⟨tg, iter, ifs, 0⟩] scope pos) spos) (tAsg (tDc wi g tt tk tv (own.map (·.2))) (gName i)) := by
  refine ⟨fun pins s σ H D I h0 => ?_⟩
  rw [exec_Assign_Name_used _ _ _ _ hsw]
  refine wpAny_bind (wpAny_standAt (wpAny_bind ?_))
  show wpAny _ X.A (do let _ ← comprehension (.DictComp kx vx [⟨tg, iter, ifs, 0⟩] scope pos) scope X.env (firstIterPos [⟨tg, iter, ifs, 0⟩] pos) newDict false (eval iter X.env) (some (assign (.Name y py) X.env))) _ _ s
  have h1 : tDc wi g tt tk tv (own.map (·.2)) σ H (fun x H1 => gName i x σ H1 D.nx) := h0
  refine wpAny_bind (thn (dc_core (Qf := fun _ s' => SP X pins D .next s') hc hN I hi ok hg ht hk he hs h1 fun L C s' m H' I' q hn ff => ?_) fun _ s' hq => wpAny_pure (wpAny_pure hq))
  show wpAny _ _ (assign (.Name y py) X.env (.ref L)) _ _ _
  refine wpAny_assign_Name (store_ok2 (v := V.ref L) I' hN hy (.inl hyl) rfl (fun s2 I2 ⟨a, sb, ha⟩ => ?_) (.inr hyl))
  obtain ⟨g0, g1, g2, g3, g4, g5⟩ := ff
  have hCa : C ≠ a := by
    rcases ha with z | z
    · rw [z]
      exact g1
    · exact fun e => g4 y a z e.symm
  exact ⟨m, hn.sameBut sb hCa, fun h3 sb3 => ⟨_, H', I2.turned (t' := s2.toks) (fun b o hb e => (sb3.2 b hb).trans e) g0 g1 g3 g4 g5, q⟩⟩
theorem sw_trueD {kx vx : Expr} {gs : List Comprehension} {scope : Scope} {pos py : Pos} {y : Str} {l : Nat} {env : Env} (h1 : env.scope.kind = .function) (h2 : env.scope.names.lookup y = some .local) (h3 : (py.line == pos.line) = true)
    (h4 : (scope.names.any fun (n, k) => n == y && (k == .local || k == .cell)) = false) : swapsWith (.DictComp kx vx gs scope pos) (some (.Name y py)) l env = pure true := by
  have k1 : env.kindOf y = some .local := h2
  have k2 : env.blockKind = .function := by
    unfold Env.blockKind
    rw [h1]
    rfl
  unfold swapsWith
  simp only [k2, k1, h4, Expr.pos, h3]
  rfl
end
section
variable {K : PySem.W.Frag} {ρ : List Sl} {ta tb : TE}
theorem ev_inDS {kvs : List (Key × D)} {x : Str} (hk : EV K ta ρ (.str x)) (h : EV K tb ρ (dkD kvs)) : EV K (tDIn ta tb) ρ (.bool (hasG kvs (.inr x))) := ev_inD hk rfl h
theorem ev_ninDS {kvs : List (Key × D)} {x : Str} (hk : EV K ta ρ (.str x)) (h : EV K tb ρ (dkD kvs)) : EV K (tDNotIn ta tb) ρ (.bool (!hasG kvs (.inr x))) := ev_ninD hk rfl h
/-- the first place below n at which f tells a word -/
def firstO {α : Type} (f : Nat → Option α) : Nat → Option (Nat × α)
  | 0 => none
  | n + 1 => match firstO f n with
    | some r => some r
    | none => (f n).map fun w => (n, w)
theorem firstO_none {α : Type} {f : Nat → Option α} : ∀ {n : Nat}, (∀ j, j < n → f j = none) → firstO f n = none
  | 0, _ => rfl
  | n + 1, h => by
    unfold firstO
    rw [firstO_none fun j hj => h j (by omega), h n (by omega)]
    rfl
theorem firstO_some {α : Type} {f : Nat → Option α} {i : Nat} {w : α} : ∀ {n : Nat}, i < n → (∀ j, j < i → f j = none) → f i = some w → firstO f n = some (i, w)
  | 0, h, _, _ => by omega
  | n + 1, h, h0, h1 => by
    unfold firstO
    by_cases e : i = n
    · subst e
      rw [firstO_none h0, h1]
      rfl
    · rw [firstO_some (n := n) (by omega) h0 h1]
theorem firstO_at {α : Type} {f : Nat → Option α} {i : Nat} {w : α} : ∀ {n : Nat}, firstO f n = some (i, w) → i < n ∧ f i = some w ∧ ∀ j, j < i → f j = none
  | 0, h => by cases h
  | n + 1, h => by
    unfold firstO at h
    cases q : firstO f n with
    | some r =>
      rw [q] at h
      dsimp only at h
      subst_vars
      injection h with h
      subst h
      obtain ⟨a, b, c⟩ := firstO_at q
      exact ⟨by omega, b, c⟩
    | none =>
      rw [q] at h
      dsimp only at h
      have nn : ∀ {m : Nat}, firstO f m = none → ∀ j, j < m → f j = none := by
        intro m
        induction m with
        | zero => intro _ j hj; omega
        | succ m ih =>
          intro hm j hj
          unfold firstO at hm
          cases q2 : firstO f m with
          | some r => rw [q2] at hm; cases hm
          | none =>
            rw [q2] at hm
            dsimp only at hm
            by_cases e : j = m
            · subst e
              cases q3 : f j with
              | none => rfl
              | some w => rw [q3] at hm; cases hm
            · exact ih q2 j (by omega)
      cases q3 : f n with
      | none => rw [q3] at h; cases h
      | some w' =>
        rw [q3] at h
        injection h with h
        injection h with h1 h2
        subst h1 h2
        exact ⟨by omega, q3, nn q⟩
theorem firstO_nn {α : Type} {f : Nat → Option α} : ∀ {n : Nat}, firstO f n = none → ∀ j, j < n → f j = none
  | 0, _, j, hj => by omega
  | n + 1, h, j, hj => by
    cases q : f j with
    | none => rfl
    | some w =>
      exfalso
      cases q2 : firstO f n with
      | some r =>
        unfold firstO at h
        rw [q2] at h
        cases h
      | none =>
        unfold firstO at h
        rw [q2] at h
        dsimp only at h
        by_cases e : j = n
        · subst e
          rw [q] at h
          cases h
        · have := firstO_nn q2 j (by omega)
          rw [q] at this
          cases this
end
end DL

set_option maxHeartbeats 1000000
/-! DL15: a dict of owned lists. -/
namespace DL
open PySem PySem.Spec PyProof.Rows L2
def getL : List (Key × List D) → Key → Option (List D)
  | [], _ => none
  | (k', ds) :: r, k => if k' = k then some ds else getL r k
def appL : List (Key × List D) → Key → D → List (Key × List D)
  | [], _, _ => []
  | (k', ds) :: r, k, d => if k' = k then (k', ds ++ [d]) :: r else (k', ds) :: appL r k d
section
variable {K : PySem.W.Frag} {G H : Hp}
theorem NeL.get {k : Key} {ds : List D} : ∀ {es : List (Key × V)} {as : List Addr} {kls : List (Key × List D)}, NeL K G H es as kls → getL kls k = some ds → ∃ a vs, valV es k = some (.ref a) ∧ a ∈ as ∧ H a = some (.lst vs) ∧ DqA K G vs ds
  | _, _, _, .nil, e => by cases e
  | _, _, _, @NeL.cons _ _ _ k' a vs ds' es as kls h r t, e => by
    unfold getL at e
    by_cases q : k' = k
    · rw [if_pos q] at e
      cases e
      exact ⟨a, vs, valV_pos q, List.mem_cons_self .., h, r⟩
    · rw [if_neg q] at e
      obtain ⟨b, us, h1, h2, h3, h4⟩ := NeL.get t e
      exact ⟨b, us, by rw [valV_neg (p := (k', V.ref a)) q]; exact h1, List.mem_cons_of_mem _ h2, h3, h4⟩
theorem NeL.keep {a : Addr} {o : HO} : ∀ {es : List (Key × V)} {as : List Addr} {kls : List (Key × List D)}, NeL K G H es as kls → a ∉ as → NeL K G (upd H a o) es as kls
  | _, _, _, .nil, _ => .nil
  | _, _, _, .cons h r t, n => .cons (by rw [upd_ne fun z => n (by rw [z]; exact List.mem_cons_self ..)]; exact h) r (NeL.keep t fun z => n (List.mem_cons_of_mem _ z))
theorem NeL.upd {k : Key} {ds : List D} {v : V} {d : D} (hv : Dq K G v d) : ∀ {es : List (Key × V)} {as : List Addr} {kls : List (Key × List D)} {a : Addr} {vs : List V}, NeL K G H es as kls → as.Nodup → getL kls k = some ds → valV es k = some (.ref a) → H a = some (.lst vs) → NeL K G (upd H a (.lst (vs ++ [v]))) es as (appL kls k d)
  | _, _, _, _, _, .nil, _, e, _, _ => by cases e
  | _, _, _, a, vs, @NeL.cons _ _ _ k' b us ds' es as kls h r t, nd, e, ev, ha => by
    unfold getL at e
    unfold appL
    obtain ⟨n1, n2⟩ := List.nodup_cons.mp nd
    by_cases q : k' = k
    · rw [valV_pos (p := (k', V.ref b)) q] at ev
      injection ev with ev
      injection ev with ev
      have ev : b = a := ev
      subst ev
      rw [if_pos q]
      rw [h] at ha
      cases ha
      exact .cons upd_same (r.append (.one hv)) (t.keep n1)
    · rw [if_neg q] at e
      rw [valV_neg (p := (k', V.ref b)) q] at ev
      rw [if_neg q]
      have ne : b ≠ a := by
        rintro rfl
        obtain ⟨c, ws, h1, h2, _⟩ := NeL.get t e
        rw [ev] at h1
        cases h1
        exact n1 h2
      exact .cons (by rw [upd_ne ne]; exact h) r (NeL.upd hv t n2 e ev ha)
end
section
variable {K : PySem.W.Frag} {G0 H0 G H : Hp} {σ : L2.St} {ρ : List Sl} {Ex : XK} {ta tb te : TE} {d : D} {P : Oc → Prop}
theorem En.look (E : En K G0 H0 G H σ ρ) {n : Nat} {kls : List (Key × List D)} (hi : ρ[n]? = some (.ne kls)) : ∃ l as es, σ[n]? = some (some (.ref l)) ∧ H l = some (.dK es) ∧ NeL K G H es as kls ∧ (l :: as).Nodup ∧ ∀ a ∈ l :: as, H0 a = none ∧ G a = none ∧ ∀ (j : Nat) (e : D), ρ[j]? = some (Sl.ow e) → σ[j]? ≠ some (some (V.ref a)) := by
  obtain ⟨l, as, h1, ⟨⟨es, h2, h3⟩, h4⟩, h5⟩ := E.ne n kls hi
  exact ⟨l, as, es, h1, h2, h3, h4, h5⟩
/-- one list of it is changed -/
theorem En.writeN (E : En K G0 H0 G H σ ρ) {n : Nat} {kls lls : List (Key × List D)} {l a : Addr} {as : List Addr} {es : List (Key × V)} {o : HO} (hi : ρ[n]? = some (.ne kls)) (hl : σ[n]? = some (some (.ref l))) (hd : H l = some (.dK es)) (nd : (l :: as).Nodup) (ha : a ∈ as)
    (hf : ∀ a ∈ l :: as, H0 a = none ∧ G a = none ∧ ∀ (j : Nat) (e : D), ρ[j]? = some (Sl.ow e) → σ[j]? ≠ some (some (V.ref a))) (h : NeL K G (upd H a o) es as lls) : En K G0 H0 G (upd H a o) σ (ρ.set n (.ne lls)) := by
  obtain ⟨f1, f2, f3⟩ := hf a (List.mem_cons_of_mem _ ha)
  have hla : l ≠ a := fun z => (List.nodup_cons.mp nd).1 (by rw [z]; exact ha)
  have hil : n < ρ.length := (List.getElem?_eq_some_iff.mp hi).1
  have ghn : GH G (upd H a o) := fun b u r => by
    have ne : b ≠ a := by
      rintro rfl
      rw [f2] at r
      cases r
    rw [upd_ne ne]
    exact E.gh b u r
  have old : ∀ {j : Nat} {e : D}, (ρ.set n (.ne lls))[j]? = some (Sl.ow e) → ρ[j]? = some (Sl.ow e) := fun {j e} z => by
    rcases set_get? z with ⟨_, _, x⟩ | ⟨_, z⟩
    · cases x
    · exact z
  refine ⟨by rw [List.length_set, E.len], ⟨E.ext.gg, fun b u e => by rw [upd_ne (ne_of_none e f1)]; exact E.ext.hh b u e, ghn, E.ext.own⟩, fun j e q => ?_, fun j e q => ?_, fun j b dd fl q => ?_, fun j k e e' b q q' => E.dis j k e e' b (old q) (old q'), fun j ks q => ?_, fun j k x y q q' => ?_⟩
  · rcases set_get? q with ⟨_, _, x⟩ | ⟨_, q⟩
    · cases x
    · exact E.fr j e q
  · obtain ⟨b, a1, a2, a3, a4⟩ := E.ow j e (old q)
    have hb : b ≠ a := fun z => f3 j e (old q) (by rw [← z]; exact a1)
    exact ⟨b, a1, a2, a3, a4.ext (GH.refl G) (upd_ne hb)⟩
  · rcases set_get? q with ⟨_, _, x⟩ | ⟨_, q⟩
    · cases x
    · exact E.ex j b dd fl q
  · rcases set_get? q with ⟨rfl, _, x⟩ | ⟨nj, q⟩
    · cases x
      exact ⟨l, as, hl, ⟨⟨es, by rw [upd_ne hla]; exact hd, h⟩, nd⟩, fun b hb => ⟨(hf b hb).1, (hf b hb).2.1, fun k e z => (hf b hb).2.2 k e (old z)⟩⟩
    · exact absurd (E.ned j n ks kls q hi) nj
  · have hx : ∀ {j : Nat} {x : List (Key × List D)}, (ρ.set n (.ne lls))[j]? = some (Sl.ne x) → j = n := fun {j x} z => by
      rcases set_get? z with ⟨e, _, _⟩ | ⟨_, z⟩
      · exact e
      · exact E.ned j n x kls z hi
    rw [hx q, hx q']
/-- d[k].append(e) -/
theorem st_nappend {n : Nat} {kls : List (Key × List D)} {k : Key} {dk : D} {ds : List D} (hi : ρ[n]? = some (.ne kls)) (hk : EV K tb ρ dk) (ek : dk = kD k) (hg : getL kls k = some ds) (h : EV K te ρ d) (hz : ds.length < 16000000) (q : P (.nx (ρ.set n (.ne (appL kls k d))))) :
    ST K Ex (tDrop (tBM K "list" rAppend (tDGet (tVar n) tb) (tCons te tNil))) ρ P := fun G0 H0 G H σ D E f => by
  obtain ⟨l, _, h1, _⟩ := E.ne n kls hi
  subst ek
  refine ⟨_, h1, hk G0 H0 G H σ _ E fun y G1 H1 e1 hy => ?_⟩
  obtain ⟨l', as, es, g1, g2, g3, g4, g5⟩ := (E.go e1).look hi
  rw [h1] at g1
  cases g1
  obtain ⟨a, vs, b1, b2, b3, b4⟩ := g3.get hg
  have ey := key_dq hy
  subst ey
  refine ⟨l, .ref a, rfl, .inl ⟨es, k, .inl g2, rfl, b1.symm⟩, .inl ⟨rfl, vs, SqL.of b3⟩, h G0 H0 G1 H1 σ _ (E.go e1) fun v G2 H2 e2 hv => ?_⟩
  have E2 := (E.go e1).go e2
  obtain ⟨l2, as2, es2, c1, c2, c3, c4, c5⟩ := E2.look hi
  rw [h1] at c1
  cases c1
  have d2 := e2.hh _ _ g2
  rw [c2] at d2
  cases d2
  have d3 := g3.det c3
  subst d3
  have d4 := e2.hh _ _ b3
  exact ⟨a, vs, v, rfl, rfl, d4, by rw [b4.length, sizeLine_eq]; omega, f.nx _ _ _ _ q (E2.writeN hi h1 c2 c4 b2 c5 (NeL.upd hv c3 (List.nodup_cons.mp c4).2 hg b1 d4))⟩
/-- what it is when it is frozen -/
def neD (kls : List (Key × List D)) : D := dkD (kls.map fun p => (p.1, .list p.2))
theorem NeL.frz {G' : Hp} (g : GH G G') : ∀ {es : List (Key × V)} {as : List Addr} {kls : List (Key × List D)}, NeL K G H es as kls → (∀ a ∈ as, G' a = H a) → DqV K G' es (kls.map fun p => (p.1, .list p.2))
  | _, _, _, .nil, _ => .nil
  | _, _, _, .cons h r t, e => .cons (.lst ((e _ (List.mem_cons_self ..)).trans h) (r.mono g)) (NeL.frz g t fun a ha => e a (List.mem_cons_of_mem _ ha))
theorem En.freezeN (E : En K G0 H0 G H σ ρ) {n : Nat} {kls : List (Key × List D)} (hi : ρ[n]? = some (.ne kls)) : ∃ G', En K G0 H0 G' H σ (ρ.set n (.fr (neD kls))) ∧ ∀ l, σ[n]? = some (some (.ref l)) → G' l = H l := by
  obtain ⟨l, as, es, h1, h2, h3, h4, h5⟩ := E.look hi
  let G' : Hp := fun a => if a ∈ l :: as then H a else G a
  have gin : ∀ a ∈ l :: as, G' a = H a := fun a ha => if_pos ha
  have gout : ∀ a, a ∉ l :: as → G' a = G a := fun a ha => if_neg ha
  have gg : ∀ a u, G a = some u → G' a = some u := fun a u e => by
    rw [gout a fun z => by rw [(h5 a z).2.1] at e; cases e]
    exact e
  have gh' : GH G' H := fun a u r => by
    by_cases ha : a ∈ l :: as
    · rw [gin a ha] at r
      exact .inl r
    · rw [gout a ha] at r
      exact E.gh a u r
  have hil : n < ρ.length := (List.getElem?_eq_some_iff.mp hi).1
  have old : ∀ {j : Nat} {e : D}, (ρ.set n (.fr (neD kls)))[j]? = some (Sl.ow e) → ρ[j]? = some (Sl.ow e) := fun {j e} z => by
    rcases set_get? z with ⟨_, _, x⟩ | ⟨_, z⟩
    · cases x
    · exact z
  have non : ∀ {j : Nat} {x : List (Key × List D)}, (ρ.set n (.fr (neD kls)))[j]? = some (Sl.ne x) → False := fun {j x} z => by
    rcases set_get? z with ⟨_, _, x⟩ | ⟨nj, z⟩
    · cases x
    · exact nj (E.ned j n x kls z hi)
  refine ⟨G', ⟨by rw [List.length_set, E.len], ⟨fun a u e => gg a u (E.ext.gg a u e), E.ext.hh, gh', fun a u e t z => ?_⟩, fun j e q => ?_, fun j e q => ?_, fun j b dd fl q => ?_, fun j k e e' b q q' => E.dis j k e e' b (old q) (old q'), fun j ks q => (non q).elim, fun j k x y q q' => (non q).elim⟩, fun m hm => gin m (by rw [h1] at hm; injection hm with hm; injection hm with hm; injection hm with hm; rw [← hm]; exact List.mem_cons_self ..)⟩
  · rw [gout a fun m => by rw [(h5 a m).1] at e; cases e]
    exact E.ext.own a u e t z
  · rcases set_get? q with ⟨rfl, _, x⟩ | ⟨_, q⟩
    · cases x
      exact ⟨_, h1, .dK (.inl ((gin l (List.mem_cons_self ..)).trans h2)) (DqV.k (h3.frz (GH.of gg) fun a ha => gin a (List.mem_cons_of_mem _ ha)))⟩
    · obtain ⟨v, a1, a2⟩ := E.fr j e q
      exact ⟨v, a1, a2.mono (GH.of gg)⟩
  · obtain ⟨b, a1, a2, a3, a4⟩ := E.ow j e (old q)
    have hb : b ∉ l :: as := fun m => (h5 b m).2.2 j e (old q) a1
    exact ⟨b, a1, a2, by rw [gout b hb]; exact a3, a4.ext (GH.of gg) rfl⟩
  · rcases set_get? q with ⟨_, _, x⟩ | ⟨_, q⟩
    · cases x
    · obtain ⟨a1, fs, a2, a3⟩ := E.ex j b dd fl q
      exact ⟨a1, fs, gg _ _ a2, a3.mono (GH.of gg)⟩
theorem q_frzN {t : TS} {n : Nat} {kls : List (Key × List D)} (hi : ρ[n]? = some (.ne kls)) (h : ST K Ex t (ρ.set n (.fr (neD kls))) P) : ST K Ex t ρ P := fun G0 H0 G H σ D E f => by
  obtain ⟨G', E', _⟩ := E.freezeN hi
  exact h G0 H0 G' H σ D E' f
/-! ### laying one -/
theorem NeL.ext {G' H' : Hp} (x : Ext G H G' H') {es : List (Key × V)} {as : List Addr} {kls : List (Key × List D)} (h : NeL K G H es as kls) : NeL K G' H' es as kls := h.go x.g fun a ha => by
  obtain ⟨vs, e⟩ := h.there a ha
  exact (x.hh a _ e).trans e.symm
theorem NeL.none {k : Key} : ∀ {es : List (Key × V)} {as : List Addr} {kls : List (Key × List D)}, NeL K G H es as kls → getL kls k = none → valV es k = none
  | _, _, _, .nil, _ => rfl
  | _, _, _, @NeL.cons _ _ _ k' a vs ds es as kls h r t, e => by
    unfold getL at e
    by_cases q : k' = k
    · rw [if_pos q] at e
      cases e
    · rw [if_neg q] at e
      rw [valV_neg (p := (k', V.ref a)) q]
      exact NeL.none t e
theorem NeL.snoc {k : Key} {a : Addr} {vs : List V} {ds : List D} (h : H a = some (.lst vs)) (r : DqA K G vs ds) : ∀ {es : List (Key × V)} {as : List Addr} {kls : List (Key × List D)}, NeL K G H es as kls → NeL K G H (es ++ [(k, .ref a)]) (as ++ [a]) (kls ++ [(k, ds)])
  | _, _, _, .nil => .cons h r .nil
  | _, _, _, .cons h' r' t => .cons h' r' (NeL.snoc h r t)
/-- a new dict of owned lists -/
def EVL (K : PySem.W.Frag) (te : TE) (ρ : List Sl) (kls : List (Key × List D)) : Prop := ∀ (G0 H0 G H : Hp) (σ : L2.St) (Q : VK), En K G0 H0 G H σ ρ → (∀ l as G' H', Ext G H G' H' → (∀ a ∈ l :: as, H a = none ∧ G' a = none) → NeC K G' H' l as kls → Q (.ref l) H') → te σ H Q
def klD (k : Nat → Key) (f : Nat → List D) (n : Nat) : List (Key × List D) := (List.range n).map fun i => (k i, f i)
/-- EI at one state -/
def EIp (K : PySem.W.Frag) (wi : TI) (σ : L2.St) (G H : Hp) (n : Nat) (item : Nat → D) : Prop := ∀ (R : It → Hp → Prop),
  (∀ J G' H' Gd Y, Ext G H G' H' → Walk J n Gd Y → (∀ G2 H2, Ext G' H' G2 H2 → Gd H2) →
    (∀ i G2 H2 x H3, i < n → Ext G' H' G2 H2 → Y i H2 x H3 → ∃ G3, Ext G2 H2 G3 H3 ∧ Dq K G3 x (item i)) → R J H') → wi σ H R
theorem el_dc0 {wi : TI} {g : TG} {tt : TT} {tk tv : TE} {vs : List Nat} {n : Nat} {item : Nat → D} {k : Nat → Key} {f : Nat → List D} (E : En K G0 H0 G H σ ρ) (hi : EIp K wi σ G H n item) (hn : n ≤ 16000000) (hd : ∀ i, i < n → getL (klD k f i) (k i) = none)
    (hs : ∀ i, i < n → ∃ ρ2 ts, GT K g (wipeS ρ vs) (item i) ρ2 ts ∧ (∀ t ∈ ts, t ∈ vs) ∧ ET K tt ρ2 true ∧ EV K tk ρ2 (kD (k i)) ∧ EVN K tv ρ2 (.list (f i)))
    {Q : VK} (q : ∀ l as G' H', Ext G H G' H' → (∀ a ∈ l :: as, H a = none ∧ G' a = none) → NeC K G' H' l as (klD k f n) → Q (.ref l) H') : tDc wi g tt tk tv vs σ H Q :=
  hi _ fun J G1 H1 Gd Y x w hG hY Dl hD => by
    have E1 := E.go x
    have back : ∀ {a : Addr} {Hx : Hp}, (∀ b o, H b = some o → Hx b = some o) → Hx a = none → H a = none := fun {a Hx} hh e => by
      cases w : H a with
      | none => rfl
      | some o =>
        have := hh _ _ w
        rw [e] at this
        cases this
    refine dc_it w (fun i H' => ∃ G' es as, Ext G1 H1 G' H' ∧ G' Dl = none ∧ H' Dl = some (.dK es) ∧ NeL K G' H' es as (klD k f i) ∧ (Dl :: as).Nodup ∧ ∀ a ∈ as, H a = none ∧ G' a = none) ⟨G1, [], [], .fresh x.gh hD, x.gh.none hD, upd_same, .nil, List.nodup_cons.mpr ⟨fun h => (by cases h), List.nodup_nil⟩, fun a ha => (by cases ha)⟩ (fun i H' _ ⟨G', es, as, e, _⟩ => hG G' H' e) (fun i y H' H3 hlt ⟨G', es, as, e, n1, h1, r1, d1, f1⟩ hy => ?_)
      (fun H' ⟨G', es, as, e, n1, h1, r1, d1, f1⟩ => q Dl as G' H' (x.trans e) (fun a ha => (List.mem_cons.mp ha).elim (fun z => by rw [z]; exact ⟨back x.hh hD, n1⟩) fun m => f1 a m) ⟨⟨es, h1, r1⟩, d1⟩)
    obtain ⟨G3, x3, hdq⟩ := hY i G' H' y H3 hlt e hy
    obtain ⟨ρ2, ts, hg, hts, ht, hk, hv⟩ := hs i hlt
    have E3 : En K G0 H0 G3 H3 (L2.wipe σ vs) (wipeS ρ vs) := ((E1.go e).go x3).wipe vs
    refine hg G0 H0 G3 H3 _ y _ E3 hdq fun σ2 E2 hl2 hk2 => ⟨wipe_eq (by rw [hl2, wipe_length]) hk2 hts, ?_⟩
    refine ht G0 H0 G3 H3 σ2 _ E2 fun G4 H4 x4 => ?_
    rw [if_pos rfl]
    refine hk G0 H0 G4 H4 σ2 _ (E2.go x4) fun u G5 H5 x5 hu => hv G0 H0 G5 H5 σ2 _ ((E2.go x4).go x5) fun p G6 H6 x6 hp5 hp6 ho => ?_
    have xx := ((x3.trans x4).trans x5).trans x6
    have eD := xx.hh _ _ h1
    have nD := xx.own _ _ h1 rfl n1
    have r6 := r1.ext xx
    have e6 := e.trans xx
    cases ho with
    | @lst us _ hq hr =>
      have hpD : p ≠ Dl := fun z => by
        have := ((x3.trans x4).trans x5).hh _ _ h1
        rw [← z, hp5] at this
        cases this
      have hpa : p ∉ as := fun m => by
        obtain ⟨ws, hw⟩ := r1.there p m
        have := ((x3.trans x4).trans x5).hh _ _ hw
        rw [hp5] at this
        cases this
      have hpH : H p = none := back (fun b o z => ((x3.trans x4).trans x5).hh _ _ (e.hh _ _ (x.hh _ _ z))) hp5
      have hput : putK es (k i) (.ref p) = es ++ [(k i, .ref p)] := putK_new _ (r1.none (hd i hlt))
      have hlen : es.length = i := by
        have : ∀ {es : List (Key × V)} {as : List Addr} {kls : List (Key × List D)}, NeL K G' H' es as kls → es.length = kls.length := by
          intro es as kls z
          induction z with
          | nil => rfl
          | cons _ _ _ ih => exact congrArg Nat.succ ih
        rw [this r1]
        unfold klD
        rw [List.length_map, List.length_range]
      obtain ⟨d2, d3⟩ := List.nodup_cons.mp d1
      have dup : Dl ∉ as ++ [p] := fun m => (List.mem_append.mp m).elim d2 fun z => hpD (List.mem_singleton.mp z).symm
      refine ⟨es, k i, key_dq hu, eD, by rw [hlen, sizeLine_eq]; omega, G6, es ++ [(k i, .ref p)], as ++ [p], ?_, nD, by rw [hput]; exact upd_same, ?_, ?_, fun a ha => ?_⟩
      · refine ⟨e6.gg, fun a o z => ?_, fun a o z => ?_, e6.own⟩
        · rw [upd_ne (ne_of_none z hD)]
          exact e6.hh a o z
        · rw [upd_ne (ne_of_none z nD)]
          exact e6.gh a o z
      · have hkl : klD k f (i + 1) = klD k f i ++ [(k i, f i)] := by
          unfold klD
          rw [List.range_succ, List.map_append]
          rfl
        rw [hkl]
        exact (r6.snoc hq hr).keep dup
      · refine List.nodup_cons.mpr ⟨dup, List.nodup_append.mpr ⟨d3, List.nodup_cons.mpr ⟨fun h => (by cases h), List.nodup_nil⟩, fun a ha c hc z => ?_⟩⟩
        rw [List.mem_singleton.mp hc] at z
        subst z
        exact hpa ha
      · rcases List.mem_append.mp ha with ha | ha
        · obtain ⟨ws, hw⟩ := r1.there a ha
          exact ⟨(f1 a ha).1, xx.own _ _ hw rfl (f1 a ha).2⟩
        · rw [List.mem_singleton.mp ha]
          exact ⟨hpH, hp6⟩
theorem el_dc {wi : TI} {g : TG} {tt : TT} {tk tv : TE} {vs : List Nat} {n : Nat} {item : Nat → D} {k : Nat → Key} {f : Nat → List D} (hi : EI K wi ρ n item) (hn : n ≤ 16000000) (hd : ∀ i, i < n → getL (klD k f i) (k i) = none)
    (hs : ∀ i, i < n → ∃ ρ2 ts, GT K g (wipeS ρ vs) (item i) ρ2 ts ∧ (∀ t ∈ ts, t ∈ vs) ∧ ET K tt ρ2 true ∧ EV K tk ρ2 (kD (k i)) ∧ EVN K tv ρ2 (.list (f i))) :
    EVL K (tDc wi g tt tk tv vs) ρ (klD k f n) := fun G0 H0 G H σ Q E q => el_dc0 E (fun R z => hi G0 H0 G H σ R E fun J G' H' Gd Y x w hG hY => z J G' H' Gd Y x w (fun G2 H2 e => hG G2 H2 e.gg e.gh) fun i G2 H2 x' H3 l e y => hY i G2 H2 x' H3 l e.gg e.gh y) hn hd hs q
theorem En.setL {G' H' : Hp} (E : En K G0 H0 G H σ ρ) {n : Nat} {l : Addr} {as : List Addr} {kls : List (Key × List D)} (hno : ∀ (j : Nat) (x : List (Key × List D)), j ≠ n → ρ[j]? ≠ some (.ne x)) (x : Ext G H G' H') (hf : ∀ a ∈ l :: as, H a = none ∧ G' a = none) (h : NeC K G' H' l as kls) :
    En K G0 H0 G' H' (σ.set n (some (.ref l))) (ρ.set n (.ne kls)) := by
  have E1 := E.go x
  refine ⟨by rw [List.length_set, List.length_set, E.len], E1.ext, fun j e q => ?_, fun j e q => ?_, fun j b dd fl q => ?_, fun j k e e' b q q' r r' => ?_, fun j ks q => ?_, fun j k y z q q' => ?_⟩
  · rcases set_get? q with ⟨_, _, z⟩ | ⟨nj, q⟩
    · cases z
    · rw [List.getElem?_set_ne (Ne.symm nj)]
      exact E1.fr j e q
  · rcases set_get? q with ⟨_, _, z⟩ | ⟨nj, q⟩
    · cases z
    · rw [List.getElem?_set_ne (Ne.symm nj)]
      exact E1.ow j e q
  · rcases set_get? q with ⟨_, _, z⟩ | ⟨nj, q⟩
    · cases z
    · rw [List.getElem?_set_ne (Ne.symm nj)]
      exact E1.ex j b dd fl q
  · rcases set_get? q with ⟨_, _, z⟩ | ⟨nj, q⟩
    · cases z
    · rcases set_get? q' with ⟨_, _, z⟩ | ⟨nk, q'⟩
      · cases z
      · rw [List.getElem?_set_ne (Ne.symm nj)] at r
        rw [List.getElem?_set_ne (Ne.symm nk)] at r'
        exact E1.dis j k e e' b q q' r r'
  · rcases set_get? q with ⟨rfl, hi, z⟩ | ⟨nj, q⟩
    · cases z
      refine ⟨l, as, by rw [List.getElem?_set_self (by rw [E.len]; exact hi)], h, fun a ha => ⟨?_, (hf a ha).2, fun k e z => ?_⟩⟩
      · cases w : H0 a with
        | none => rfl
        | some o =>
          have := E.ext.hh a o w
          rw [(hf a ha).1] at this
          cases this
      · rcases set_get? z with ⟨_, _, y⟩ | ⟨nk, z⟩
        · cases y
        · rw [List.getElem?_set_ne (Ne.symm nk)]
          intro y
          obtain ⟨b, b1, _, _, b4⟩ := E.ow k e z
          rw [b1] at y
          injection y with y
          injection y with y
          injection y with y
          obtain ⟨o, ho, _⟩ := b4.there
          rw [y, (hf a ha).1] at ho
          cases ho
    · exact absurd q (hno j ks nj)
  · have only : ∀ {j : Nat} {y : List (Key × List D)}, (ρ.set n (Sl.ne kls))[j]? = some (Sl.ne y) → j = n := fun {j y} q => by
      rcases set_get? q with ⟨e, _, _⟩ | ⟨nj, q⟩
      · exact e
      · exact absurd q (hno j y nj)
    rw [only q, only q']
theorem st_asgL {n : Nat} {kls : List (Key × List D)} (h : EVL K te ρ kls) (hno : ∀ (j : Nat) (x : List (Key × List D)), j ≠ n → ρ[j]? ≠ some (.ne x)) (q : P (.nx (ρ.set n (.ne kls)))) : ST K Ex (tAsg te (gName n)) ρ P := fun G0 H0 G H σ D E f =>
  h G0 H0 G H σ _ E fun l as G' H' x hf c => f.nx _ _ G' H' q (E.setL hno x hf c)
theorem el_new : EVL K tDNewK ρ [] := fun G0 H0 G H σ Q E q p hp => q p [] G _ (.fresh E.gh hp) (fun a ha => by
  rw [List.mem_singleton.mp ha]
  exact ⟨hp, E.gh.none hp⟩) ⟨⟨[], upd_same, .nil⟩, List.nodup_cons.mpr ⟨fun h => (by cases h), List.nodup_nil⟩⟩
/-- a list more -/
theorem En.writeD (E : En K G0 H0 G H σ ρ) {n : Nat} {kls lls : List (Key × List D)} {l p : Addr} {as : List Addr} {es es' : List (Key × V)} (hi : ρ[n]? = some (.ne kls)) (hl : σ[n]? = some (some (.ref l))) (nd : (l :: as).Nodup)
    (hf : ∀ a ∈ l :: as, H0 a = none ∧ G a = none ∧ ∀ (j : Nat) (e : D), ρ[j]? = some (Sl.ow e) → σ[j]? ≠ some (some (V.ref a))) (hp : p ∉ l :: as) (fp : H0 p = none ∧ G p = none ∧ ∀ (j : Nat) (e : D), ρ[j]? = some (Sl.ow e) → σ[j]? ≠ some (some (V.ref p)))
    (h : NeL K G (upd H l (.dK es')) es' (as ++ [p]) lls) : En K G0 H0 G (upd H l (.dK es')) σ (ρ.set n (.ne lls)) := by
  obtain ⟨f1, f2, f3⟩ := hf l (List.mem_cons_self ..)
  have ghn : GH G (upd H l (.dK es')) := fun b u r => by
    have ne : b ≠ l := by
      rintro rfl
      rw [f2] at r
      cases r
    rw [upd_ne ne]
    exact E.gh b u r
  have old : ∀ {j : Nat} {e : D}, (ρ.set n (.ne lls))[j]? = some (Sl.ow e) → ρ[j]? = some (Sl.ow e) := fun {j e} z => by
    rcases set_get? z with ⟨_, _, x⟩ | ⟨_, z⟩
    · cases x
    · exact z
  refine ⟨by rw [List.length_set, E.len], ⟨E.ext.gg, fun b u e => by rw [upd_ne (ne_of_none e f1)]; exact E.ext.hh b u e, ghn, E.ext.own⟩, fun j e q => ?_, fun j e q => ?_, fun j b dd fl q => ?_, fun j k e e' b q q' => E.dis j k e e' b (old q) (old q'), fun j ks q => ?_, fun j k x y q q' => ?_⟩
  · rcases set_get? q with ⟨_, _, x⟩ | ⟨_, q⟩
    · cases x
    · exact E.fr j e q
  · obtain ⟨b, a1, a2, a3, a4⟩ := E.ow j e (old q)
    have hb : b ≠ l := fun z => f3 j e (old q) (by rw [← z]; exact a1)
    exact ⟨b, a1, a2, a3, a4.ext (GH.refl G) (upd_ne hb)⟩
  · rcases set_get? q with ⟨_, _, x⟩ | ⟨_, q⟩
    · cases x
    · exact E.ex j b dd fl q
  · rcases set_get? q with ⟨rfl, _, x⟩ | ⟨nj, q⟩
    · cases x
      obtain ⟨d1, d2⟩ := List.nodup_cons.mp nd
      have hpl : p ≠ l := fun z => hp (by rw [z]; exact List.mem_cons_self ..)
      refine ⟨l, as ++ [p], hl, ⟨⟨es', upd_same, h⟩, List.nodup_cons.mpr ⟨fun m => (List.mem_append.mp m).elim d1 fun z => hpl (List.mem_singleton.mp z).symm, List.nodup_append.mpr ⟨d2, List.nodup_cons.mpr ⟨fun h => (by cases h), List.nodup_nil⟩, fun a ha c hc z => ?_⟩⟩⟩, fun b hb => ?_⟩
      · rw [List.mem_singleton.mp hc] at z
        subst z
        exact hp (List.mem_cons_of_mem _ ha)
      · have hb2 : b ∈ l :: as ∨ b = p := by
          rcases List.mem_cons.mp hb with e | m
          · exact .inl (by rw [e]; exact List.mem_cons_self ..)
          · rcases List.mem_append.mp m with m | m
            · exact .inl (List.mem_cons_of_mem _ m)
            · exact .inr (List.mem_singleton.mp m)
        rcases hb2 with m | rfl
        · exact ⟨(hf b m).1, (hf b m).2.1, fun k e z => (hf b m).2.2 k e (old z)⟩
        · exact ⟨fp.1, fp.2.1, fun k e z => fp.2.2 k e (old z)⟩
    · exact absurd (E.ned j n ks kls q hi) nj
  · have hx : ∀ {j : Nat} {x : List (Key × List D)}, (ρ.set n (.ne lls))[j]? = some (Sl.ne x) → j = n := fun {j x} z => by
      rcases set_get? z with ⟨e, _, _⟩ | ⟨_, z⟩
      · exact e
      · exact E.ned j n x kls z hi
    rw [hx q, hx q']
theorem NeL.len : ∀ {es : List (Key × V)} {as : List Addr} {kls : List (Key × List D)}, NeL K G H es as kls → es.length = kls.length
  | _, _, _, .nil => rfl
  | _, _, _, .cons _ _ t => congrArg Nat.succ (NeL.len t)
/-- d[k] = a fresh list, k new -/
theorem st_nput {n : Nat} {kls : List (Key × List D)} {k : Key} {dk : D} {ds : List D} (hi : ρ[n]? = some (.ne kls)) (hk : EV K tb ρ dk) (ek : dk = kD k) (hg : getL kls k = none) (h : EVN K te ρ (.list ds)) (hz : kls.length < 16000000) (q : P (.nx (ρ.set n (.ne (kls ++ [(k, ds)]))))) :
    ST K Ex (sDPut (tVar n) tb te) ρ P := fun G0 H0 G H σ D E f =>
  h G0 H0 G H σ _ E fun p G1 H1 e1 hpH hpG ho => by
    cases ho with
    | @lst us _ hp hr =>
      obtain ⟨l, as, es, a1, a2, a3, a4, a5⟩ := E.look hi
      refine ⟨_, a1, hk G0 H0 G1 H1 σ _ (E.go e1) fun y G2 H2 e2 hy => ?_⟩
      subst ek
      have ey := key_dq hy
      subst ey
      have E2 := (E.go e1).go e2
      have xx := e1.trans e2
      have d2 := xx.hh _ _ a2
      have d3 := a3.ext xx
      have np : p ∉ l :: as := fun m => by
        obtain ⟨o, ho, _⟩ := (show NeC K G H l as kls from ⟨⟨es, a2, a3⟩, a4⟩).there p m
        rw [hpH] at ho
        cases ho
      have hput : putK es k (.ref p) = es ++ [(k, .ref p)] := putK_new _ (a3.none hg)
      have hH0 : H0 p = none := by
        cases w : H0 p with
        | none => rfl
        | some o =>
          have := E.ext.hh _ _ w
          rw [hpH] at this
          cases this
      have f5 : ∀ a ∈ l :: as, H0 a = none ∧ G2 a = none ∧ ∀ (j : Nat) (e : DL.D), ρ[j]? = some (Sl.ow e) → σ[j]? ≠ some (some (V.ref a)) := fun a ha => by
        obtain ⟨o, ho, ht⟩ := (show NeC K G H l as kls from ⟨⟨es, a2, a3⟩, a4⟩).there a ha
        exact ⟨(a5 a ha).1, xx.own _ _ ho ht (a5 a ha).2.1, (a5 a ha).2.2⟩
      have lp : l ∉ as ++ [p] := fun m => (List.mem_append.mp m).elim (List.nodup_cons.mp a4).1 fun z => np (by rw [← List.mem_singleton.mp z]; exact List.mem_cons_self ..)
      refine ⟨l, _, rfl, DPut.k d2 (by rw [a3.len, sizeLine_eq]; omega), f.nx _ _ G2 _ q ?_⟩
      rw [hput]
      refine E2.writeD (es := es) hi a1 a4 f5 np ⟨hH0, e2.own _ _ hp rfl hpG, fun j e z y => ?_⟩ ((d3.snoc (e2.hh _ _ hp) (hr.mono e2.g)).keep lp)
      obtain ⟨b, b1, _, _, b4⟩ := E.ow j e z
      rw [b1] at y
      injection y with y
      injection y with y
      injection y with y
      obtain ⟨o, ho, _⟩ := b4.there
      rw [y, hpH] at ho
      cases ho
end
end DL

set_option maxHeartbeats 1000000
/-! DL16: d.items() of a local dict of lists, locked; list.pop(); such a dict returned. -/
namespace DL
open PySem PySem.Spec PyProof.Rows L2
section
variable {K : PySem.W.Frag} {G0 H0 G H : Hp} {σ : L2.St} {ρ : List Sl} {Ex : XK} {ta tb te : TE} {tt : TT} {tu : TS} {d : D} {P : Oc → Prop}
theorem dq_kV {G : Hp} : ∀ k : Key, Dq K G (kV k) (kD k)
  | .inl i => .int i
  | .inr z => .str z
theorem En.lock (E : En K G0 H0 G H σ ρ) {l : Addr} {u : HO} {od : Obj} (h0 : H0 l = none) (hG : G l = some u) (hu : isDic u = true) (hno : ∀ (j : Nat) (x : List (Key × List D)), ρ[j]? ≠ some (.ne x)) : En K G0 H0 G (upd H l (.frz od u)) σ ρ := by
  refine ⟨E.len, ⟨E.ext.gg, fun a o e => by rw [upd_ne (ne_of_none e h0)]; exact E.ext.hh a o e, fun a o e => ?_, E.ext.own⟩, E.fr, fun j e q => ?_, E.ex, E.dis, fun j x q => absurd q (hno j x), fun i j x y q => absurd q (hno i x)⟩
  · by_cases ha : a = l
    · subst ha
      rw [hG] at e
      cases e
      exact .inr ⟨hu, od, upd_same⟩
    · rw [upd_ne ha]
      exact E.gh a o e
  · obtain ⟨b, a1, a2, a3, a4⟩ := E.ow j e q
    have hb : b ≠ l := fun z => by
      rw [z, hG] at a3
      cases a3
    exact ⟨b, a1, a2, a3, a4.ext (GH.refl G) (upd_ne hb)⟩
/-- a new dict of lists is frozen -/
theorem nec_frz {G' H' : Hp} {l : Addr} {as : List Addr} {kls : List (Key × List D)} (x : Ext G H G' H') (hf : ∀ a ∈ l :: as, H a = none ∧ G' a = none) (c : NeC K G' H' l as kls) : ∃ G'', Ext G H G'' H' ∧ Dq K G'' (.ref l) (neD kls) := by
  obtain ⟨⟨es, h2, h3⟩, h4⟩ := c
  let G2 : Hp := fun a => if a ∈ l :: as then H' a else G' a
  have gin : ∀ a ∈ l :: as, G2 a = H' a := fun a ha => if_pos ha
  have gout : ∀ a, a ∉ l :: as → G2 a = G' a := fun a ha => if_neg ha
  have gg : ∀ a u, G' a = some u → G2 a = some u := fun a u e => by
    rw [gout a fun z => by rw [(hf a z).2] at e; cases e]
    exact e
  refine ⟨G2, ⟨fun a u e => gg a u (x.gg a u e), x.hh, fun a u r => ?_, fun a u e t n => ?_⟩, .dK (.inl ((gin l (List.mem_cons_self ..)).trans h2)) (DqV.k (h3.frz (GH.of gg) fun a ha => gin a (List.mem_cons_of_mem _ ha)))⟩
  · by_cases ha : a ∈ l :: as
    · rw [gin a ha] at r
      exact .inl r
    · rw [gout a ha] at r
      exact x.gh a u r
  · rw [gout a fun m => by rw [(hf a m).1] at e; cases e]
    exact x.own a u e t n
theorem ev_L {kls : List (Key × List D)} (h : EVL K te ρ kls) : EV K te ρ (neD kls) := fun G0 H0 G H σ Q E q => h G0 H0 G H σ Q E fun l as G' H' x hf c => by
  obtain ⟨G'', x', hd⟩ := nec_frz x hf c
  exact q _ _ _ x' hd
theorem DqV.at {κ : Type} {z : κ × D} : ∀ {es : List (κ × V)} {kvs : List (κ × D)} {i : Nat}, DqV K G es kvs → i < kvs.length → ∃ k v, es[i]? = some (k, v) ∧ k = (kvs.getD i z).1 ∧ Dq K G v (kvs.getD i z).2
  | _, _, _, .nil, h => absurd h (Nat.not_lt_zero _)
  | _, _, 0, .cons a b, h => ⟨_, _, rfl, rfl, a⟩
  | _, _, i + 1, .cons a b, h => by
    obtain ⟨k, v, h1, h2, h3⟩ := DqV.at (z := z) (i := i) b (by simpa using h)
    exact ⟨k, v, by rw [List.getElem?_cons_succ]; exact h1, by rw [List.getD_cons_succ]; exact h2, by rw [List.getD_cons_succ]; exact h3⟩
theorem DqA.snoc_inv : ∀ {ds : List D} {us : List V} {d : D}, DqA K G us (ds ++ [d]) → ∃ vs v, us = vs ++ [v] ∧ DqA K G vs ds ∧ Dq K G v d
  | [], _, _, h => by
    cases h with
    | cons a b =>
      cases b
      exact ⟨[], _, rfl, .nil, a⟩
  | _ :: ds, _, d, h => by
    cases h with
    | cons a b =>
      obtain ⟨vs, v, rfl, r1, r2⟩ := DqA.snoc_inv (ds := ds) b
      exact ⟨_ :: vs, v, rfl, .cons a r1, r2⟩
def itemK (kls : List (Key × List D)) (i : Nat) : D := .tuple [kD (kls.getD i (.inl 0, [])).1, .list (kls.getD i (.inl 0, [])).2]
/-- return {k: <fresh list> for a, b in t.items()}, t a dict of lists of one's own -/
theorem st_retI {n : Nat} {kls : List (Key × List D)} {g : TG} {tk tv : TE} {vs : List Nat} {k : Nat → Key} {f : Nat → List D} (hi : ρ[n]? = some (.ne kls)) (hn : kls.length ≤ 16000000) (hd : ∀ i, i < kls.length → getL (klD k f i) (k i) = none)
    (hs : ∀ i, i < kls.length → ∃ ρ2 ts, GT K g (wipeS (ρ.set n (.fr (neD kls))) vs) (itemK kls i) ρ2 ts ∧ (∀ t ∈ ts, t ∈ vs) ∧ ET K tt ρ2 true ∧ EV K tk ρ2 (kD (k i)) ∧ EVN K tv ρ2 (.list (f i)))
    (q : P (.rt (neD (klD k f kls.length)))) : ST K Ex (tRet (tLockE (tDc (iItems (tVar n)) g tt tk tv vs))) ρ P := fun G0 H0 G H σ D E fin => by
  obtain ⟨l, as, es, h1, h2, h3, h4, h5⟩ := E.look hi
  obtain ⟨G', E', hGH⟩ := E.freezeN hi
  have hG : G' l = some (.dK es) := (hGH l h1).trans h2
  have h0 : H0 l = none := (h5 l (List.mem_cons_self ..)).1
  have hno : ∀ (j : Nat) (x : List (Key × List DL.D)), (ρ.set n (.fr (neD kls)))[j]? ≠ some (.ne x) := fun j x z => by
    rcases set_get? z with ⟨_, _, y⟩ | ⟨nj, z⟩
    · cases y
    · exact nj (E.ned j n x kls z hi)
  have hil : n < ρ.length := (List.getElem?_eq_some_iff.mp hi).1
  have hv : DqV K G' es (kls.map fun p => (p.1, PyData.list p.2)) := by
    obtain ⟨v, a1, a2⟩ := E'.fr n (neD kls) (by rw [List.getElem?_set_self hil])
    rw [h1] at a1
    injection a1 with a1
    injection a1 with a1
    obtain ⟨a, es', b1, b2, b3⟩ := dq_dk a2
    rw [← a1] at b1
    injection b1 with b1
    subst b1
    rcases b2 with b2 | ⟨o, b2⟩
    · rw [hG] at b2
      cases b2
      exact b3
    · rw [hG] at b2
      cases b2
  have hle : es.length = kls.length := by rw [hv.length, List.length_map]
  refine ⟨l, .dK es, h2, trivial, fun od => ?_⟩
  have EL := E'.lock (od := od) h0 hG rfl hno
  refine el_dc0 (item := itemK kls) (n := kls.length) EL (fun R z => ?_) hn hd hs fun l2 as2 G2 H2 x hf c => ?_
  · refine ⟨_, h1, l, od, es, rfl, upd_same, z (Iti l od es) G' _ _ _ (.refl EL.gh) (hle ▸ walk_items) (fun G2 H2 e => e.hh _ _ upd_same) fun i G2 H2 y H3 hlt e hy => ?_⟩
    obtain ⟨T, x, w, rfl, hT, rfl, y1, y2⟩ := hy
    obtain ⟨k', v', b1, b2, b3⟩ := hv.at (z := (Sum.inl 0, PyData.list [])) (i := i) (by rw [List.length_map]; exact hlt)
    dsimp only at y1 y2
    rw [b1] at y1 y2
    cases y1
    cases y2
    have xx := Ext.new (o := .tup [kV k', v']) e.gh hT
    have hget : (kls.map fun p => (p.1, PyData.list p.2)).getD i (Sum.inl 0, PyData.list []) = ((kls.getD i (.inl 0, [])).1, PyData.list (kls.getD i (.inl 0, [])).2) := by
      rw [List.getD_eq_getElem?_getD, List.getD_eq_getElem?_getD, List.getElem?_map, List.getElem?_eq_getElem hlt]
      rfl
    rw [hget] at b2 b3
    refine ⟨_, xx, .tup (SqT.of upd_same) (.cons ?_ (.cons ((b3.mono (GH.of e.gg)).mono xx.g) .nil))⟩
    rw [b2]
    exact dq_kV _
  · have hfl : H2 l = some (.frz od (.dK es)) := x.hh _ _ upd_same
    obtain ⟨G3, x3, hd3⟩ := nec_frz x hf c
    refine ⟨hfl, fin.rt _ _ G3 _ q ⟨fun a o e => x3.gg a o (E'.ext.gg a o e), fun a o e => ?_, fun a o e => ?_, fun a o e t nn => ?_⟩ hd3⟩
    · have ne : a ≠ l := ne_of_none e h0
      rw [upd_ne ne]
      exact x3.hh a o (by rw [upd_ne ne]; exact E'.ext.hh a o e)
    · by_cases ha : a = l
      · subst ha
        rw [x3.gg _ _ hG] at e
        cases e
        exact .inl upd_same
      · rw [upd_ne ha]
        exact x3.gh a o e
    · have ne : a ≠ l := ne_of_none e h0
      exact x3.own a o (by rw [upd_ne ne]; exact E'.ext.hh a o e) t (E'.ext.own a o e t nn)
/-- x = xs.pop() -/
theorem st_pop {n i : Nat} {ds : List D} (hi : ρ[n]? = some (.ow (.list (ds ++ [d])))) (hni : n ≠ i) (q : P (.nx ((ρ.set n (.ow (.list ds))).set i (.fr d)))) : ST K Ex (tAsg (tBM0 K "list" rPop (tVar n)) (gName i)) ρ P := fun G0 H0 G H σ D E f => by
  obtain ⟨l, h1, h2, h3, h4⟩ := E.ow n _ hi
  cases h4 with
  | @lst us _ hl hr =>
    obtain ⟨vs, v, rfl, r1, r2⟩ : ∃ vs v, us = vs ++ [v] ∧ DqA K G vs ds ∧ Dq K G v d := hr.snoc_inv
    refine ⟨_, h1, .inl ⟨rfl, _, SqL.of hl⟩, l, _, v, rfl, rfl, hl, by simp, ?_⟩
    refine f.nx _ _ G _ q ?_
    have E1 := E.write hi h1 (o := .lst ((vs ++ [v]).dropLast)) (d' := .list ds) (.lst upd_same (by rw [List.dropLast_concat]; exact r1))
    exact E1.setF i r2
def notNe : Sl → Bool
  | .ne _ => false
  | _ => true
theorem hno_of {n : Nat} (h : (ρ.set n .no).all notNe = true) (j : Nat) (x : List (Key × List D)) (hj : j ≠ n) : ρ[j]? ≠ some (.ne x) := fun e => by
  have : (ρ.set n Sl.no)[j]? = some (.ne x) := by rw [List.getElem?_set_ne (Ne.symm hj)]; exact e
  have := List.all_eq_true.mp h _ (List.mem_of_getElem? this)
  cases this
/-- x = a new dict of lists -/
theorem q_asgL {n : Nat} {kls : List (Key × List D)} (h : EVL K te ρ kls) (hno : (ρ.set n .no).all notNe = true) (q : ST K Ex tu (ρ.set n (.ne kls)) P) : ST K Ex (tSeq (tAsg te (gName n)) tu) ρ P := st_seq (st_asgL h (hno_of hno) q)
end
end DL

set_option maxHeartbeats 1000000
/-! DL17: lists of texts and of pairs as data, picks by remainder. -/
namespace DL
open PySem PySem.Spec PyProof.Rows L2
def pI (ps : List Int) (i : Int) : Int := ps.getD i.toNat 0
def chS (z : Str) (i : Int) : Str := ⟨#[z.cps.toList.getD i.toNat 0]⟩
def addP (qs : List (Str × Str)) (p : Str × Str) : List (Str × Str) := if p ∈ qs then qs else qs ++ [p]
def sides4 : List Str := ["E", "N", "W", "S"]
theorem mod_nat {p m : Int} {k : Nat} (hm : m = (k : Nat)) (h : 0 < k) : (p % m).toNat < k := by
  subst hm
  have h0 : 0 ≤ p % (k : Int) := Int.emod_nonneg _ (by omega)
  have h1 : p % (k : Int) < k := Int.emod_lt_of_pos _ (by omega)
  omega
theorem chS_list (z : Str) (i : Int) : (chS z i).cps.toList = [z.cps.toList.getD i.toNat 0] := rfl
theorem eqv_str (a b : Str) : PyData.eqv (.str a) (.str b) = decide (a = b) := by
  by_cases h : a = b
  · subst h
    simp [PyData.eqv]
  · simp [PyData.eqv, h]
theorem any_range {α : Type} {p : α → Bool} {z : α} (l : List α) : ((List.range l.length).any fun i => p (l.getD i z)) = l.any p := by
  have : l = (List.range l.length).map fun i => l.getD i z := by
    refine List.ext_getElem? fun i => ?_
    rw [List.getElem?_map]
    by_cases h : i < l.length
    · rw [List.getElem?_range h]
      simp [h]
    · rw [List.getElem?_eq_none (by omega), List.getElem?_eq_none (by rw [List.length_range]; omega)]
      rfl
  conv => rhs; rw [this]
  rw [List.any_map]
  rfl
theorem hasG_put {κ : Type} [DecidableEq κ] (kvs : List (κ × D)) (k j : κ) (d : D) : hasG (putG kvs k d) j = (decide (k = j) || hasG kvs j) := by
  have key : ∀ l : List (κ × D), hasG l j = l.any fun p => decide (p.1 = j) := fun l => by
    unfold hasG getG
    rw [Option.isSome_map]
    refine Bool.eq_iff_iff.mpr ?_
    rw [List.find?_isSome, List.any_eq_true]
  rw [key, key]
  unfold putG
  split
  · rename_i h
    rw [List.any_map]
    have e : (kvs.any ((fun p : κ × D => decide (p.1 = j)) ∘ fun kv => if kv.1 = k then (kv.1, d) else kv)) = kvs.any fun p => decide (p.1 = j) := by
      congr 1
      funext p
      simp only [Function.comp]
      split <;> rfl
    rw [e]
    by_cases q : k = j
    · subst q
      rw [h]
      simp
    · simp [q]
  · rw [List.any_append, Bool.or_comm]
    simp
theorem map_cut {ns : List Int} (lo hi : Option Int) : ∃ ms : List Int, cutDs (ns.map PyData.int) lo hi = ms.map PyData.int ∧ ms.length ≤ ns.length := by
  refine ⟨(ns.drop (HT.sIx ns.length 0 lo)).take (HT.sIx ns.length ns.length hi - HT.sIx ns.length 0 lo), ?_, ?_⟩
  · unfold cutDs
    rw [List.length_map, List.map_take, List.map_drop]
  · rw [List.length_take, List.length_drop]
    omega
theorem lcD_all {b : Nat → Bool} {f : Nat → D} {g : Nat → Int} (hb : ∀ i, b i = true) : ∀ {n : Nat}, (∀ i, i < n → f i = .int (g i)) → lcD n b f = ((List.range n).map g).map PyData.int
  | 0, _ => rfl
  | n + 1, h => by
    unfold lcD
    rw [if_pos (hb n), lcD_all hb (fun i hi => h i (by omega)), List.range_succ, List.map_append, List.map_append, h n (by omega)]
    rfl
theorem getD_map_int {ms : List Int} {i : Nat} (hi : i < ms.length) : (ms.map PyData.int).getD i .none = .int (ms.getD i 0) := by
  rw [List.getD_eq_getElem?_getD, List.getD_eq_getElem?_getD, List.getElem?_map]
  simp [hi]
theorem map_set {ms : List Int} {j : Nat} {v : Int} : (ms.map PyData.int).set j (.int v) = (ms.set j v).map PyData.int := (List.map_set ..).symm
theorem map_add {ms : List Int} {v : Int} : ms.map PyData.int ++ [PyData.int v] = (ms ++ [v]).map PyData.int := by rw [List.map_append]; rfl
theorem pI_get {ps : List Int} {i : Int} (h0 : 0 ≤ i) (h1 : i < ps.length) : atI (ps.map PyData.int) i = some (.int (pI ps i)) := atI_ints h0 h1
theorem ch_at {z : Str} {i : Int} (h0 : 0 ≤ i) (h1 : i < z.cps.toList.length) : atI z.cps.toList i = some (z.cps.toList.getD i.toNat 0) := atI_nn (α := Nat) 0 h0 h1
theorem ite_str {c : Bool} {a b : Str} : (if c = true then (PyData.str a) else .str b) = .str (if c = true then a else b) := by cases c <;> rfl
theorem lc_filter {p : Str → Bool} (rs : List Str) : ∀ n, n ≤ rs.length → lcD n (fun i => p (rs.getD i Str.empty)) (fun i => (rs.map PyData.str).getD i .none) = ((rs.take n).filter p).map PyData.str
  | 0, _ => rfl
  | n + 1, h => by
    unfold lcD
    rw [lc_filter rs n (by omega), List.take_succ, List.getElem?_eq_getElem (by omega), List.filter_append, List.map_append]
    have e1 : rs.getD n Str.empty = rs[n] := by rw [List.getD_eq_getElem?_getD, List.getElem?_eq_getElem (by omega)]; rfl
    have e2 : (rs.map PyData.str).getD n .none = .str rs[n] := by
      rw [List.getD_eq_getElem?_getD, List.getElem?_map, List.getElem?_eq_getElem (by omega)]
      rfl
    show (if p (rs.getD n Str.empty) = true then _ ++ [(rs.map PyData.str).getD n .none] else _) = _
    rw [e1, e2]
    show _ = _ ++ (([rs[n]] : List Str).filter p).map PyData.str
    cases q : p rs[n] with
    | true =>
      rw [if_pos rfl, List.filter_cons_of_pos q]
      rfl
    | false =>
      rw [if_neg Bool.false_ne_true, List.filter_cons_of_neg (by rw [q]; exact Bool.false_ne_true)]
      show _ = _ ++ []
      rw [List.append_nil]
theorem keyQ_inj {p q : Str × Str} (h : keyQ p = keyQ q) : p = q := by
  unfold keyQ at h
  injection h with h1 h2
  injection h2 with h2
  injection h1 with h1
  injection h2 with h2
  exact Prod.ext h1 h2
theorem putQ (qs : List (Str × Str)) (p : Str × Str) : putG (qs.map fun p => (keyQ p, PyData.bool true)) (keyQ p) (.bool true) = (addP qs p).map fun p => (keyQ p, PyData.bool true) := by
  have hany : ((qs.map fun p => (keyQ p, PyData.bool true)).any fun kv => decide (kv.1 = keyQ p)) = decide (p ∈ qs) := by
    rw [List.any_map, Bool.eq_iff_iff, List.any_eq_true, decide_eq_true_eq]
    constructor
    · rintro ⟨q, hq, e⟩
      rw [← keyQ_inj (of_decide_eq_true e)]
      exact hq
    · intro h
      exact ⟨p, h, decide_eq_true rfl⟩
  unfold putG addP
  rw [hany]
  by_cases h : p ∈ qs
  · rw [if_pos (decide_eq_true h), if_pos h, List.map_map]
    refine List.map_congr_left fun q _ => ?_
    simp only [Function.comp]
    split <;> rfl
  · rw [if_neg (by simpa using h), if_neg h, List.map_append]
    rfl
theorem addP_len (qs : List (Str × Str)) (p : Str × Str) : (addP qs p).length ≤ qs.length + 1 := by
  unfold addP
  split
  · omega
  · rw [List.length_append]
    exact Nat.le_refl _
theorem inD_str {z : Str} {ns : List Str} : inD (.str z) (ns.map PyData.str) = decide (z ∈ ns) := by
  unfold inD
  rw [List.any_map, Bool.eq_iff_iff, List.any_eq_true, decide_eq_true_eq]
  constructor
  · rintro ⟨x, hx, e⟩
    have e : PyData.eqv (.str x) (.str z) = true := e
    rw [eqv_str, decide_eq_true_eq] at e
    rw [← e]
    exact hx
  · intro h
    refine ⟨z, h, ?_⟩
    show PyData.eqv (.str z) (.str z) = true
    rw [eqv_str]
    exact decide_eq_true rfl
theorem sorted_lt {α : Type} {lt : α → α → Bool} (O : Sto lt) {l : List α} (hp : l.Pairwise fun x y => lt y x = false) (nd : l.Nodup) : l.Pairwise fun x y => lt x y = true := by
  have := hp.and nd
  refine this.imp fun {x y} h => ?_
  cases q : lt x y with
  | true => rfl
  | false => exact absurd (O.eq q h.1) h.2
theorem pw_at {α : Type} {R : α → α → Prop} {l : List α} (h : l.Pairwise R) {i : Nat} (h0 : 0 < i) (h1 : i < l.length) (z : α) : R (l.getD (i - 1) z) (l.getD i z) := by
  have := List.pairwise_iff_getElem.mp h (i - 1) i (by omega) h1 (by omega)
  rw [List.getD_eq_getElem?_getD, List.getD_eq_getElem?_getD, List.getElem?_eq_getElem h1, List.getElem?_eq_getElem (by omega : i - 1 < l.length)]
  exact this
theorem getD_str {zs : List Str} {i : Nat} (hi : i < zs.length) : (zs.map PyData.str).getD i .none = .str (zs.getD i Str.empty) := by
  rw [List.getD_eq_getElem?_getD, List.getD_eq_getElem?_getD, List.getElem?_map, List.getElem?_eq_getElem hi]
  rfl
theorem getD_mem {α : Type} {zs : List α} {i : Nat} {z : α} (hi : i < zs.length) : zs.getD i z ∈ zs := by
  rw [List.getD_eq_getElem?_getD, List.getElem?_eq_getElem hi]
  exact List.getElem_mem hi
theorem getD_map {qs : List (Str × Str)} {i : Nat} (hi : i < qs.length) : (qs.map pqD).getD i .none = pqD (qs.getD i (Str.empty, Str.empty)) := by
  rw [List.getD_eq_getElem?_getD, List.getD_eq_getElem?_getD, List.getElem?_map, List.getElem?_eq_getElem hi]
  rfl
theorem app_list (a b : Str) : (a ++ b).cps.toList = a.cps.toList ++ b.cps.toList := by
  show (a.cps ++ b.cps).toList = _
  rw [Array.toList_append]
theorem strs_flat (zs : List Str) : (zs.map PyData.str).all flatD = true := by
  rw [List.all_map]
  exact List.all_eq_true.mpr fun _ _ => rfl
theorem getD_all {α : Type} {p : α → Bool} {ds : List α} {z : α} (h : ds.all p = true) {i : Nat} (hi : i < ds.length) : p (ds.getD i z) = true := by
  rw [List.getD_eq_getElem?_getD, List.getElem?_eq_getElem hi]
  exact List.all_eq_true.mp h _ (List.getElem_mem hi)
theorem all_of {p : D → Bool} {ds : List D} (h : ∀ i, i < ds.length → p (ds.getD i .none) = true) : ds.all p = true := by
  refine List.all_eq_true.mpr fun x hx => ?_
  obtain ⟨i, hi, e⟩ := List.getElem_of_mem hx
  have := h i hi
  rw [List.getD_eq_getElem?_getD, List.getElem?_eq_getElem hi] at this
  rw [← e]
  exact this
/-! ### dicts of lists of texts -/
def mkL (keys : List Str) (f : Str → List Str) : List (Key × List D) := keys.map fun k => (.inr k, (f k).map PyData.str)
section
variable {keys : List Str} {f g : Str → List Str} {a v : Str}
theorem getL_mk : ∀ {keys : List Str}, a ∈ keys → getL (mkL keys f) (.inr a) = some ((f a).map PyData.str)
  | k :: ks, h => by
    show (if (Sum.inr k : Key) = .inr a then _ else _) = _
    by_cases e : k = a
    · subst e
      rw [if_pos rfl]
    · rw [if_neg fun z => e (Sum.inr.inj z)]
      exact getL_mk ((List.mem_cons.mp h).resolve_left (Ne.symm e))
theorem getL_mk_none : ∀ {keys : List Str}, a ∉ keys → getL (mkL keys f) (.inr a) = none
  | [], _ => rfl
  | k :: ks, h => by
    show (if (Sum.inr k : Key) = .inr a then _ else _) = _
    rw [if_neg fun z => h (by rw [Sum.inr.inj z]; exact List.mem_cons_self ..)]
    exact getL_mk_none fun z => h (List.mem_cons_of_mem _ z)
theorem mkL_congr (h : ∀ k ∈ keys, f k = g k) : mkL keys f = mkL keys g := List.map_congr_left fun k hk => by rw [h k hk]
theorem appL_mk : ∀ {keys : List Str}, keys.Nodup → appL (mkL keys f) (.inr a) (.str v) = mkL keys fun k => if k = a then f k ++ [v] else f k
  | [], _ => rfl
  | k :: ks, nd => by
    obtain ⟨n1, n2⟩ := List.nodup_cons.mp nd
    show (if (Sum.inr k : Key) = .inr a then (Sum.inr k, (f k).map PyData.str ++ [PyData.str v]) :: mkL ks f else (Sum.inr k, (f k).map PyData.str) :: appL (mkL ks f) (.inr a) (.str v)) = (Sum.inr k, (if k = a then f k ++ [v] else f k).map PyData.str) :: mkL ks _
    by_cases e : k = a
    · subst e
      rw [if_pos rfl, if_pos rfl, List.map_append]
      refine congrArg _ (mkL_congr fun j hj => ?_)
      rw [if_neg fun z => n1 (by rw [← z]; exact hj)]
    · rw [if_neg fun z => e (Sum.inr.inj z), if_neg e, appL_mk n2]
theorem getG_mk : ∀ {keys : List Str}, a ∈ keys → getG ((mkL keys f).map fun p => (p.1, PyData.list p.2)) (.inr a) = some (.list ((f a).map PyData.str))
  | k :: ks, h => by
    by_cases e : k = a
    · subst e
      unfold getG mkL
      simp
    · have ih := getG_mk ((List.mem_cons.mp h).resolve_left (Ne.symm e))
      unfold getG mkL at ih ⊢
      rw [List.map_cons, List.map_cons, List.find?_cons_of_neg (by simpa using e)]
      exact ih
theorem mkL_len : (mkL keys f).length = keys.length := List.length_map ..
theorem mkL_snoc {l : List Str} (h : f a = l) : mkL keys f ++ [(.inr a, l.map PyData.str)] = mkL (keys ++ [a]) f := by
  unfold mkL
  rw [List.map_append, ← h]
  rfl
theorem klD_mk {kf : Nat → Key} {ff : Nat → List D} (hk : ∀ i, i < keys.length → kf i = .inr (keys.getD i Str.empty)) (hf : ∀ i, i < keys.length → ff i = (g (keys.getD i Str.empty)).map PyData.str) : klD kf ff keys.length = mkL keys g := by
  unfold klD mkL
  refine List.ext_getElem (by simp) fun i h1 h2 => ?_
  have hi : i < keys.length := by simpa using h2
  rw [List.getElem_map, List.getElem_range, List.getElem_map, hk i hi, hf i hi, List.getD_eq_getElem?_getD, List.getElem?_eq_getElem hi]
  rfl
theorem klD_new {kf : Nat → Key} {ff : Nat → List D} (nd : keys.Nodup) (hk : ∀ i, i < keys.length → kf i = .inr (keys.getD i Str.empty)) {i : Nat} (hi : i < keys.length) : getL (klD kf ff i) (kf i) = none := by
  have key : ∀ n, n ≤ i → getL (klD kf ff n) (kf i) = none := by
    intro n
    have hgen : ∀ (l : List (Key × List D)) (k : Key), (∀ p ∈ l, p.1 ≠ k) → getL l k = none := by
      intro l k h
      induction l with
      | nil => rfl
      | cons p r ih =>
        obtain ⟨k', ds⟩ := p
        show (if k' = k then _ else _) = _
        rw [if_neg (h (k', ds) (List.mem_cons_self ..))]
        exact ih fun p hp => h p (List.mem_cons_of_mem _ hp)
    intro hn
    refine hgen _ _ fun p hp e => ?_
    unfold klD at hp
    obtain ⟨j, hj, rfl⟩ := List.mem_map.mp hp
    have hj : j < n := List.mem_range.mp hj
    have e : kf j = kf i := e
    rw [hk j (by omega), hk i hi] at e
    have e := Sum.inr.inj e
    rw [List.getD_eq_getElem?_getD, List.getD_eq_getElem?_getD, List.getElem?_eq_getElem hi, List.getElem?_eq_getElem (by omega : j < keys.length)] at e
    exact List.pairwise_iff_getElem.mp nd j i (by omega) hi (by omega) e
  exact key i (Nat.le_refl _)
end
section
variable {K : PySem.W.Frag} {ρ : List Sl} {Ex : XK} {ta tb te : TE} {tt : TT} {u : TS} {P : Oc → Prop} {keys : List Str} {f : Str → List Str} {a v : Str}
theorem ev_nget (h : EV K ta ρ (neD (mkL keys f))) (hk : EV K tb ρ (.str a)) (ha : a ∈ keys) : EV K (tDGet ta tb) ρ (.list ((f a).map PyData.str)) := ev_getD (k := .inr a) h hk rfl (getG_mk ha)
theorem st_napp {n : Nat} (hi : ρ[n]? = some (.ne (mkL keys f))) (hk : EV K tb ρ (.str a)) (ha : a ∈ keys) (nd : keys.Nodup) (h : EV K te ρ (.str v)) (hz : (f a).length < 16000000) (q : P (.nx (ρ.set n (.ne (mkL keys fun k => if k = a then f k ++ [v] else f k))))) :
    ST K Ex (tDrop (tBM K "list" rAppend (tDGet (tVar n) tb) (tCons te tNil))) ρ P := st_nappend (k := .inr a) hi hk rfl (getL_mk ha) h (by rw [List.length_map]; exact hz) (by rw [appL_mk nd]; exact q)
theorem q_napp {n : Nat} (hi : ρ[n]? = some (.ne (mkL keys f))) (hk : EV K tb ρ (.str a)) (ha : a ∈ keys) (nd : keys.Nodup) (h : EV K te ρ (.str v)) (hz : (f a).length < 16000000) (q : ST K Ex u (ρ.set n (.ne (mkL keys fun k => if k = a then f k ++ [v] else f k))) P) :
    ST K Ex (tSeq (tDrop (tBM K "list" rAppend (tDGet (tVar n) tb) (tCons te tNil))) u) ρ P := st_seq (st_napp hi hk ha nd h hz q)
/-- a dict that says True of each of its texts -/
def bS (ys : List Str) : List (Key × D) := ys.map fun y => (.inr y, .bool true)
theorem has_bS {ys : List Str} {y : Str} : hasG (bS ys) (.inr y) = decide (y ∈ ys) := by
  unfold hasG getG bS
  rw [Option.isSome_map, Bool.eq_iff_iff, List.find?_isSome, decide_eq_true_eq]
  constructor
  · rintro ⟨x, hx, e⟩
    obtain ⟨z, hz, rfl⟩ := List.mem_map.mp hx
    rw [← Sum.inr.inj (of_decide_eq_true e)]
    exact hz
  · exact fun h => ⟨_, List.mem_map.mpr ⟨y, h, rfl⟩, decide_eq_true rfl⟩
theorem put_bS {ys : List Str} {y : Str} (h : y ∉ ys) : putG (bS ys) (.inr y) (.bool true) = bS (ys ++ [y]) := by
  have : hasG (bS ys) (.inr y) = false := by rw [has_bS]; exact decide_eq_false h
  unfold putG
  rw [if_neg]
  · unfold bS
    rw [List.map_append]
    rfl
  · rw [List.any_eq_true]
    rintro ⟨x, hx, e⟩
    unfold bS at hx
    obtain ⟨z, hz, rfl⟩ := List.mem_map.mp hx
    exact h (by rw [← Sum.inr.inj (of_decide_eq_true e)]; exact hz)
theorem q_pop {n i : Nat} {ds : List D} {d : D} (hi : ρ[n]? = some (.ow (.list (ds ++ [d])))) (hni : n ≠ i) (q : ST K Ex u ((ρ.set n (.ow (.list ds))).set i (.fr d)) P) : ST K Ex (tSeq (tAsg (tBM0 K "list" rPop (tVar n)) (gName i)) u) ρ P := st_seq (st_pop hi hni q)
theorem st_asgIf {b : Bool} {g : TG} (h : ET K tt ρ b) (h1 : b = true → ST K Ex (tAsg ta g) ρ P) (h2 : b = false → ST K Ex (tAsg tb g) ρ P) : ST K Ex (tAsg (tIf tt ta tb) g) ρ P := fun G0 H0 G H σ D E f =>
  h G0 H0 G H σ _ E fun G' H' x => by
    cases b with
    | true => exact h1 rfl G0 H0 G' H' σ D (E.go x) f
    | false => exact h2 rfl G0 H0 G' H' σ D (E.go x) f
end
/-! ### walking lists of texts, of pairs -/
section
variable {K : PySem.W.Frag} {ρ : List Sl} {te : TE}
theorem ei_tupS {zs : List Str} (h : EV K te ρ (.tuple (zs.map PyData.str))) : EI K (iSeqU K te) ρ zs.length (fun i => .str (zs.getD i Str.empty)) := by
  have e := ei_tup h
  rw [List.length_map] at e
  exact ei_mono e fun i hi => getD_str hi
theorem ei_listS {zs : List Str} (h : EV K te ρ (.list (zs.map PyData.str))) : EI K (iSeqU K te) ρ zs.length (fun i => .str (zs.getD i Str.empty)) := by
  have e := ei_list h
  rw [List.length_map] at e
  exact ei_mono e fun i hi => getD_str hi
theorem ei_tupQ {qs : List (Str × Str)} (h : EV K te ρ (.tuple (qs.map pqD))) : EI K (iSeqU K te) ρ qs.length (fun i => pqD (qs.getD i (Str.empty, Str.empty))) := by
  have e := ei_tup h
  rw [List.length_map] at e
  exact ei_mono e fun i hi => getD_map hi
theorem ei_listQ {qs : List (Str × Str)} (h : EV K te ρ (.list (qs.map pqD))) : EI K (iSeqU K te) ρ qs.length (fun i => pqD (qs.getD i (Str.empty, Str.empty))) := by
  have e := ei_list h
  rw [List.length_map] at e
  exact ei_mono e fun i hi => getD_map hi
theorem itemK_mk {keys : List Str} {f : Str → List Str} {i : Nat} (hi : i < keys.length) : itemK (mkL keys f) i = .tuple [.str (keys.getD i Str.empty), .list ((f (keys.getD i Str.empty)).map PyData.str)] := by
  unfold itemK mkL
  rw [List.getD_eq_getElem?_getD, List.getElem?_map, List.getElem?_eq_getElem hi, List.getD_eq_getElem?_getD, List.getElem?_eq_getElem hi]
  rfl
end
/-! ### plain lists -/
theorem nodup_le {α : Type} [DecidableEq α] : ∀ {l m : List α}, l.Nodup → (∀ x ∈ l, x ∈ m) → l.length ≤ m.length
  | [], _, _, _ => Nat.zero_le _
  | a :: l, m, nd, h => by
    obtain ⟨n1, n2⟩ := List.nodup_cons.mp nd
    have ha := h a (List.mem_cons_self ..)
    have := nodup_le (l := l) (m := m.erase a) n2 fun x hx => (List.mem_erase_of_ne fun e => n1 (by rw [← e]; exact hx)).mpr (h x (List.mem_cons_of_mem _ hx))
    rw [List.length_erase_of_mem ha] at this
    have h1 : 0 < m.length := List.length_pos_of_mem ha
    rw [List.length_cons]
    omega
theorem srt_congr {α : Type} {lt : α → α → Bool} (O : Sto lt) {l m : List α} (h : l.Perm m) : srt lt l = srt lt m := srt_uniq O ((srt_perm l).trans h) (srt_pw O l)
theorem mem_srt {α : Type} {lt : α → α → Bool} {l : List α} {x : α} : x ∈ srt lt l ↔ x ∈ l := (srt_perm l).mem_iff
theorem lc_filterG {α : Type} {p : α → Bool} {h : α → D} (z : α) (rs : List α) : ∀ n, n ≤ rs.length → lcD n (fun i => p (rs.getD i z)) (fun i => h (rs.getD i z)) = ((rs.take n).filter p).map h
  | 0, _ => rfl
  | n + 1, hn => by
    unfold lcD
    rw [lc_filterG z rs n (by omega), List.take_succ, List.getElem?_eq_getElem (by omega), List.filter_append, List.map_append]
    have e1 : rs.getD n z = rs[n] := by rw [List.getD_eq_getElem?_getD, List.getElem?_eq_getElem (by omega)]; rfl
    show (if p (rs.getD n z) = true then _ ++ [h (rs.getD n z)] else _) = _
    rw [e1]
    show _ = _ ++ (([rs[n]] : List α).filter p).map h
    cases q : p rs[n] with
    | true =>
      rw [if_pos rfl, List.filter_cons_of_pos q]
      rfl
    | false =>
      rw [if_neg Bool.false_ne_true, List.filter_cons_of_neg (by rw [q]; exact Bool.false_ne_true)]
      show _ = _ ++ []
      rw [List.append_nil]
theorem lc_filterA {α : Type} {p : α → Bool} {h : α → D} (z : α) (rs : List α) : lcD rs.length (fun i => p (rs.getD i z)) (fun i => h (rs.getD i z)) = (rs.filter p).map h := by
  rw [lc_filterG z rs _ (Nat.le_refl _), List.take_length]
theorem srt_filter {α : Type} {lt : α → α → Bool} (O : Sto lt) (p : α → Bool) (l : List α) : (srt lt l).filter p = srt lt (l.filter p) := srt_uniq O ((srt_perm l).filter p) ((srt_pw O l).filter p)
end DL

set_option maxHeartbeats 1000000
/-! DL18: in, not in of an owned dict. -/
namespace DL
open PySem PySem.Spec PyProof.Rows L2
section
variable {K : PySem.W.Frag} {ρ : List Sl} {ta tb te : TE} {d : D}
theorem has_val {G : Hp} {es : List (Key × V)} {kvs : List (Key × D)} (r : DqV K G es kvs) (k : Key) : (valV es k).isSome = hasG kvs k := by
  unfold hasG
  rcases r.get (k := k) with ⟨h1, h2⟩ | ⟨v, d, h1, h2, h3⟩
  · rw [h1, h2]
    rfl
  · rw [h1, h2]
    rfl
theorem ev_inDO {n : Nat} {kvs : List (Key × D)} {k : Key} {dk : D} (hk : EV K ta ρ dk) (ek : dk = kD k) (hi : ρ[n]? = some (.ow (dkD kvs))) : EV K (tDIn ta (tVar n)) ρ (.bool (hasG kvs k)) := fun G0 H0 G H σ Q E q =>
  hk G0 H0 G H σ _ E fun y G1 H1 e1 hy => by
    subst ek
    obtain ⟨l, h1, h2, h3, h4⟩ := (E.go e1).ow n _ hi
    obtain ⟨es, h5, h6⟩ := own_dk h4
    have e := key_dq hy
    subst e
    exact ⟨_, h1, l, _, rfl, DGet.k h5, q _ G1 H1 e1 (by rw [has_val h6]; exact .bl _)⟩
theorem ev_ninDO {n : Nat} {kvs : List (Key × D)} {k : Key} {dk : D} (hk : EV K ta ρ dk) (ek : dk = kD k) (hi : ρ[n]? = some (.ow (dkD kvs))) : EV K (tDNotIn ta (tVar n)) ρ (.bool (!hasG kvs k)) := fun G0 H0 G H σ Q E q =>
  hk G0 H0 G H σ _ E fun y G1 H1 e1 hy => by
    subst ek
    obtain ⟨l, h1, h2, h3, h4⟩ := (E.go e1).ow n _ hi
    obtain ⟨es, h5, h6⟩ := own_dk h4
    have e := key_dq hy
    subst e
    exact ⟨_, h1, l, _, rfl, DGet.k h5, q _ G1 H1 e1 (by rw [has_val h6]; exact .bl _)⟩
theorem ev_inSO {n : Nat} {ys : List Str} {x : Str} (hk : EV K ta ρ (.str x)) (hi : ρ[n]? = some (.ow (dkD (bS ys)))) : EV K (tDIn ta (tVar n)) ρ (.bool (decide (x ∈ ys))) := by
  rw [← has_bS]
  exact ev_inDO hk rfl hi
theorem ev_ninSO {n : Nat} {ys : List Str} {x : Str} (hk : EV K ta ρ (.str x)) (hi : ρ[n]? = some (.ow (dkD (bS ys)))) : EV K (tDNotIn ta (tVar n)) ρ (.bool (!decide (x ∈ ys))) := by
  rw [← has_bS]
  exact ev_ninDO hk rfl hi
theorem ev_inSF {ys : List Str} {x : Str} (hk : EV K ta ρ (.str x)) (h : EV K tb ρ (dkD (bS ys))) : EV K (tDIn ta tb) ρ (.bool (decide (x ∈ ys))) := by
  rw [← has_bS]
  exact ev_inD hk rfl h
end
end DL

namespace K03
open PySem L2 DL
abbrev sL : Str := "abcdefghijklmnopqrstuvwxyz"
abbrev sF : Str := "0123456789"
def schD (rs : List Str) (ps : List (Str × Str)) : D := .tuple [.tuple (rs.map PyData.str), .tuple (ps.map pqD)]
/-- whom k touches by these pairs, in their order -/
def occ (ps : List (Str × Str)) (k : Str) : List Str := ps.flatMap fun p => (if p.1 = k then [p.2] else []) ++ (if p.2 = k then [p.1] else [])
def corners : List (Str × Str) := [("E", "N"), ("N", "W"), ("S", "W"), ("E", "S")]
def nb (ps : List (Str × Str)) (k : Str) : List Str := occ (ps ++ corners) k
/-- a scheme as the law makes them -/
structure WS (rs : List Str) (ps : List (Str × Str)) : Prop where
  many : rs.length ≤ 40
  small : ∀ z ∈ rs, z.length ≤ 8
  up : rs.Pairwise fun a b => ltS a b = true
  rooms : ∀ z ∈ rs, z ∉ sides4
  nd : ps.Nodup
  lt : ∀ p ∈ ps, ltS p.1 p.2 = true
  one : ∀ p ∈ ps, p.1 ∈ rs ++ sides4 ∧ p.2 ∈ rs ++ sides4 ∧ (p.1 ∈ rs ∨ p.2 ∈ rs)
  few : ps.length ≤ 100
def tabD (rs : List Str) (ps : List (Str × Str)) : D := neD (mkL (rs ++ sides4) fun k => srt ltS (nb ps k))
def ensw : List Str := ["E", "N", "S", "W"]
def nearD (rs : List Str) (ps : List (Str × Str)) : D := neD (mkL (ensw ++ rs) (nb ps))
/-- rooms and sides that a side leads to -/
inductive Reach (ps : List (Str × Str)) : Str → Prop
  | side {z : Str} : z ∈ sides4 → Reach ps z
  | step {a b : Str} : Reach ps a → b ∈ nb ps a → Reach ps b
open Classical in
noncomputable def hang (rs : List Str) (ps : List (Str × Str)) : List Str := rs.filter fun z => decide (Reach ps z)
def dirN (z : Str) : Int := if z = "E" then 0 else if z = "N" then 1 else if z = "W" then 2 else 3
def dirS (i : Int) : Str := chS "ENWS" (i % 4)
def sp_direction_number (K : PySem.W.Frag) : Sp := PF K fun ds d => ∃ z : Str, ds = [.str z] ∧ z ∈ sides4 ∧ d = .int (dirN z)
def sp_direction_by (K : PySem.W.Frag) : Sp := PF K fun ds d => ∃ i : Int, ds = [.int i] ∧ d = .str (dirS i)
def sp_beside_side (K : PySem.W.Frag) : Sp := PF K fun ds d => ∃ z : Str, ds = [.str z] ∧ z ∈ sides4 ∧ d = .tuple [.str (dirS (dirN z - 1)), .str (dirS (dirN z + 1))]
def sp_is_side (K : PySem.W.Frag) : Sp := PF K fun ds d => ∃ z : Str, ds = [.str z] ∧ d = .bool (decide (z ∈ sides4))
def sp_touch_table (K : PySem.W.Frag) : Sp := PF K fun ds d => ∃ rs ps, ds = [schD rs ps] ∧ WS rs ps ∧ d = tabD rs ps
def sp_neighbours_of (K : PySem.W.Frag) : Sp := PF K fun ds d => ∃ rs ps a, ds = [schD rs ps, .str a] ∧ WS rs ps ∧ a ∈ rs ++ sides4 ∧ d = .tuple ((srt ltS (nb ps a)).map PyData.str)
def sp_are_neighbours (K : PySem.W.Frag) : Sp := PF K fun ds d => ∃ rs ps a b, ds = [schD rs ps, .str a, .str b] ∧ WS rs ps ∧ a ∈ rs ++ sides4 ∧ d = .bool (decide (b ∈ nb ps a))
def sp_room_pairs (K : PySem.W.Frag) : Sp := PF K fun ds d => ∃ rs ps, ds = [schD rs ps] ∧ WS rs ps ∧ d = .tuple ((ps.filter fun p => !decide (p.1 ∈ sides4)).map pqD)
def common (ps : List (Str × Str)) (a b : Str) : List Str := srt ltS ((nb ps a).filter fun z => decide (z ∈ nb ps b))
def sp_common_neighbours (K : PySem.W.Frag) : Sp := PF K fun ds d => ∃ rs ps a b, ds = [schD rs ps, .str a, .str b] ∧ WS rs ps ∧ a ∈ rs ++ sides4 ∧ b ∈ rs ++ sides4 ∧ d = .tuple ((common ps a b).map PyData.str)
def sp_hanging_rooms (K : PySem.W.Frag) : Sp := PF K fun ds d => ∃ rs ps, ds = [schD rs ps] ∧ WS rs ps ∧ d = .tuple ((hang rs ps).map PyData.str)
/-! the law's own defs -/
def sp_u_law_pool (K : PySem.W.Frag) : Sp := PQ K (fun ds => ∃ (ns : List Int) (m : Int), ds = [.dict [(.none, .list (ns.map PyData.int))], .int m] ∧ ns.length ≤ 63 ∧ 0 ≤ m ∧ m ≤ 100000)
  (fun ds d => ∃ (m : Int) (c : D) (ps : List Int), ds = [c, .int m] ∧ d = .list (ps.map PyData.int) ∧ (ps.length : Int) = m)
def tailS (z : Str) (p : Int) : Nat → Str
  | 0 => z
  | n + 1 => tailS z p n ++ chS "0rbz9eno" ((p / 20 + 3 * (n : Nat)) % 8)
def nameAt (ps : List Int) (b : Int) (k : Nat) (ns : List Str) : Str :=
  let p := pI ps (b + (k : Nat))
  let z := chS "abcdefghijklmnoprstuvwxyz" (p % 25)
  let q := p / 25
  let z := if (decide (q % 5 = 0) && decide ((k : Int) > 0)) = true then ns.getD (k - 1) Str.empty else z
  let z := tailS z q (q / 5 % 4).toNat
  if (decide ((z.length : Int) > 8) || inD (.str z) (ns.map PyData.str)) = true then "q" ++ strI (1000 + (k : Nat)) else z
def namesK (ps : List Int) (b : Int) : Nat → List Str
  | 0 => []
  | n + 1 => namesK ps b n ++ [nameAt ps b n (namesK ps b n)]
def sp_u_law_names (K : PySem.W.Frag) : Sp := PF K fun ds d => ∃ (ps : List Int) (b m : Int), ds = [.list (ps.map PyData.int), .int b, .int m] ∧ 0 ≤ b ∧ 0 ≤ m ∧ m ≤ 41 ∧ b + m ≤ ps.length ∧ d = .list ((namesK ps b m.toNat).map PyData.str)
def stepP (qs : List (Str × Str)) (t : Str × Str) : List (Str × Str) := if t.1 = t.2 then qs else addP qs (if ltS t.1 t.2 = true then t else (t.2, t.1))
def pairsOf (ts : List (Str × Str)) : List (Str × Str) := ts.foldl stepP []
def sp_u_law_scheme (K : PySem.W.Frag) : Sp := PF K fun ds d => ∃ (rs : List Str) (ts : List (Str × Str)), ds = [.list (rs.map PyData.str), .list (ts.map pqD)] ∧ rs.length ≤ 40 ∧ ts.length ≤ 100 ∧ d = schD (srt ltS rs) (srt ltQ (pairsOf ts))
def sp_u_law_small (K : PySem.W.Frag) : Sp := PQ K (fun ds => ∃ ps : List Int, ds = [.list (ps.map PyData.int)] ∧ ps.length = 200) (fun _ d => ∃ rs qs, d = schD rs qs ∧ WS rs qs ∧ 1 ≤ rs.length)
def sp_u_law_wide (K : PySem.W.Frag) : Sp := PQ K (fun ds => ∃ ps : List Int, ds = [.list (ps.map PyData.int)] ∧ ps.length = 200) (fun _ d => ∃ rs qs, d = schD rs qs ∧ WS rs qs ∧ rs.length = 40)
def sp_u_law_near (K : PySem.W.Frag) : Sp := PF K fun ds d => ∃ rs ps, ds = [schD rs ps] ∧ WS rs ps ∧ d = nearD rs ps
def sp_u_law_hangs (K : PySem.W.Frag) : Sp := PF K fun ds d => ∃ rs ps, ds = [nearD rs ps, .tuple (rs.map PyData.str)] ∧ WS rs ps ∧ d = .tuple ((hang rs ps).map PyData.str)
/-- texts, or pairs of texts, in a tuple -/
def sameD : D → Bool
  | .tuple ds => decide (ds.length ≤ 1000) && ds.all fun x => match x with
    | .str z => decide (z.length ≤ 1000)
    | .tuple [.str a, .str b] => decide (a.length ≤ 1000) && decide (b.length ≤ 1000)
    | _ => false
  | _ => false
def sp_u_law_same (K : PySem.W.Frag) : Sp := PF K fun ds d => ∃ x, ds = [x, x] ∧ sameD x = true ∧ d = .bool true
def sp_u_law_right (K : PySem.W.Frag) : Sp := PF K fun ds d => ∃ rs ps a b, ds = [schD rs ps, nearD rs ps, .str a, .str b] ∧ WS rs ps ∧ a ∈ rs ++ sides4 ∧ b ∈ rs ++ sides4 ∧ d = .bool true
def sp_law (K : PySem.W.Frag) : Sp := PF K fun ds d => ∃ ns : List Int, ds = [.dict [(.none, .list (ns.map PyData.int))]] ∧ ns.length ≤ 63 ∧ d = .bool true
end K03

set_option maxHeartbeats 4000000
namespace K03
open PySem PySem.Spec PyProof.Rows L2 DL
/-! printed by gen.py: the text by places, the names, the readings -/
def top (i : Nat) : Stmt := PySem.Challenge.pw_wallsaswished_k03_neighbours_of_schemes.main.body.getD i (.Pass ⟨0, 0, 0, 0⟩)
abbrev s_direction_number : Stmt := top 2
abbrev N_direction_number : List Str := ["direction"]
theorem sc_direction_number : FnScope N_direction_number ["direction"] (defScope s_direction_number) := ⟨rfl, rfl, rfl, by decide +kernel, rfl, by decide +kernel, by decide +kernel⟩
abbrev s_direction_by : Stmt := top 3
abbrev N_direction_by : List Str := ["number"]
theorem sc_direction_by : FnScope N_direction_by ["number"] (defScope s_direction_by) := ⟨rfl, rfl, rfl, by decide +kernel, rfl, by decide +kernel, by decide +kernel⟩
abbrev s_beside_side : Stmt := top 4
abbrev N_beside_side : List Str := ["side", "number"]
theorem sc_beside_side : FnScope N_beside_side ["side"] (defScope s_beside_side) := ⟨rfl, rfl, rfl, by decide +kernel, rfl, by decide +kernel, by decide +kernel⟩
abbrev s_is_side : Stmt := top 7
abbrev N_is_side : List Str := ["thing"]
theorem sc_is_side : FnScope N_is_side ["thing"] (defScope s_is_side) := ⟨rfl, rfl, rfl, by decide +kernel, rfl, by decide +kernel, by decide +kernel⟩
abbrev s_touch_table : Stmt := top 9
abbrev N_touch_table : List Str := ["scheme", "rooms", "pairs", "table", "name", "side", "one", "other", "found"]
theorem sc_touch_table : FnScope N_touch_table ["scheme"] (defScope s_touch_table) := ⟨rfl, rfl, rfl, by decide +kernel, rfl, by decide +kernel, by decide +kernel⟩
abbrev s_neighbours_of : Stmt := top 10
abbrev N_neighbours_of : List Str := ["scheme", "name", "table"]
theorem sc_neighbours_of : FnScope N_neighbours_of ["scheme", "name"] (defScope s_neighbours_of) := ⟨rfl, rfl, rfl, by decide +kernel, rfl, by decide +kernel, by decide +kernel⟩
abbrev s_are_neighbours : Stmt := top 11
abbrev N_are_neighbours : List Str := ["scheme", "one", "other", "table"]
theorem sc_are_neighbours : FnScope N_are_neighbours ["scheme", "one", "other"] (defScope s_are_neighbours) := ⟨rfl, rfl, rfl, by decide +kernel, rfl, by decide +kernel, by decide +kernel⟩
abbrev s_room_pairs : Stmt := top 12
abbrev N_room_pairs : List Str := ["scheme", "pair"]
theorem sc_room_pairs : FnScope N_room_pairs ["scheme"] (defScope s_room_pairs) := ⟨rfl, rfl, rfl, by decide +kernel, rfl, by decide +kernel, by decide +kernel⟩
abbrev s_common_neighbours : Stmt := top 13
abbrev N_common_neighbours : List Str := ["scheme", "one", "other", "table", "name"]
theorem sc_common_neighbours : FnScope N_common_neighbours ["scheme", "one", "other"] (defScope s_common_neighbours) := ⟨rfl, rfl, rfl, by decide +kernel, rfl, by decide +kernel, by decide +kernel⟩
abbrev s_hanging_rooms : Stmt := top 14
abbrev N_hanging_rooms : List Str := ["scheme", "table", "reached", "side", "waiting", "name", "other", "room"]
theorem sc_hanging_rooms : FnScope N_hanging_rooms ["scheme"] (defScope s_hanging_rooms) := ⟨rfl, rfl, rfl, by decide +kernel, rfl, by decide +kernel, by decide +kernel⟩
abbrev s_u_law_pool : Stmt := top 16
abbrev N_u_law_pool : List Str := ["script", "many", "cells", "cell", "rest", "pool", "k", "at", "mixed"]
theorem sc_u_law_pool : FnScope N_u_law_pool ["script", "many"] (defScope s_u_law_pool) := ⟨rfl, rfl, rfl, by decide +kernel, rfl, by decide +kernel, by decide +kernel⟩
abbrev s_u_law_names : Stmt := top 17
abbrev N_u_law_names : List Str := ["pool", "begin", "many", "names", "k", "pick", "name", "count"]
theorem sc_u_law_names : FnScope N_u_law_names ["pool", "begin", "many"] (defScope s_u_law_names) := ⟨rfl, rfl, rfl, by decide +kernel, rfl, by decide +kernel, by decide +kernel⟩
abbrev s_u_law_scheme : Stmt := top 18
abbrev N_u_law_scheme : List Str := ["rooms", "touches", "pairs", "one", "other"]
theorem sc_u_law_scheme : FnScope N_u_law_scheme ["rooms", "touches"] (defScope s_u_law_scheme) := ⟨rfl, rfl, rfl, by decide +kernel, rfl, by decide +kernel, by decide +kernel⟩
abbrev s_u_law_small : Stmt := top 19
abbrev N_u_law_small : List Str := ["pool", "rooms", "touches", "k", "names"]
theorem sc_u_law_small : FnScope N_u_law_small ["pool"] (defScope s_u_law_small) := ⟨rfl, rfl, rfl, by decide +kernel, rfl, by decide +kernel, by decide +kernel⟩
abbrev s_u_law_wide : Stmt := top 20
abbrev N_u_law_wide : List Str := ["pool", "rooms", "first", "touches", "k"]
theorem sc_u_law_wide : FnScope N_u_law_wide ["pool"] (defScope s_u_law_wide) := ⟨rfl, rfl, rfl, by decide +kernel, rfl, by decide +kernel, by decide +kernel⟩
abbrev s_u_law_near : Stmt := top 21
abbrev N_u_law_near : List Str := ["scheme", "near", "name", "one", "other"]
theorem sc_u_law_near : FnScope N_u_law_near ["scheme"] (defScope s_u_law_near) := ⟨rfl, rfl, rfl, by decide +kernel, rfl, by decide +kernel, by decide +kernel⟩
abbrev s_u_law_hangs : Stmt := top 22
abbrev N_u_law_hangs : List Str := ["near", "rooms", "found", "room", "k", "name"]
theorem sc_u_law_hangs : FnScope N_u_law_hangs ["near", "rooms"] (defScope s_u_law_hangs) := ⟨rfl, rfl, rfl, by decide +kernel, rfl, by decide +kernel, by decide +kernel⟩
abbrev s_u_law_same : Stmt := top 23
abbrev N_u_law_same : List Str := ["told", "due", "k"]
theorem sc_u_law_same : FnScope N_u_law_same ["told", "due"] (defScope s_u_law_same) := ⟨rfl, rfl, rfl, by decide +kernel, rfl, by decide +kernel, by decide +kernel⟩
abbrev s_u_law_right : Stmt := top 24
abbrev N_u_law_right : List Str := ["scheme", "near", "one", "other", "told", "both", "name"]
theorem sc_u_law_right : FnScope N_u_law_right ["scheme", "near", "one", "other"] (defScope s_u_law_right) := ⟨rfl, rfl, rfl, by decide +kernel, rfl, by decide +kernel, by decide +kernel⟩
abbrev s_law : Stmt := top 25
abbrev N_law : List Str := ["script", "pool", "turn", "scheme", "near", "names", "pairs", "pair", "name", "asked", "one", "other", "k"]
theorem sc_law : FnScope N_law ["script"] (defScope s_law) := ⟨rfl, rfl, rfl, by decide +kernel, rfl, by decide +kernel, by decide +kernel⟩
structure Txt (K : PySem.W.Frag) (mg : Str → Option Value) : Prop where
  f_bool : mg "bool" = none
  f_int : mg "int" = none
  f_isinstance : mg "isinstance" = none
  f_len : mg "len" = none
  f_list : mg "list" = none
  f_range : mg "range" = none
  f_sorted : mg "sorted" = none
  f_str : mg "str" = none
  f_tuple : mg "tuple" = none
  c_DIRECTIONS : ∃ t, mg "DIRECTIONS" = some (.str "ENWS" t)
  g_SIDES : mg "SIDES" = some (.ref (He.ga K "SIDES"))
  t_SIDES : ∀ H : Hp, SqT K H (He.ga K "SIDES") [.str "E", .str "N", .str "W", .str "S"]

section
variable {P : Program} {w : World} {K : PySem.W.Frag} {mg : Str → Option Value} {base : Heap}
def t_direction_number (K : PySem.W.Frag) : TS := (tRet (tM1 rSIx (tC (.str "ENWS")) (tVar 0)))
theorem dv_direction_number (T : Txt K mg)  {f : Addr} (cdv : Value) (A : Around) (outer : List PySem.Env) (s : Shared) (H : Hp) (E : XK) (hr : Room 0 (A.deeper (envOfC "direction_number" (defScope s_direction_number) s.heap.objs.size f cdv))) :
    PSs (cxOf CX0 P w K mg base N_direction_number "direction_number" (defScope s_direction_number) f cdv A outer s H E) (defBody s_direction_number) (t_direction_number K) := by
  have sc := sc_direction_number
  exact (pss_one (ps_ret (pe_sindex (pe_gstr T.c_DIRECTIONS) (pv 0))))
def t_direction_by (K : PySem.W.Frag) : TS := (tRet (tOp (rIx K) (tC (.str "ENWS")) (tOp rModU (tVar 0) (tC (.int 4)))))
theorem dv_direction_by (T : Txt K mg)  {f : Addr} (cdv : Value) (A : Around) (outer : List PySem.Env) (s : Shared) (H : Hp) (E : XK) (hr : Room 0 (A.deeper (envOfC "direction_by" (defScope s_direction_by) s.heap.objs.size f cdv))) :
    PSs (cxOf CX0 P w K mg base N_direction_by "direction_by" (defScope s_direction_by) f cdv A outer s H E) (defBody s_direction_by) (t_direction_by K) := by
  have sc := sc_direction_by
  exact (pss_one (ps_ret (pe_ix ix_seq (pe_gstr T.c_DIRECTIONS) (pe_op op_mod (pv 0) pe_int) (fun _ _ => rfl))))
def t_beside_side (K : PySem.W.Frag) : TS := (tSeq (tAsg (tCall (sp_direction_number K) [] E0 (tCons (tVar 0) tNil)) (gName 1))
 (tRet (tTup (tCons (tCall (sp_direction_by K) [] E0 (tCons (tOp rSubU (tVar 1) (tC (.int 1))) tNil)) (tCons (tCall (sp_direction_by K) [] E0 (tCons (tOp (rAddU K) (tVar 1) (tC (.int 1))) tNil)) tNil)))))
theorem dv_beside_side (T : Txt K mg) (O_direction_number : Okd P w K mg base CX0 1 "direction_number" ["direction"] (sp_direction_number K)) (O_direction_by : Okd P w K mg base CX0 1 "direction_by" ["number"] (sp_direction_by K)) {f : Addr} (cdv : Value) (A : Around) (outer : List PySem.Env) (s : Shared) (H : Hp) (E : XK) (hr : Room 1 (A.deeper (envOfC "beside_side" (defScope s_beside_side) s.heap.objs.size f cdv))) :
    PSs (cxOf CX0 P w K mg base N_beside_side "beside_side" (defScope s_beside_side) f cdv A outer s H E) (defBody s_beside_side) (t_beside_side K) := by
  have sc := sc_beside_side
  exact (pss_cons (ps_set (i := 1) sc.nd rfl (by first | exact Or.inl rfl | exact Or.inr rfl) (pe_callD O_direction_number hr (by decide) (pa_cons (pv 0) pa_nil)))
 (pss_one (ps_ret (pe_tup (pa_cons (pe_callD O_direction_by hr (by decide) (pa_cons (pe_op op_sub (pv 1) pe_int) pa_nil)) (pa_cons (pe_callD O_direction_by hr (by decide) (pa_cons (pe_op op_addU (pv 1) pe_int) pa_nil)) pa_nil))))))
def t_is_side (K : PySem.W.Frag) : TS := (tRet (tAndV (tCB (rIsi K) (tCons (tVar 0) (tCons (tC (.ty "str")) tNil))) (tOp (rInU K) (tVar 0) (tC (.ref (He.ga K "SIDES"))))))
theorem dv_is_side (T : Txt K mg)  {f : Addr} (cdv : Value) (A : Around) (outer : List PySem.Env) (s : Shared) (H : Hp) (E : XK) (hr : Room 0 (A.deeper (envOfC "is_side" (defScope s_is_side) s.heap.objs.size f cdv))) :
    PSs (cxOf CX0 P w K mg base N_is_side "is_side" (defScope s_is_side) f cdv A outer s H E) (defBody s_is_side) (t_is_side K) := by
  have sc := sc_is_side
  exact (pss_one (ps_ret (pe_and (pe_callB (r := rIsi _) call_isi rfl T.f_isinstance b_isinstance (pa_cons (pv 0) (pa_cons (pe_bltn (v := .ty "str") rfl T.f_str b_str rfl) pa_nil))) (pe_one (pe_cmpR op_inU (pv 0) (pe_gref T.g_SIDES) rfl)))))
def t_touch_table (K : PySem.W.Frag) : TS := (tSeq (tAsg (tVar 0) (gTup K 2 (gCons (gName 1) (gCons (gName 2) gNil))))
 (tSeq (tAsg (tDc (iSeqU K (tVar 1)) (gName 4) tYes (tVar 4) (tLst tNil) [4]) (gName 3))
 (tSeq (tFor (iSeqU K (tC (.ref (He.ga K "SIDES")))) (gName 5) (sDPut (tVar 3) (tVar 5) (tCB (rListU K) (tCons (tCall (sp_beside_side K) [] E0 (tCons (tVar 5) tNil)) tNil))))
 (tSeq (tFor (iSeqU K (tVar 2)) (gTup K 2 (gCons (gName 6) (gCons (gName 7) gNil))) (tSeq (tDrop (tBM K "list" rAppend (tDGet (tVar 3) (tVar 6)) (tCons (tVar 7) tNil)))
 (tDrop (tBM K "list" rAppend (tDGet (tVar 3) (tVar 7)) (tCons (tVar 6) tNil)))))
 (tRet (tLockE (tDc (iItems (tVar 3)) (gTup K 2 (gCons (gName 4) (gCons (gName 8) gNil))) tYes (tVar 4) (tCB (rSortedS K) (tCons (tVar 8) tNil)) [4, 8])))))))
theorem dv_touch_table (T : Txt K mg) (O_beside_side : Okd P w K mg base CX0 2 "beside_side" ["side"] (sp_beside_side K)) {f : Addr} (cdv : Value) (A : Around) (outer : List PySem.Env) (s : Shared) (H : Hp) (E : XK) (hr : Room 2 (A.deeper (envOfC "touch_table" (defScope s_touch_table) s.heap.objs.size f cdv))) :
    PSs (cxOf CX0 P w K mg base N_touch_table "touch_table" (defScope s_touch_table) f cdv A outer s H E) (defBody s_touch_table) (t_touch_table K) := by
  have sc := sc_touch_table
  have pa : PassesOwn (model P w) (cxOf CX0 P w K mg base N_touch_table "touch_table" (defScope s_touch_table) f cdv A outer s H E).A (cxOf CX0 P w K mg base N_touch_table "touch_table" (defScope s_touch_table) f cdv A outer s H E).env (cxOf CX0 P w K mg base N_touch_table "touch_table" (defScope s_touch_table) f cdv A outer s H E).xe := passes_of rfl
  exact (pss_cons (ps_asg (pv 0) (pg_tup rfl (pgs_cons (pg_name (i := 1) sc.nd rfl (by first | exact Or.inl rfl | exact Or.inr rfl)) (pgs_cons (pg_name (i := 2) sc.nd rfl (by first | exact Or.inl rfl | exact Or.inr rfl)) pgs_nil))))
 (pss_cons (ps_setDc (i := 3) (own := [("name", 4)]) (g := (gName 4)) (tt := tYes) rfl sc.nd rfl rfl (sw_trueD rfl rfl rfl (by decide +kernel)) (pi_seqU (pv 1)) (blkOk_by (own := [("name", 4)]) (N := N_touch_table) (sc := defScope s_touch_table) (by decide +kernel)) (fun _ _ _ _ _ => (pg_name (i := 4) sc.nd rfl (by first | exact Or.inl rfl | exact Or.inr rfl))) (fun _ _ _ _ _ => pts_nil) (fun _ _ _ _ _ => (pv 4)) (fun _ _ _ _ _ => (pe_lst pa_nil)))
 (pss_cons (ps_for pa rfl (pi_seqU (pe_gref T.g_SIDES)) (pg_name (i := 5) sc.nd rfl (by first | exact Or.inl rfl | exact Or.inr rfl)) (pss_one (ps_dput (hu_of hr) (pv 3) (pv 5) (pe_callTy (r := rListU _) call_listU rfl T.f_list b_list (pa_cons (pe_callD O_beside_side hr (by decide) (pa_cons (pv 5) pa_nil)) pa_nil)) rfl)))
 (pss_cons (ps_for pa rfl (pi_seqU (pv 2)) (pg_tup rfl (pgs_cons (pg_name (i := 6) sc.nd rfl (by first | exact Or.inl rfl | exact Or.inr rfl)) (pgs_cons (pg_name (i := 7) sc.nd rfl (by first | exact Or.inl rfl | exact Or.inr rfl)) pgs_nil))) (pss_cons (ps_expr (pe_bm PySem.F.plainAttrs_list PySem.F.slot_list_append PySem.F.type_list_append mt_append (pe_dget (hu_of hr) (pv 3) (pv 6) (fun _ _ => rfl)) (pa_cons (pv 7) pa_nil)))
 (pss_one (ps_expr (pe_bm PySem.F.plainAttrs_list PySem.F.slot_list_append PySem.F.type_list_append mt_append (pe_dget (hu_of hr) (pv 3) (pv 7) (fun _ _ => rfl)) (pa_cons (pv 6) pa_nil))))))
 (pss_one (ps_ret (pe_lock (pe_dc (own := [("name", 4), ("found", 8)]) (g := (gTup K 2 (gCons (gName 4) (gCons (gName 8) gNil)))) (tt := tYes) rfl sc.nd (pi_items (pv 3)) (blkOk_by (own := [("name", 4), ("found", 8)]) (N := N_touch_table) (sc := defScope s_touch_table) (by decide +kernel)) (fun _ _ _ _ _ => (pg_tup rfl (pgs_cons (pg_name (i := 4) sc.nd rfl (by first | exact Or.inl rfl | exact Or.inr rfl)) (pgs_cons (pg_name (i := 8) sc.nd rfl (by first | exact Or.inl rfl | exact Or.inr rfl)) pgs_nil)))) (fun _ _ _ _ _ => pts_nil) (fun _ _ _ _ _ => (pv 4)) (fun _ _ _ _ _ => (pe_callB (r := rSortedS _) cr_sortedS rfl T.f_sorted b_sorted (pa_cons (pv 8) pa_nil)))))))))))
def t_neighbours_of (K : PySem.W.Frag) : TS := (tSeq (tAsg (tCall (sp_touch_table K) [] E0 (tCons (tVar 0) tNil)) (gName 2))
 (tRet (tCB (rTupU K) (tCons (tDGet (tVar 2) (tVar 1)) tNil))))
theorem dv_neighbours_of (T : Txt K mg) (O_touch_table : Okd P w K mg base CX0 3 "touch_table" ["scheme"] (sp_touch_table K)) {f : Addr} (cdv : Value) (A : Around) (outer : List PySem.Env) (s : Shared) (H : Hp) (E : XK) (hr : Room 3 (A.deeper (envOfC "neighbours_of" (defScope s_neighbours_of) s.heap.objs.size f cdv))) :
    PSs (cxOf CX0 P w K mg base N_neighbours_of "neighbours_of" (defScope s_neighbours_of) f cdv A outer s H E) (defBody s_neighbours_of) (t_neighbours_of K) := by
  have sc := sc_neighbours_of
  exact (pss_cons (ps_set (i := 2) sc.nd rfl (by first | exact Or.inl rfl | exact Or.inr rfl) (pe_callD O_touch_table hr (by decide) (pa_cons (pv 0) pa_nil)))
 (pss_one (ps_ret (pe_callTy (r := rTupU _) call_tupleU rfl T.f_tuple b_tuple (pa_cons (pe_dget (hu_of hr) (pv 2) (pv 1) (fun _ _ => rfl)) pa_nil)))))
def t_are_neighbours (K : PySem.W.Frag) : TS := (tSeq (tAsg (tCall (sp_touch_table K) [] E0 (tCons (tVar 0) tNil)) (gName 3))
 (tRet (tOp (rInU K) (tVar 2) (tDGet (tVar 3) (tVar 1)))))
theorem dv_are_neighbours (T : Txt K mg) (O_touch_table : Okd P w K mg base CX0 3 "touch_table" ["scheme"] (sp_touch_table K)) {f : Addr} (cdv : Value) (A : Around) (outer : List PySem.Env) (s : Shared) (H : Hp) (E : XK) (hr : Room 3 (A.deeper (envOfC "are_neighbours" (defScope s_are_neighbours) s.heap.objs.size f cdv))) :
    PSs (cxOf CX0 P w K mg base N_are_neighbours "are_neighbours" (defScope s_are_neighbours) f cdv A outer s H E) (defBody s_are_neighbours) (t_are_neighbours K) := by
  have sc := sc_are_neighbours
  exact (pss_cons (ps_set (i := 3) sc.nd rfl (by first | exact Or.inl rfl | exact Or.inr rfl) (pe_callD O_touch_table hr (by decide) (pa_cons (pv 0) pa_nil)))
 (pss_one (ps_ret (pe_cmpR op_inU (pv 2) (pe_dget (hu_of hr) (pv 3) (pv 1) (fun _ _ => rfl)) rfl))))
def t_room_pairs (K : PySem.W.Frag) : TS := (tRet (tCB (rTupU K) (tCons (tLc (iSeqU K (tOp (rIx K) (tVar 0) (tC (.int 1)))) (gName 1) (tNot (tTr K (tCall (sp_is_side K) [] E0 (tCons (tOp (rIx K) (tVar 1) (tC (.int 0))) tNil)))) (tVar 1) [1]) tNil)))
theorem dv_room_pairs (T : Txt K mg) (O_is_side : Okd P w K mg base CX0 1 "is_side" ["thing"] (sp_is_side K)) {f : Addr} (cdv : Value) (A : Around) (outer : List PySem.Env) (s : Shared) (H : Hp) (E : XK) (hr : Room 1 (A.deeper (envOfC "room_pairs" (defScope s_room_pairs) s.heap.objs.size f cdv))) :
    PSs (cxOf CX0 P w K mg base N_room_pairs "room_pairs" (defScope s_room_pairs) f cdv A outer s H E) (defBody s_room_pairs) (t_room_pairs K) := by
  have sc := sc_room_pairs
  exact (pss_one (ps_ret (pe_callTy (r := rTupU _) call_tupleU rfl T.f_tuple b_tuple (pa_cons (pe_lc (own := [("pair", 1)]) (g := (gName 1)) (tt := (tNot (tTr K (tCall (sp_is_side K) [] E0 (tCons (tOp (rIx K) (tVar 1) (tC (.int 0))) tNil))))) rfl sc.nd (pi_seqU (pe_ix ix_seq (pv 0) pe_int (fun _ _ => rfl))) (blkOk_by (own := [("pair", 1)]) (N := N_room_pairs) (sc := defScope s_room_pairs) (by decide +kernel)) (fun _ _ _ _ _ => (pg_name (i := 1) sc.nd rfl (by first | exact Or.inl rfl | exact Or.inr rfl))) (fun _ _ _ _ _ => (pts_one (pt_not (pt_tr (pe_callD O_is_side hr (by decide) (pa_cons (pe_ix ix_seq (pv 1) pe_int (fun _ _ => rfl)) pa_nil)))))) (fun _ _ _ _ _ => (pv 1))) pa_nil))))
def t_common_neighbours (K : PySem.W.Frag) : TS := (tSeq (tAsg (tCall (sp_touch_table K) [] E0 (tCons (tVar 0) tNil)) (gName 3))
 (tRet (tCB (rTupU K) (tCons (tLc (iSeqU K (tDGet (tVar 3) (tVar 1))) (gName 4) (tTest (tOp (rInU K) (tVar 4) (tDGet (tVar 3) (tVar 2)))) (tVar 4) [4]) tNil))))
theorem dv_common_neighbours (T : Txt K mg) (O_touch_table : Okd P w K mg base CX0 3 "touch_table" ["scheme"] (sp_touch_table K)) {f : Addr} (cdv : Value) (A : Around) (outer : List PySem.Env) (s : Shared) (H : Hp) (E : XK) (hr : Room 3 (A.deeper (envOfC "common_neighbours" (defScope s_common_neighbours) s.heap.objs.size f cdv))) :
    PSs (cxOf CX0 P w K mg base N_common_neighbours "common_neighbours" (defScope s_common_neighbours) f cdv A outer s H E) (defBody s_common_neighbours) (t_common_neighbours K) := by
  have sc := sc_common_neighbours
  exact (pss_cons (ps_set (i := 3) sc.nd rfl (by first | exact Or.inl rfl | exact Or.inr rfl) (pe_callD O_touch_table hr (by decide) (pa_cons (pv 0) pa_nil)))
 (pss_one (ps_ret (pe_callTy (r := rTupU _) call_tupleU rfl T.f_tuple b_tuple (pa_cons (pe_lc (own := [("name", 4)]) (g := (gName 4)) (tt := (tTest (tOp (rInU K) (tVar 4) (tDGet (tVar 3) (tVar 2))))) rfl sc.nd (pi_seqU (pe_dget (hu_of hr) (pv 3) (pv 1) (fun _ _ => rfl))) (blkOk_by (own := [("name", 4)]) (N := N_common_neighbours) (sc := defScope s_common_neighbours) (by decide +kernel)) (fun _ _ _ _ _ => (pg_name (i := 4) sc.nd rfl (by first | exact Or.inl rfl | exact Or.inr rfl))) (fun _ _ _ _ _ => (pts_one (pt_cmpR op_inU (pv 4) (pe_dget (hu_of hr) (pv 3) (pv 2) (fun _ _ => rfl)) rfl))) (fun _ _ _ _ _ => (pv 4))) pa_nil)))))
def t_hanging_rooms (K : PySem.W.Frag) : TS := (tSeq (tAsg (tCall (sp_touch_table K) [] E0 (tCons (tVar 0) tNil)) (gName 1))
 (tSeq (tAsg (tDc (iSeqU K (tC (.ref (He.ga K "SIDES")))) (gName 3) tYes (tVar 3) (tC (.bl true)) [3]) (gName 2))
 (tSeq (tAsg (tCB (rListU K) (tCons (tC (.ref (He.ga K "SIDES"))) tNil)) (gName 4))
 (tSeq (tWhile (tTr K (tVar 4)) (tSeq (tAsg (tBM0 K "list" rPop (tVar 4)) (gName 5))
 (tFor (iSeqU K (tDGet (tVar 1) (tVar 5))) (gName 6) (tIfS (tB (tDNotIn (tVar 6) (tVar 2))) (tSeq (sDPut (tVar 2) (tVar 6) (tC (.bl true)))
 (tDrop (tBM K "list" rAppend (tVar 4) (tCons (tVar 6) tNil)))) tNext))))
 (tRet (tCB (rTupU K) (tCons (tLc (iSeqU K (tOp (rIx K) (tVar 0) (tC (.int 0)))) (gName 7) (tB (tDIn (tVar 7) (tVar 2))) (tVar 7) [7]) tNil)))))))
theorem dv_hanging_rooms (T : Txt K mg) (O_touch_table : Okd P w K mg base CX0 3 "touch_table" ["scheme"] (sp_touch_table K)) {f : Addr} (cdv : Value) (A : Around) (outer : List PySem.Env) (s : Shared) (H : Hp) (E : XK) (hr : Room 3 (A.deeper (envOfC "hanging_rooms" (defScope s_hanging_rooms) s.heap.objs.size f cdv))) :
    PSs (cxOf CX0 P w K mg base N_hanging_rooms "hanging_rooms" (defScope s_hanging_rooms) f cdv A outer s H E) (defBody s_hanging_rooms) (t_hanging_rooms K) := by
  have sc := sc_hanging_rooms
  have pa : PassesOwn (model P w) (cxOf CX0 P w K mg base N_hanging_rooms "hanging_rooms" (defScope s_hanging_rooms) f cdv A outer s H E).A (cxOf CX0 P w K mg base N_hanging_rooms "hanging_rooms" (defScope s_hanging_rooms) f cdv A outer s H E).env (cxOf CX0 P w K mg base N_hanging_rooms "hanging_rooms" (defScope s_hanging_rooms) f cdv A outer s H E).xe := passes_of rfl
  exact (pss_cons (ps_set (i := 1) sc.nd rfl (by first | exact Or.inl rfl | exact Or.inr rfl) (pe_callD O_touch_table hr (by decide) (pa_cons (pv 0) pa_nil)))
 (pss_cons (ps_set (i := 2) sc.nd rfl (by first | exact Or.inl rfl | exact Or.inr rfl) (pe_dc (own := [("side", 3)]) (g := (gName 3)) (tt := tYes) rfl sc.nd (pi_seqU (pe_gref T.g_SIDES)) (blkOk_by (own := [("side", 3)]) (N := N_hanging_rooms) (sc := defScope s_hanging_rooms) (by decide +kernel)) (fun _ _ _ _ _ => (pg_name (i := 3) sc.nd rfl (by first | exact Or.inl rfl | exact Or.inr rfl))) (fun _ _ _ _ _ => pts_nil) (fun _ _ _ _ _ => (pv 3)) (fun _ _ _ _ _ => pe_bl)))
 (pss_cons (ps_set (i := 4) sc.nd rfl (by first | exact Or.inl rfl | exact Or.inr rfl) (pe_callTy (r := rListU _) call_listU rfl T.f_list b_list (pa_cons (pe_gref T.g_SIDES) pa_nil)))
 (pss_cons (ps_while pa (pt_tr (pv 4)) (pss_cons (ps_set (i := 5) sc.nd rfl (by first | exact Or.inl rfl | exact Or.inr rfl) (pe_bm0 PySem.F.plainAttrs_list PySem.F.slot_list_pop PySem.F.type_list_pop mt_pop (pv 4)))
 (pss_one (ps_for pa rfl (pi_seqU (pe_dget (hu_of hr) (pv 1) (pv 5) (fun _ _ => rfl))) (pg_name (i := 6) sc.nd rfl (by first | exact Or.inl rfl | exact Or.inr rfl)) (pss_one (ps_if (pt_cmp (pc_dnotin (hu_of hr) (pv 6) (pv 2)) rfl) (pss_cons (ps_dput (hu_of hr) (pv 2) (pv 6) pe_bl rfl)
 (pss_one (ps_expr (pe_bm PySem.F.plainAttrs_list PySem.F.slot_list_append PySem.F.type_list_append mt_append (pv 4) (pa_cons (pv 6) pa_nil))))) pss_nil))))))
 (pss_one (ps_ret (pe_callTy (r := rTupU _) call_tupleU rfl T.f_tuple b_tuple (pa_cons (pe_lc (own := [("room", 7)]) (g := (gName 7)) (tt := (tB (tDIn (tVar 7) (tVar 2)))) rfl sc.nd (pi_seqU (pe_ix ix_seq (pv 0) pe_int (fun _ _ => rfl))) (blkOk_by (own := [("room", 7)]) (N := N_hanging_rooms) (sc := defScope s_hanging_rooms) (by decide +kernel)) (fun _ _ _ _ _ => (pg_name (i := 7) sc.nd rfl (by first | exact Or.inl rfl | exact Or.inr rfl))) (fun _ _ _ _ _ => (pts_one (pt_cmp (pc_din (hu_of hr) (pv 7) (pv 2)) rfl))) (fun _ _ _ _ _ => (pv 7))) pa_nil))))))))
def t_u_law_pool (K : PySem.W.Frag) : TS := (tSeq (tAsg (tLc (iSeqU K (tSl (rSlU K) (tVar 0) tNoPart (tPart (tC (.int 63))))) (gName 3) tYes (tIf (tTest (tOp rGeU (tVar 3) (tC (.int 0)))) (tVar 3) (tUn (rU fun i => .int (-i)) (tVar 3))) [3]) (gName 2))
 (tSeq (tIfS (tTest (tOp (rEqU K) (tCB (rLen K) (tCons (tVar 2) tNil)) (tC (.int 0)))) (tAsg (tLst (tCons (tC (.int 71)) tNil)) (gName 2)) tNext)
 (tSeq (tAsg (tLc (iSeqU K (tVar 2)) (gName 3) tYes (tIf (tTest (tOp rGeU (tVar 3) (tOp rPowU (tC (.int 10)) (tC (.int 18))))) (tVar 3) (tC (.int 0))) [3]) (gName 4))
 (tSeq (tAsg (tLst tNil) (gName 5))
 (tSeq (tFor (iRng1 (tCons (tVar 1) tNil)) (gName 6) (tSeq (tAsg (tOp rModU (tVar 6) (tCB (rLen K) (tCons (tVar 2) tNil))) (gName 7))
 (tIfS (tTest (tOp rGtU (tOp (rIx K) (tVar 4) (tVar 7)) (tC (.int 0)))) (tSeq (tDrop (tBM K "list" rAppend (tVar 5) (tCons (tOp rModU (tCB rIntU (tCons (tOp (rIx K) (tVar 4) (tVar 7)) tNil)) (tC (.int 9973))) tNil)))
 (tAsg (tOp rDivU (tOp (rIx K) (tVar 4) (tVar 7)) (tC (.int 9973))) (gSub (tVar 4) (tVar 7) rSetL))) (tSeq (tAsg (tOp rModU (tCB rIntU (tCons (tOp (rAddU K) (tOp (rAddU K) (tOp rMulU (tOp (rIx K) (tVar 2) (tVar 7)) (tC (.int 62233))) (tOp rMulU (tVar 6) (tC (.int 73939)))) (tC (.int 407))) tNil)) (tC (.int 2147483647))) (gName 8))
 (tDrop (tBM K "list" rAppend (tVar 5) (tCons (tOp rDivU (tOp rModU (tCB rIntU (tCons (tOp (rAddU K) (tOp rMulU (tVar 8) (tC (.int 30323))) (tOp rMulU (tVar 6) (tC (.int 31)))) tNil)) (tC (.int 2147483647))) (tC (.int 3))) tNil)))))))
 (tRet (tVar 5)))))))
theorem dv_u_law_pool (T : Txt K mg)  {f : Addr} (cdv : Value) (A : Around) (outer : List PySem.Env) (s : Shared) (H : Hp) (E : XK) (hr : Room 0 (A.deeper (envOfC "_law_pool" (defScope s_u_law_pool) s.heap.objs.size f cdv))) :
    PSs (cxOf CX0 P w K mg base N_u_law_pool "_law_pool" (defScope s_u_law_pool) f cdv A outer s H E) (defBody s_u_law_pool) (t_u_law_pool K) := by
  have sc := sc_u_law_pool
  have pa : PassesOwn (model P w) (cxOf CX0 P w K mg base N_u_law_pool "_law_pool" (defScope s_u_law_pool) f cdv A outer s H E).A (cxOf CX0 P w K mg base N_u_law_pool "_law_pool" (defScope s_u_law_pool) f cdv A outer s H E).env (cxOf CX0 P w K mg base N_u_law_pool "_law_pool" (defScope s_u_law_pool) f cdv A outer s H E).xe := passes_of rfl
  exact (pss_cons (ps_setLc (i := 2) (own := [("cell", 3)]) (g := (gName 3)) (tt := tYes) rfl sc.nd rfl rfl (sw_true rfl rfl rfl (by decide +kernel)) (pi_seqU (pe_slice sl_U (pv 0) po_none (po_some pe_int))) (blkOk_by (own := [("cell", 3)]) (N := N_u_law_pool) (sc := defScope s_u_law_pool) (by decide +kernel)) (fun _ _ _ _ _ => (pg_name (i := 3) sc.nd rfl (by first | exact Or.inl rfl | exact Or.inr rfl))) (fun _ _ _ _ _ => pts_nil) (fun _ _ _ _ _ => (pe_ifExp (pt_cmpR op_geU (pv 3) pe_int (nomark _)) (pv 3) (pe_un un_neg (pv 3)))))
 (pss_cons (ps_if (pt_cmpR (op_eqU hr.units) (pe_callB (r := rLen _) call_len rfl T.f_len b_len (pa_cons (pv 2) pa_nil)) pe_int (nomark _)) (pss_one (ps_set (i := 2) sc.nd rfl (by first | exact Or.inl rfl | exact Or.inr rfl) (pe_lst (pa_cons pe_int pa_nil)))) pss_nil)
 (pss_cons (ps_setLc (i := 4) (own := [("cell", 3)]) (g := (gName 3)) (tt := tYes) rfl sc.nd rfl rfl (sw_true rfl rfl rfl (by decide +kernel)) (pi_seqU (pv 2)) (blkOk_by (own := [("cell", 3)]) (N := N_u_law_pool) (sc := defScope s_u_law_pool) (by decide +kernel)) (fun _ _ _ _ _ => (pg_name (i := 3) sc.nd rfl (by first | exact Or.inl rfl | exact Or.inr rfl))) (fun _ _ _ _ _ => pts_nil) (fun _ _ _ _ _ => (pe_ifExp (pt_cmpR op_geU (pv 3) (pe_op op_pow pe_int pe_int) (nomark _)) (pv 3) pe_int)))
 (pss_cons (ps_set (i := 5) sc.nd rfl (by first | exact Or.inl rfl | exact Or.inr rfl) (pe_lst pa_nil))
 (pss_cons (ps_for pa rfl (pi_range1 rfl T.f_range (pa_cons (pv 1) pa_nil)) (pg_name (i := 6) sc.nd rfl (by first | exact Or.inl rfl | exact Or.inr rfl)) (pss_cons (ps_set (i := 7) sc.nd rfl (by first | exact Or.inl rfl | exact Or.inr rfl) (pe_op op_mod (pv 6) (pe_callB (r := rLen _) call_len rfl T.f_len b_len (pa_cons (pv 2) pa_nil))))
 (pss_one (ps_if (pt_cmpR op_gtU (pe_ix ix_seq (pv 4) (pv 7) (fun _ _ => rfl)) pe_int (nomark _)) (pss_cons (ps_expr (pe_bm PySem.F.plainAttrs_list PySem.F.slot_list_append PySem.F.type_list_append mt_append (pv 5) (pa_cons (pe_op op_mod (pe_callTy (r := rIntU) call_int1 rfl T.f_int b_int (pa_cons (pe_ix ix_seq (pv 4) (pv 7) (fun _ _ => rfl)) pa_nil)) pe_int) pa_nil)))
 (pss_one (ps_asg (pe_op op_fdiv (pe_ix ix_seq (pv 4) (pv 7) (fun _ _ => rfl)) pe_int) (pg_sub (pv 4) (pv 7) set_list)))) (pss_cons (ps_set (i := 8) sc.nd rfl (by first | exact Or.inl rfl | exact Or.inr rfl) (pe_op op_mod (pe_callTy (r := rIntU) call_int1 rfl T.f_int b_int (pa_cons (pe_op op_addU (pe_op op_addU (pe_op op_mulU (pe_ix ix_seq (pv 2) (pv 7) (fun _ _ => rfl)) pe_int) (pe_op op_mulU (pv 6) pe_int)) pe_int) pa_nil)) pe_int))
 (pss_one (ps_expr (pe_bm PySem.F.plainAttrs_list PySem.F.slot_list_append PySem.F.type_list_append mt_append (pv 5) (pa_cons (pe_op op_fdiv (pe_op op_mod (pe_callTy (r := rIntU) call_int1 rfl T.f_int b_int (pa_cons (pe_op op_addU (pe_op op_mulU (pv 8) pe_int) (pe_op op_mulU (pv 6) pe_int)) pa_nil)) pe_int) pe_int) pa_nil)))))))))
 (pss_one (ps_ret (pv 5))))))))
def t_u_law_names (K : PySem.W.Frag) : TS := (tSeq (tAsg (tLst tNil) (gName 3))
 (tSeq (tFor (iRng1 (tCons (tVar 2) tNil)) (gName 4) (tSeq (tAsg (tOp (rIx K) (tVar 0) (tOp (rAddU K) (tVar 1) (tVar 4))) (gName 5))
 (tSeq (tAsg (tOp (rIx K) (tC (.str "abcdefghijklmnoprstuvwxyz")) (tOp rModU (tVar 5) (tC (.int 25)))) (gName 6))
 (tSeq (tAsg (tOp rDivU (tVar 5) (tC (.int 25))) (gName 5))
 (tSeq (tIfS (tAnd (tTest (tOp (rEqU K) (tOp rModU (tVar 5) (tC (.int 5))) (tC (.int 0)))) (tTest (tOp rGtU (tVar 4) (tC (.int 0))))) (tAsg (tOp (rIx K) (tVar 3) (tOp rSubU (tVar 4) (tC (.int 1)))) (gName 6)) tNext)
 (tSeq (tFor (iRng1 (tCons (tOp rModU (tOp rDivU (tVar 5) (tC (.int 5))) (tC (.int 4))) tNil)) (gName 7) (tAsg (tOp (rAddU K) (tVar 6) (tOp (rIx K) (tC (.str "0rbz9eno")) (tOp rModU (tOp (rAddU K) (tOp rDivU (tVar 5) (tC (.int 20))) (tOp rMulU (tC (.int 3)) (tVar 7))) (tC (.int 8))))) (gName 6)))
 (tSeq (tIfS (tOr (tTest (tOp rGtU (tCB (rLen K) (tCons (tVar 6) tNil)) (tC (.int 8)))) (tTest (tOp (rInU K) (tVar 6) (tVar 3)))) (tAsg (tOp (rAddU K) (tC (.str "q")) (tCB rStrI (tCons (tOp (rAddU K) (tC (.int 1000)) (tVar 4)) tNil))) (gName 6)) tNext)
 (tDrop (tBM K "list" rAppend (tVar 3) (tCons (tVar 6) tNil))))))))))
 (tRet (tVar 3))))
theorem dv_u_law_names (T : Txt K mg)  {f : Addr} (cdv : Value) (A : Around) (outer : List PySem.Env) (s : Shared) (H : Hp) (E : XK) (hr : Room 0 (A.deeper (envOfC "_law_names" (defScope s_u_law_names) s.heap.objs.size f cdv))) :
    PSs (cxOf CX0 P w K mg base N_u_law_names "_law_names" (defScope s_u_law_names) f cdv A outer s H E) (defBody s_u_law_names) (t_u_law_names K) := by
  have sc := sc_u_law_names
  have pa : PassesOwn (model P w) (cxOf CX0 P w K mg base N_u_law_names "_law_names" (defScope s_u_law_names) f cdv A outer s H E).A (cxOf CX0 P w K mg base N_u_law_names "_law_names" (defScope s_u_law_names) f cdv A outer s H E).env (cxOf CX0 P w K mg base N_u_law_names "_law_names" (defScope s_u_law_names) f cdv A outer s H E).xe := passes_of rfl
  exact (pss_cons (ps_set (i := 3) sc.nd rfl (by first | exact Or.inl rfl | exact Or.inr rfl) (pe_lst pa_nil))
 (pss_cons (ps_for pa rfl (pi_range1 rfl T.f_range (pa_cons (pv 2) pa_nil)) (pg_name (i := 4) sc.nd rfl (by first | exact Or.inl rfl | exact Or.inr rfl)) (pss_cons (ps_set (i := 5) sc.nd rfl (by first | exact Or.inl rfl | exact Or.inr rfl) (pe_ix ix_seq (pv 0) (pe_op op_addU (pv 1) (pv 4)) (fun _ _ => rfl)))
 (pss_cons (ps_set (i := 6) sc.nd rfl (by first | exact Or.inl rfl | exact Or.inr rfl) (pe_ix ix_seq pe_str (pe_op op_mod (pv 5) pe_int) (fun _ _ => rfl)))
 (pss_cons (ps_set (i := 5) sc.nd rfl (by first | exact Or.inl rfl | exact Or.inr rfl) (pe_op op_fdiv (pv 5) pe_int))
 (pss_cons (ps_if (PW.pt (pw_and (pt_cmpR (op_eqU hr.units) (pe_op op_mod (pv 5) pe_int) pe_int (nomark _)) (pw_and1 (pt_cmpR op_gtU (pv 4) pe_int (nomark _))))) (pss_one (ps_set (i := 6) sc.nd rfl (by first | exact Or.inl rfl | exact Or.inr rfl) (pe_ix ix_seq (pv 3) (pe_op op_sub (pv 4) pe_int) (fun _ _ => rfl)))) pss_nil)
 (pss_cons (ps_for pa rfl (pi_range1 rfl T.f_range (pa_cons (pe_op op_mod (pe_op op_fdiv (pv 5) pe_int) pe_int) pa_nil)) (pg_name (i := 7) sc.nd rfl (by first | exact Or.inl rfl | exact Or.inr rfl)) (pss_one (ps_set (i := 6) sc.nd rfl (by first | exact Or.inl rfl | exact Or.inr rfl) (pe_op op_addU (pv 6) (pe_ix ix_seq pe_str (pe_op op_mod (pe_op op_addU (pe_op op_fdiv (pv 5) pe_int) (pe_op op_mulU pe_int (pv 7))) pe_int) (fun _ _ => rfl))))))
 (pss_cons (ps_if (PW.pt (pw_or (pt_cmpR op_gtU (pe_callB (r := rLen _) call_len rfl T.f_len b_len (pa_cons (pv 6) pa_nil)) pe_int (nomark _)) (pw_or1 (pt_cmpR op_inU (pv 6) (pv 3) rfl)))) (pss_one (ps_set (i := 6) sc.nd rfl (by first | exact Or.inl rfl | exact Or.inr rfl) (pe_op op_addU pe_str (pe_callTy (r := rStrI) call_strI rfl T.f_str b_str (pa_cons (pe_op op_addU pe_int (pv 4)) pa_nil))))) pss_nil)
 (pss_one (ps_expr (pe_bm PySem.F.plainAttrs_list PySem.F.slot_list_append PySem.F.type_list_append mt_append (pv 3) (pa_cons (pv 6) pa_nil)))))))))))
 (pss_one (ps_ret (pv 3)))))
def t_u_law_scheme (K : PySem.W.Frag) : TS := (tSeq (tAsg tDNewT (gName 2))
 (tSeq (tFor (iSeqU K (tVar 1)) (gTup K 2 (gCons (gName 3) (gCons (gName 4) gNil))) (tIfS (tTest (tOp (rNeU K) (tVar 3) (tVar 4))) (sDPut (tVar 2) (tIf (tTest (tOp rLtU (tVar 3) (tVar 4))) (tTup (tCons (tVar 3) (tCons (tVar 4) tNil))) (tTup (tCons (tVar 4) (tCons (tVar 3) tNil)))) (tC (.bl true))) tNext))
 (tRet (tTup (tCons (tCB (rTupU K) (tCons (tCB (rSortedS K) (tCons (tVar 0) tNil)) tNil)) (tCons (tCB (rTupU K) (tCons (tCB (rSortDT K) (tCons (tVar 2) tNil)) tNil)) tNil))))))
theorem dv_u_law_scheme (T : Txt K mg)  {f : Addr} (cdv : Value) (A : Around) (outer : List PySem.Env) (s : Shared) (H : Hp) (E : XK) (hr : Room 0 (A.deeper (envOfC "_law_scheme" (defScope s_u_law_scheme) s.heap.objs.size f cdv))) :
    PSs (cxOf CX0 P w K mg base N_u_law_scheme "_law_scheme" (defScope s_u_law_scheme) f cdv A outer s H E) (defBody s_u_law_scheme) (t_u_law_scheme K) := by
  have sc := sc_u_law_scheme
  have pa : PassesOwn (model P w) (cxOf CX0 P w K mg base N_u_law_scheme "_law_scheme" (defScope s_u_law_scheme) f cdv A outer s H E).A (cxOf CX0 P w K mg base N_u_law_scheme "_law_scheme" (defScope s_u_law_scheme) f cdv A outer s H E).env (cxOf CX0 P w K mg base N_u_law_scheme "_law_scheme" (defScope s_u_law_scheme) f cdv A outer s H E).xe := passes_of rfl
  exact (pss_cons (ps_set (i := 2) sc.nd rfl (by first | exact Or.inl rfl | exact Or.inr rfl) pe_dnewT)
 (pss_cons (ps_for pa rfl (pi_seqU (pv 1)) (pg_tup rfl (pgs_cons (pg_name (i := 3) sc.nd rfl (by first | exact Or.inl rfl | exact Or.inr rfl)) (pgs_cons (pg_name (i := 4) sc.nd rfl (by first | exact Or.inl rfl | exact Or.inr rfl)) pgs_nil))) (pss_one (ps_if (pt_cmpR (op_neU hr.units) (pv 3) (pv 4) (nomark _)) (pss_one (ps_dput (hu_of hr) (pv 2) (pe_ifExp (pt_cmpR op_ltU (pv 3) (pv 4) (nomark _)) (pe_tup (pa_cons (pv 3) (pa_cons (pv 4) pa_nil))) (pe_tup (pa_cons (pv 4) (pa_cons (pv 3) pa_nil)))) pe_bl rfl)) pss_nil)))
 (pss_one (ps_ret (pe_tup (pa_cons (pe_callTy (r := rTupU _) call_tupleU rfl T.f_tuple b_tuple (pa_cons (pe_callB (r := rSortedS _) cr_sortedS rfl T.f_sorted b_sorted (pa_cons (pv 0) pa_nil)) pa_nil)) (pa_cons (pe_callTy (r := rTupU _) call_tupleU rfl T.f_tuple b_tuple (pa_cons (pe_callB (r := rSortDT _) (call_sortedDT rfl) rfl T.f_sorted b_sorted (pa_cons (pv 2) pa_nil)) pa_nil)) pa_nil)))))))
def t_u_law_small (K : PySem.W.Frag) : TS := (tSeq (tAsg (tCall (sp_u_law_names K) [] E0 (tCons (tVar 0) (tCons (tC (.int 0)) (tCons (tOp (rAddU K) (tC (.int 1)) (tOp rModU (tOp rDivU (tOp (rIx K) (tVar 0) (tC (.int 0))) (tC (.int 7))) (tC (.int 8)))) tNil)))) (gName 1))
 (tSeq (tAsg (tLst tNil) (gName 2))
 (tSeq (tFor (iRng1 (tCons (tOp rModU (tOp (rIx K) (tVar 0) (tC (.int 1))) (tC (.int 30))) tNil)) (gName 3) (tSeq (tAsg (tOp (rAddU K) (tVar 1) (tLst (tCons (tC (.str "E")) (tCons (tC (.str "N")) (tCons (tC (.str "W")) (tCons (tC (.str "S")) tNil)))))) (gName 4))
 (tDrop (tBM K "list" rAppend (tVar 2) (tCons (tTup (tCons (tOp (rIx K) (tVar 1) (tOp rModU (tOp (rIx K) (tVar 0) (tOp (rAddU K) (tC (.int 10)) (tVar 3))) (tCB (rLen K) (tCons (tVar 1) tNil)))) (tCons (tOp (rIx K) (tVar 4) (tOp rModU (tOp rDivU (tOp (rIx K) (tVar 0) (tOp (rAddU K) (tC (.int 10)) (tVar 3))) (tC (.int 9))) (tCB (rLen K) (tCons (tVar 4) tNil)))) tNil))) tNil)))))
 (tRet (tCall (sp_u_law_scheme K) [] E0 (tCons (tVar 1) (tCons (tVar 2) tNil)))))))
theorem dv_u_law_small (T : Txt K mg) (O_u_law_names : Okd P w K mg base CX0 1 "_law_names" ["pool", "begin", "many"] (sp_u_law_names K)) (O_u_law_scheme : Okd P w K mg base CX0 1 "_law_scheme" ["rooms", "touches"] (sp_u_law_scheme K)) {f : Addr} (cdv : Value) (A : Around) (outer : List PySem.Env) (s : Shared) (H : Hp) (E : XK) (hr : Room 1 (A.deeper (envOfC "_law_small" (defScope s_u_law_small) s.heap.objs.size f cdv))) :
    PSs (cxOf CX0 P w K mg base N_u_law_small "_law_small" (defScope s_u_law_small) f cdv A outer s H E) (defBody s_u_law_small) (t_u_law_small K) := by
  have sc := sc_u_law_small
  have pa : PassesOwn (model P w) (cxOf CX0 P w K mg base N_u_law_small "_law_small" (defScope s_u_law_small) f cdv A outer s H E).A (cxOf CX0 P w K mg base N_u_law_small "_law_small" (defScope s_u_law_small) f cdv A outer s H E).env (cxOf CX0 P w K mg base N_u_law_small "_law_small" (defScope s_u_law_small) f cdv A outer s H E).xe := passes_of rfl
  exact (pss_cons (ps_set (i := 1) sc.nd rfl (by first | exact Or.inl rfl | exact Or.inr rfl) (pe_callD O_u_law_names hr (by decide) (pa_cons (pv 0) (pa_cons pe_int (pa_cons (pe_op op_addU pe_int (pe_op op_mod (pe_op op_fdiv (pe_ix ix_seq (pv 0) pe_int (fun _ _ => rfl)) pe_int) pe_int)) pa_nil)))))
 (pss_cons (ps_set (i := 2) sc.nd rfl (by first | exact Or.inl rfl | exact Or.inr rfl) (pe_lst pa_nil))
 (pss_cons (ps_for pa rfl (pi_range1 rfl T.f_range (pa_cons (pe_op op_mod (pe_ix ix_seq (pv 0) pe_int (fun _ _ => rfl)) pe_int) pa_nil)) (pg_name (i := 3) sc.nd rfl (by first | exact Or.inl rfl | exact Or.inr rfl)) (pss_cons (ps_set (i := 4) sc.nd rfl (by first | exact Or.inl rfl | exact Or.inr rfl) (pe_op op_addU (pv 1) (pe_lst (pa_cons pe_str (pa_cons pe_str (pa_cons pe_str (pa_cons pe_str pa_nil)))))))
 (pss_one (ps_expr (pe_bm PySem.F.plainAttrs_list PySem.F.slot_list_append PySem.F.type_list_append mt_append (pv 2) (pa_cons (pe_tup (pa_cons (pe_ix ix_seq (pv 1) (pe_op op_mod (pe_ix ix_seq (pv 0) (pe_op op_addU pe_int (pv 3)) (fun _ _ => rfl)) (pe_callB (r := rLen _) call_len rfl T.f_len b_len (pa_cons (pv 1) pa_nil))) (fun _ _ => rfl)) (pa_cons (pe_ix ix_seq (pv 4) (pe_op op_mod (pe_op op_fdiv (pe_ix ix_seq (pv 0) (pe_op op_addU pe_int (pv 3)) (fun _ _ => rfl)) pe_int) (pe_callB (r := rLen _) call_len rfl T.f_len b_len (pa_cons (pv 4) pa_nil))) (fun _ _ => rfl)) pa_nil))) pa_nil))))))
 (pss_one (ps_ret (pe_callD O_u_law_scheme hr (by decide) (pa_cons (pv 1) (pa_cons (pv 2) pa_nil))))))))
def t_u_law_wide (K : PySem.W.Frag) : TS := (tSeq (tAsg (tCall (sp_u_law_names K) [] E0 (tCons (tVar 0) (tCons (tC (.int 50)) (tCons (tC (.int 40)) tNil)))) (gName 1))
 (tSeq (tAsg (tOp rModU (tOp (rIx K) (tVar 0) (tC (.int 2))) (tC (.int 41))) (gName 2))
 (tSeq (tAsg (tLc (iRng1 (tCons (tC (.int 39)) tNil)) (gName 4) (tTest (tOp (rNeU K) (tOp (rAddU K) (tVar 4) (tC (.int 1))) (tVar 2))) (tTup (tCons (tOp (rIx K) (tVar 1) (tVar 4)) (tCons (tOp (rIx K) (tVar 1) (tOp (rAddU K) (tVar 4) (tC (.int 1)))) tNil))) [4]) (gName 3))
 (tSeq (tIfS (tAnd (tTest (tOp rGtU (tVar 2) (tC (.int 0)))) (tTest (tOp rGtU (tOp rModU (tOp (rIx K) (tVar 0) (tC (.int 3))) (tC (.int 3))) (tC (.int 0))))) (tDrop (tBM K "list" rAppend (tVar 3) (tCons (tTup (tCons (tOp (rIx K) (tVar 1) (tOp rSubU (tVar 2) (tC (.int 1)))) (tCons (tOp (rIx K) (tC (.str "ENWS")) (tOp rModU (tOp (rIx K) (tVar 0) (tC (.int 4))) (tC (.int 4)))) tNil))) tNil))) tNext)
 (tSeq (tIfS (tAnd (tTest (tOp rLtU (tVar 2) (tC (.int 40)))) (tTest (tOp (rEqU K) (tOp rModU (tOp rDivU (tOp (rIx K) (tVar 0) (tC (.int 3))) (tC (.int 3))) (tC (.int 3))) (tC (.int 0))))) (tDrop (tBM K "list" rAppend (tVar 3) (tCons (tTup (tCons (tOp (rIx K) (tVar 1) (tC (.int 39))) (tCons (tOp (rIx K) (tC (.str "ENWS")) (tOp rModU (tOp rDivU (tOp (rIx K) (tVar 0) (tC (.int 4))) (tC (.int 4))) (tC (.int 4)))) tNil))) tNil))) tNext)
 (tSeq (tIfS (tTest (tOp (rEqU K) (tOp rModU (tOp (rIx K) (tVar 0) (tC (.int 5))) (tC (.int 3))) (tC (.int 0)))) (tFor (iRng1 (tCons (tOp rModU (tOp rDivU (tOp (rIx K) (tVar 0) (tC (.int 5))) (tC (.int 3))) (tC (.int 40))) tNil)) (gName 4) (tDrop (tBM K "list" rAppend (tVar 3) (tCons (tTup (tCons (tOp (rIx K) (tVar 1) (tOp rModU (tOp (rIx K) (tVar 0) (tOp (rAddU K) (tC (.int 90)) (tVar 4))) (tC (.int 40)))) (tCons (tOp (rIx K) (tVar 1) (tOp rModU (tOp rDivU (tOp (rIx K) (tVar 0) (tOp (rAddU K) (tC (.int 90)) (tVar 4))) (tC (.int 40))) (tC (.int 40)))) tNil))) tNil)))) tNext)
 (tRet (tCall (sp_u_law_scheme K) [] E0 (tCons (tVar 1) (tCons (tVar 3) tNil))))))))))
theorem dv_u_law_wide (T : Txt K mg) (O_u_law_names : Okd P w K mg base CX0 1 "_law_names" ["pool", "begin", "many"] (sp_u_law_names K)) (O_u_law_scheme : Okd P w K mg base CX0 1 "_law_scheme" ["rooms", "touches"] (sp_u_law_scheme K)) {f : Addr} (cdv : Value) (A : Around) (outer : List PySem.Env) (s : Shared) (H : Hp) (E : XK) (hr : Room 1 (A.deeper (envOfC "_law_wide" (defScope s_u_law_wide) s.heap.objs.size f cdv))) :
    PSs (cxOf CX0 P w K mg base N_u_law_wide "_law_wide" (defScope s_u_law_wide) f cdv A outer s H E) (defBody s_u_law_wide) (t_u_law_wide K) := by
  have sc := sc_u_law_wide
  have pa : PassesOwn (model P w) (cxOf CX0 P w K mg base N_u_law_wide "_law_wide" (defScope s_u_law_wide) f cdv A outer s H E).A (cxOf CX0 P w K mg base N_u_law_wide "_law_wide" (defScope s_u_law_wide) f cdv A outer s H E).env (cxOf CX0 P w K mg base N_u_law_wide "_law_wide" (defScope s_u_law_wide) f cdv A outer s H E).xe := passes_of rfl
  exact (pss_cons (ps_set (i := 1) sc.nd rfl (by first | exact Or.inl rfl | exact Or.inr rfl) (pe_callD O_u_law_names hr (by decide) (pa_cons (pv 0) (pa_cons pe_int (pa_cons pe_int pa_nil)))))
 (pss_cons (ps_set (i := 2) sc.nd rfl (by first | exact Or.inl rfl | exact Or.inr rfl) (pe_op op_mod (pe_ix ix_seq (pv 0) pe_int (fun _ _ => rfl)) pe_int))
 (pss_cons (ps_setLc (i := 3) (own := [("k", 4)]) (g := (gName 4)) (tt := (tTest (tOp (rNeU K) (tOp (rAddU K) (tVar 4) (tC (.int 1))) (tVar 2)))) rfl sc.nd rfl rfl (sw_true rfl rfl rfl (by decide +kernel)) (pi_range1 rfl T.f_range (pa_cons pe_int pa_nil)) (blkOk_by (own := [("k", 4)]) (N := N_u_law_wide) (sc := defScope s_u_law_wide) (by decide +kernel)) (fun _ _ _ _ _ => (pg_name (i := 4) sc.nd rfl (by first | exact Or.inl rfl | exact Or.inr rfl))) (fun _ _ _ _ _ => (pts_one (pt_cmpR (op_neU hr.units) (pe_op op_addU (pv 4) pe_int) (pv 2) (nomark _)))) (fun _ _ _ _ _ => (pe_tup (pa_cons (pe_ix ix_seq (pv 1) (pv 4) (fun _ _ => rfl)) (pa_cons (pe_ix ix_seq (pv 1) (pe_op op_addU (pv 4) pe_int) (fun _ _ => rfl)) pa_nil)))))
 (pss_cons (ps_if (PW.pt (pw_and (pt_cmpR op_gtU (pv 2) pe_int (nomark _)) (pw_and1 (pt_cmpR op_gtU (pe_op op_mod (pe_ix ix_seq (pv 0) pe_int (fun _ _ => rfl)) pe_int) pe_int (nomark _))))) (pss_one (ps_expr (pe_bm PySem.F.plainAttrs_list PySem.F.slot_list_append PySem.F.type_list_append mt_append (pv 3) (pa_cons (pe_tup (pa_cons (pe_ix ix_seq (pv 1) (pe_op op_sub (pv 2) pe_int) (fun _ _ => rfl)) (pa_cons (pe_ix ix_seq pe_str (pe_op op_mod (pe_ix ix_seq (pv 0) pe_int (fun _ _ => rfl)) pe_int) (fun _ _ => rfl)) pa_nil))) pa_nil)))) pss_nil)
 (pss_cons (ps_if (PW.pt (pw_and (pt_cmpR op_ltU (pv 2) pe_int (nomark _)) (pw_and1 (pt_cmpR (op_eqU hr.units) (pe_op op_mod (pe_op op_fdiv (pe_ix ix_seq (pv 0) pe_int (fun _ _ => rfl)) pe_int) pe_int) pe_int (nomark _))))) (pss_one (ps_expr (pe_bm PySem.F.plainAttrs_list PySem.F.slot_list_append PySem.F.type_list_append mt_append (pv 3) (pa_cons (pe_tup (pa_cons (pe_ix ix_seq (pv 1) pe_int (fun _ _ => rfl)) (pa_cons (pe_ix ix_seq pe_str (pe_op op_mod (pe_op op_fdiv (pe_ix ix_seq (pv 0) pe_int (fun _ _ => rfl)) pe_int) pe_int) (fun _ _ => rfl)) pa_nil))) pa_nil)))) pss_nil)
 (pss_cons (ps_if (pt_cmpR (op_eqU hr.units) (pe_op op_mod (pe_ix ix_seq (pv 0) pe_int (fun _ _ => rfl)) pe_int) pe_int (nomark _)) (pss_one (ps_for pa rfl (pi_range1 rfl T.f_range (pa_cons (pe_op op_mod (pe_op op_fdiv (pe_ix ix_seq (pv 0) pe_int (fun _ _ => rfl)) pe_int) pe_int) pa_nil)) (pg_name (i := 4) sc.nd rfl (by first | exact Or.inl rfl | exact Or.inr rfl)) (pss_one (ps_expr (pe_bm PySem.F.plainAttrs_list PySem.F.slot_list_append PySem.F.type_list_append mt_append (pv 3) (pa_cons (pe_tup (pa_cons (pe_ix ix_seq (pv 1) (pe_op op_mod (pe_ix ix_seq (pv 0) (pe_op op_addU pe_int (pv 4)) (fun _ _ => rfl)) pe_int) (fun _ _ => rfl)) (pa_cons (pe_ix ix_seq (pv 1) (pe_op op_mod (pe_op op_fdiv (pe_ix ix_seq (pv 0) (pe_op op_addU pe_int (pv 4)) (fun _ _ => rfl)) pe_int) pe_int) (fun _ _ => rfl)) pa_nil))) pa_nil)))))) pss_nil)
 (pss_one (ps_ret (pe_callD O_u_law_scheme hr (by decide) (pa_cons (pv 1) (pa_cons (pv 3) pa_nil)))))))))))
def t_u_law_near (K : PySem.W.Frag) : TS := (tSeq (tAsg tDNewK (gName 1))
 (tSeq (tFor (iSeqU K (tOp (rAddU K) (tLst (tCons (tC (.str "E")) (tCons (tC (.str "N")) (tCons (tC (.str "S")) (tCons (tC (.str "W")) tNil))))) (tCB (rListU K) (tCons (tOp (rIx K) (tVar 0) (tC (.int 0))) tNil)))) (gName 2) (sDPut (tVar 1) (tVar 2) (tLst tNil)))
 (tSeq (tFor (iSeqU K (tOp (rAddU K) (tCB (rListU K) (tCons (tOp (rIx K) (tVar 0) (tC (.int 1))) tNil)) (tLst (tCons (tTup (tCons (tC (.str "E")) (tCons (tC (.str "N")) tNil))) (tCons (tTup (tCons (tC (.str "N")) (tCons (tC (.str "W")) tNil))) (tCons (tTup (tCons (tC (.str "S")) (tCons (tC (.str "W")) tNil))) (tCons (tTup (tCons (tC (.str "E")) (tCons (tC (.str "S")) tNil))) tNil))))))) (gTup K 2 (gCons (gName 3) (gCons (gName 4) gNil))) (tSeq (tDrop (tBM K "list" rAppend (tDGet (tVar 1) (tVar 3)) (tCons (tVar 4) tNil)))
 (tDrop (tBM K "list" rAppend (tDGet (tVar 1) (tVar 4)) (tCons (tVar 3) tNil)))))
 (tRet (tVar 1)))))
theorem dv_u_law_near (T : Txt K mg)  {f : Addr} (cdv : Value) (A : Around) (outer : List PySem.Env) (s : Shared) (H : Hp) (E : XK) (hr : Room 0 (A.deeper (envOfC "_law_near" (defScope s_u_law_near) s.heap.objs.size f cdv))) :
    PSs (cxOf CX0 P w K mg base N_u_law_near "_law_near" (defScope s_u_law_near) f cdv A outer s H E) (defBody s_u_law_near) (t_u_law_near K) := by
  have sc := sc_u_law_near
  have pa : PassesOwn (model P w) (cxOf CX0 P w K mg base N_u_law_near "_law_near" (defScope s_u_law_near) f cdv A outer s H E).A (cxOf CX0 P w K mg base N_u_law_near "_law_near" (defScope s_u_law_near) f cdv A outer s H E).env (cxOf CX0 P w K mg base N_u_law_near "_law_near" (defScope s_u_law_near) f cdv A outer s H E).xe := passes_of rfl
  exact (pss_cons (ps_set (i := 1) sc.nd rfl (by first | exact Or.inl rfl | exact Or.inr rfl) pe_dnewK)
 (pss_cons (ps_for pa rfl (pi_seqU (pe_op op_addU (pe_lst (pa_cons pe_str (pa_cons pe_str (pa_cons pe_str (pa_cons pe_str pa_nil))))) (pe_callTy (r := rListU _) call_listU rfl T.f_list b_list (pa_cons (pe_ix ix_seq (pv 0) pe_int (fun _ _ => rfl)) pa_nil)))) (pg_name (i := 2) sc.nd rfl (by first | exact Or.inl rfl | exact Or.inr rfl)) (pss_one (ps_dput (hu_of hr) (pv 1) (pv 2) (pe_lst pa_nil) rfl)))
 (pss_cons (ps_for pa rfl (pi_seqU (pe_op op_addU (pe_callTy (r := rListU _) call_listU rfl T.f_list b_list (pa_cons (pe_ix ix_seq (pv 0) pe_int (fun _ _ => rfl)) pa_nil)) (pe_lst (pa_cons (pe_tup (pa_cons pe_str (pa_cons pe_str pa_nil))) (pa_cons (pe_tup (pa_cons pe_str (pa_cons pe_str pa_nil))) (pa_cons (pe_tup (pa_cons pe_str (pa_cons pe_str pa_nil))) (pa_cons (pe_tup (pa_cons pe_str (pa_cons pe_str pa_nil))) pa_nil))))))) (pg_tup rfl (pgs_cons (pg_name (i := 3) sc.nd rfl (by first | exact Or.inl rfl | exact Or.inr rfl)) (pgs_cons (pg_name (i := 4) sc.nd rfl (by first | exact Or.inl rfl | exact Or.inr rfl)) pgs_nil))) (pss_cons (ps_expr (pe_bm PySem.F.plainAttrs_list PySem.F.slot_list_append PySem.F.type_list_append mt_append (pe_dget (hu_of hr) (pv 1) (pv 3) (fun _ _ => rfl)) (pa_cons (pv 4) pa_nil)))
 (pss_one (ps_expr (pe_bm PySem.F.plainAttrs_list PySem.F.slot_list_append PySem.F.type_list_append mt_append (pe_dget (hu_of hr) (pv 1) (pv 4) (fun _ _ => rfl)) (pa_cons (pv 3) pa_nil))))))
 (pss_one (ps_ret (pv 1))))))
def t_u_law_hangs (K : PySem.W.Frag) : TS := (tSeq (tAsg (tLc (iSeqU K (tVar 1)) (gName 3) (tOr (tTest (tOp (rInU K) (tC (.str "E")) (tDGet (tVar 0) (tVar 3)))) (tOr (tTest (tOp (rInU K) (tC (.str "N")) (tDGet (tVar 0) (tVar 3)))) (tOr (tTest (tOp (rInU K) (tC (.str "W")) (tDGet (tVar 0) (tVar 3)))) (tTest (tOp (rInU K) (tC (.str "S")) (tDGet (tVar 0) (tVar 3))))))) (tVar 3) [3]) (gName 2))
 (tSeq (tFor (iRng1 (tCons (tCB (rLen K) (tCons (tVar 1) tNil)) tNil)) (gName 4) (tIfS (tTest (tOp rLtU (tVar 4) (tCB (rLen K) (tCons (tVar 2) tNil)))) (tFor (iSeqU K (tDGet (tVar 0) (tOp (rIx K) (tVar 2) (tVar 4)))) (gName 5) (tIfS (tAnd (tTest (tOp (rInU K) (tVar 5) (tVar 1))) (tTest (tOp (rNinU K) (tVar 5) (tVar 2)))) (tDrop (tBM K "list" rAppend (tVar 2) (tCons (tVar 5) tNil))) tNext)) tNext))
 (tRet (tCB (rTupU K) (tCons (tCB (rSortedS K) (tCons (tVar 2) tNil)) tNil)))))
theorem dv_u_law_hangs (T : Txt K mg)  {f : Addr} (cdv : Value) (A : Around) (outer : List PySem.Env) (s : Shared) (H : Hp) (E : XK) (hr : Room 0 (A.deeper (envOfC "_law_hangs" (defScope s_u_law_hangs) s.heap.objs.size f cdv))) :
    PSs (cxOf CX0 P w K mg base N_u_law_hangs "_law_hangs" (defScope s_u_law_hangs) f cdv A outer s H E) (defBody s_u_law_hangs) (t_u_law_hangs K) := by
  have sc := sc_u_law_hangs
  have pa : PassesOwn (model P w) (cxOf CX0 P w K mg base N_u_law_hangs "_law_hangs" (defScope s_u_law_hangs) f cdv A outer s H E).A (cxOf CX0 P w K mg base N_u_law_hangs "_law_hangs" (defScope s_u_law_hangs) f cdv A outer s H E).env (cxOf CX0 P w K mg base N_u_law_hangs "_law_hangs" (defScope s_u_law_hangs) f cdv A outer s H E).xe := passes_of rfl
  exact (pss_cons (ps_setLc (i := 2) (own := [("room", 3)]) (g := (gName 3)) (tt := (tOr (tTest (tOp (rInU K) (tC (.str "E")) (tDGet (tVar 0) (tVar 3)))) (tOr (tTest (tOp (rInU K) (tC (.str "N")) (tDGet (tVar 0) (tVar 3)))) (tOr (tTest (tOp (rInU K) (tC (.str "W")) (tDGet (tVar 0) (tVar 3)))) (tTest (tOp (rInU K) (tC (.str "S")) (tDGet (tVar 0) (tVar 3)))))))) rfl sc.nd rfl rfl (sw_true rfl rfl rfl (by decide +kernel)) (pi_seqU (pv 1)) (blkOk_by (own := [("room", 3)]) (N := N_u_law_hangs) (sc := defScope s_u_law_hangs) (by decide +kernel)) (fun _ _ _ _ _ => (pg_name (i := 3) sc.nd rfl (by first | exact Or.inl rfl | exact Or.inr rfl))) (fun _ _ _ _ _ => (pts_one (PW.pt (pw_or (pt_cmpR op_inU pe_str (pe_dget (hu_of hr) (pv 0) (pv 3) (fun _ _ => rfl)) rfl) (pw_or (pt_cmpR op_inU pe_str (pe_dget (hu_of hr) (pv 0) (pv 3) (fun _ _ => rfl)) rfl) (pw_or (pt_cmpR op_inU pe_str (pe_dget (hu_of hr) (pv 0) (pv 3) (fun _ _ => rfl)) rfl) (pw_or1 (pt_cmpR op_inU pe_str (pe_dget (hu_of hr) (pv 0) (pv 3) (fun _ _ => rfl)) rfl)))))))) (fun _ _ _ _ _ => (pv 3)))
 (pss_cons (ps_for pa rfl (pi_range1 rfl T.f_range (pa_cons (pe_callB (r := rLen _) call_len rfl T.f_len b_len (pa_cons (pv 1) pa_nil)) pa_nil)) (pg_name (i := 4) sc.nd rfl (by first | exact Or.inl rfl | exact Or.inr rfl)) (pss_one (ps_if (pt_cmpR op_ltU (pv 4) (pe_callB (r := rLen _) call_len rfl T.f_len b_len (pa_cons (pv 2) pa_nil)) (nomark _)) (pss_one (ps_for pa rfl (pi_seqU (pe_dget (hu_of hr) (pv 0) (pe_ix ix_seq (pv 2) (pv 4) (fun _ _ => rfl)) (fun _ _ => rfl))) (pg_name (i := 5) sc.nd rfl (by first | exact Or.inl rfl | exact Or.inr rfl)) (pss_one (ps_if (PW.pt (pw_and (pt_cmpR op_inU (pv 5) (pv 1) rfl) (pw_and1 (pt_cmpR op_ninU (pv 5) (pv 2) rfl)))) (pss_one (ps_expr (pe_bm PySem.F.plainAttrs_list PySem.F.slot_list_append PySem.F.type_list_append mt_append (pv 2) (pa_cons (pv 5) pa_nil)))) pss_nil)))) pss_nil)))
 (pss_one (ps_ret (pe_callTy (r := rTupU _) call_tupleU rfl T.f_tuple b_tuple (pa_cons (pe_callB (r := rSortedS _) cr_sortedS rfl T.f_sorted b_sorted (pa_cons (pv 2) pa_nil)) pa_nil))))))
def t_u_law_same (K : PySem.W.Frag) (sp : Sp) : TS := (tSeq (tIfS (tOr (tNot (tTr K (tCB (rIsi K) (tCons (tVar 0) (tCons (tC (.ty "tuple")) tNil))))) (tTest (tOp (rNeU K) (tCB (rLen K) (tCons (tVar 0) tNil)) (tCB (rLen K) (tCons (tVar 1) tNil))))) (tRet (tC (.bl false))) tNext)
 (tSeq (tFor (iRng1 (tCons (tCB (rLen K) (tCons (tVar 1) tNil)) tNil)) (gName 2) (tIfS (tTr K (tCB (rIsi K) (tCons (tOp (rIx K) (tVar 1) (tVar 2)) (tCons (tC (.ty "tuple")) tNil)))) (tIfS (tNot (tTr K (tCall sp [] E0 (tCons (tOp (rIx K) (tVar 0) (tVar 2)) (tCons (tOp (rIx K) (tVar 1) (tVar 2)) tNil))))) (tRet (tC (.bl false))) tNext) (tIfS (tOr (tNot (tTr K (tCB (rIsi K) (tCons (tOp (rIx K) (tVar 0) (tVar 2)) (tCons (tC (.ty "str")) tNil))))) (tTest (tOp (rNeU K) (tOp (rIx K) (tVar 0) (tVar 2)) (tOp (rIx K) (tVar 1) (tVar 2))))) (tRet (tC (.bl false))) tNext)))
 (tRet (tC (.bl true)))))
theorem dv_u_law_same {k : Nat} {sp : Sp} (T : Txt K mg) (O_u_law_same : Okd P w K mg base CX0 k "_law_same" ["told", "due"] sp) {f : Addr} (cdv : Value) (A : Around) (outer : List PySem.Env) (s : Shared) (H : Hp) (E : XK) (hr : Room k (A.deeper (envOfC "_law_same" (defScope s_u_law_same) s.heap.objs.size f cdv))) :
    PSs (cxOf CX0 P w K mg base N_u_law_same "_law_same" (defScope s_u_law_same) f cdv A outer s H E) (defBody s_u_law_same) (t_u_law_same K sp) := by
  have sc := sc_u_law_same
  have pa : PassesOwn (model P w) (cxOf CX0 P w K mg base N_u_law_same "_law_same" (defScope s_u_law_same) f cdv A outer s H E).A (cxOf CX0 P w K mg base N_u_law_same "_law_same" (defScope s_u_law_same) f cdv A outer s H E).env (cxOf CX0 P w K mg base N_u_law_same "_law_same" (defScope s_u_law_same) f cdv A outer s H E).xe := passes_of rfl
  exact (pss_cons (ps_if (PW.pt (pw_or (pt_not (pt_tr (pe_callB (r := rIsi _) call_isi rfl T.f_isinstance b_isinstance (pa_cons (pv 0) (pa_cons (pe_bltn (v := .ty "tuple") rfl T.f_tuple b_tuple rfl) pa_nil))))) (pw_or1 (pt_cmpR (op_neU hr.units) (pe_callB (r := rLen _) call_len rfl T.f_len b_len (pa_cons (pv 0) pa_nil)) (pe_callB (r := rLen _) call_len rfl T.f_len b_len (pa_cons (pv 1) pa_nil)) (nomark _))))) (pss_one (ps_ret pe_bl)) pss_nil)
 (pss_cons (ps_for pa rfl (pi_range1 rfl T.f_range (pa_cons (pe_callB (r := rLen _) call_len rfl T.f_len b_len (pa_cons (pv 1) pa_nil)) pa_nil)) (pg_name (i := 2) sc.nd rfl (by first | exact Or.inl rfl | exact Or.inr rfl)) (pss_one (ps_if (pt_tr (pe_callB (r := rIsi _) call_isi rfl T.f_isinstance b_isinstance (pa_cons (pe_ix ix_seq (pv 1) (pv 2) (fun _ _ => rfl)) (pa_cons (pe_bltn (v := .ty "tuple") rfl T.f_tuple b_tuple rfl) pa_nil)))) (pss_one (ps_if (pt_not (pt_tr (pe_callD O_u_law_same hr (Nat.le_refl _) (pa_cons (pe_ix ix_seq (pv 0) (pv 2) (fun _ _ => rfl)) (pa_cons (pe_ix ix_seq (pv 1) (pv 2) (fun _ _ => rfl)) pa_nil))))) (pss_one (ps_ret pe_bl)) pss_nil)) (pss_one (ps_if (PW.pt (pw_or (pt_not (pt_tr (pe_callB (r := rIsi _) call_isi rfl T.f_isinstance b_isinstance (pa_cons (pe_ix ix_seq (pv 0) (pv 2) (fun _ _ => rfl)) (pa_cons (pe_bltn (v := .ty "str") rfl T.f_str b_str rfl) pa_nil))))) (pw_or1 (pt_cmpR (op_neU hr.units) (pe_ix ix_seq (pv 0) (pv 2) (fun _ _ => rfl)) (pe_ix ix_seq (pv 1) (pv 2) (fun _ _ => rfl)) (nomark _))))) (pss_one (ps_ret pe_bl)) pss_nil)))))
 (pss_one (ps_ret pe_bl))))
def t_u_law_right (K : PySem.W.Frag) : TS := (tSeq (tAsg (tCall (sp_are_neighbours K) [] E0 (tCons (tVar 0) (tCons (tVar 2) (tCons (tVar 3) tNil)))) (gName 4))
 (tSeq (tIfS (tOr (tNot (tTr K (tCB (rIsi K) (tCons (tVar 4) (tCons (tC (.ty "bool")) tNil))))) (tTest (tOp (rNeU K) (tVar 4) (tOp (rInU K) (tVar 3) (tDGet (tVar 1) (tVar 2)))))) (tRet (tC (.bl false))) tNext)
 (tSeq (tIfS (tTest (tOp (rEqU K) (tVar 2) (tVar 3))) (tRet (tC (.bl true))) tNext)
 (tSeq (tAsg (tCB (rTupU K) (tCons (tCB (rSortedS K) (tCons (tLc (iSeqU K (tDGet (tVar 1) (tVar 2))) (gName 6) (tTest (tOp (rInU K) (tVar 6) (tDGet (tVar 1) (tVar 3)))) (tVar 6) [6]) tNil)) tNil)) (gName 5))
 (tRet (tCall (sp_u_law_same K) [] E0 (tCons (tCall (sp_common_neighbours K) [] E0 (tCons (tVar 0) (tCons (tVar 2) (tCons (tVar 3) tNil)))) (tCons (tVar 5) tNil))))))))
theorem dv_u_law_right (T : Txt K mg) (O_are_neighbours : Okd P w K mg base CX0 4 "are_neighbours" ["scheme", "one", "other"] (sp_are_neighbours K)) (O_u_law_same : Okd P w K mg base CX0 2 "_law_same" ["told", "due"] (sp_u_law_same K)) (O_common_neighbours : Okd P w K mg base CX0 4 "common_neighbours" ["scheme", "one", "other"] (sp_common_neighbours K)) {f : Addr} (cdv : Value) (A : Around) (outer : List PySem.Env) (s : Shared) (H : Hp) (E : XK) (hr : Room 4 (A.deeper (envOfC "_law_right" (defScope s_u_law_right) s.heap.objs.size f cdv))) :
    PSs (cxOf CX0 P w K mg base N_u_law_right "_law_right" (defScope s_u_law_right) f cdv A outer s H E) (defBody s_u_law_right) (t_u_law_right K) := by
  have sc := sc_u_law_right
  exact (pss_cons (ps_set (i := 4) sc.nd rfl (by first | exact Or.inl rfl | exact Or.inr rfl) (pe_callD O_are_neighbours hr (by decide) (pa_cons (pv 0) (pa_cons (pv 2) (pa_cons (pv 3) pa_nil)))))
 (pss_cons (ps_if (PW.pt (pw_or (pt_not (pt_tr (pe_callB (r := rIsi _) call_isi rfl T.f_isinstance b_isinstance (pa_cons (pv 4) (pa_cons (pe_bltn (v := .ty "bool") rfl T.f_bool b_bool rfl) pa_nil))))) (pw_or1 (pt_cmpR (op_neU hr.units) (pv 4) (pe_cmpR op_inU (pv 3) (pe_dget (hu_of hr) (pv 1) (pv 2) (fun _ _ => rfl)) rfl) (nomark _))))) (pss_one (ps_ret pe_bl)) pss_nil)
 (pss_cons (ps_if (pt_cmpR (op_eqU hr.units) (pv 2) (pv 3) (nomark _)) (pss_one (ps_ret pe_bl)) pss_nil)
 (pss_cons (ps_set (i := 5) sc.nd rfl (by first | exact Or.inl rfl | exact Or.inr rfl) (pe_callTy (r := rTupU _) call_tupleU rfl T.f_tuple b_tuple (pa_cons (pe_callB (r := rSortedS _) cr_sortedS rfl T.f_sorted b_sorted (pa_cons (pe_lc (own := [("name", 6)]) (g := (gName 6)) (tt := (tTest (tOp (rInU K) (tVar 6) (tDGet (tVar 1) (tVar 3))))) rfl sc.nd (pi_seqU (pe_dget (hu_of hr) (pv 1) (pv 2) (fun _ _ => rfl))) (blkOk_by (own := [("name", 6)]) (N := N_u_law_right) (sc := defScope s_u_law_right) (by decide +kernel)) (fun _ _ _ _ _ => (pg_name (i := 6) sc.nd rfl (by first | exact Or.inl rfl | exact Or.inr rfl))) (fun _ _ _ _ _ => (pts_one (pt_cmpR op_inU (pv 6) (pe_dget (hu_of hr) (pv 1) (pv 3) (fun _ _ => rfl)) rfl))) (fun _ _ _ _ _ => (pv 6))) pa_nil)) pa_nil)))
 (pss_one (ps_ret (pe_callD O_u_law_same hr (by decide) (pa_cons (pe_callD O_common_neighbours hr (by decide) (pa_cons (pv 0) (pa_cons (pv 2) (pa_cons (pv 3) pa_nil)))) (pa_cons (pv 5) pa_nil)))))))))
def t_law (K : PySem.W.Frag) : TS := (tSeq (tAsg (tCall (sp_u_law_pool K) [] E0 (tCons (tVar 0) (tCons (tC (.int 200)) tNil))) (gName 1))
 (tSeq (tFor (iRng1 (tCons (tC (.int 2)) tNil)) (gName 2) (tSeq (tAsg (tIf (tTest (tOp (rEqU K) (tVar 2) (tC (.int 0)))) (tCall (sp_u_law_small K) [] E0 (tCons (tVar 1) tNil)) (tCall (sp_u_law_wide K) [] E0 (tCons (tVar 1) tNil))) (gName 3))
 (tSeq (tAsg (tCall (sp_u_law_near K) [] E0 (tCons (tVar 3) tNil)) (gName 4))
 (tSeq (tAsg (tOp (rAddU K) (tCB (rListU K) (tCons (tOp (rIx K) (tVar 3) (tC (.int 0))) tNil)) (tLst (tCons (tC (.str "E")) (tCons (tC (.str "N")) (tCons (tC (.str "W")) (tCons (tC (.str "S")) tNil)))))) (gName 5))
 (tSeq (tAsg (tLc (iSeqU K (tOp (rIx K) (tVar 3) (tC (.int 1)))) (gName 7) (tTest (tOp (rInU K) (tOp (rIx K) (tVar 7) (tC (.int 0))) (tOp (rIx K) (tVar 3) (tC (.int 0))))) (tVar 7) [7]) (gName 6))
 (tSeq (tIfS (tNot (tTr K (tCall (sp_u_law_same K) [] E0 (tCons (tCall (sp_room_pairs K) [] E0 (tCons (tVar 3) tNil)) (tCons (tCB (rTupU K) (tCons (tVar 6) tNil)) tNil))))) (tRet (tC (.bl false))) tNext)
 (tSeq (tIfS (tNot (tTr K (tCall (sp_u_law_same K) [] E0 (tCons (tCall (sp_hanging_rooms K) [] E0 (tCons (tVar 3) tNil)) (tCons (tCall (sp_u_law_hangs K) [] E0 (tCons (tVar 4) (tCons (tOp (rIx K) (tVar 3) (tC (.int 0))) tNil))) tNil))))) (tRet (tC (.bl false))) tNext)
 (tSeq (tFor (iSeqU K (tVar 5)) (gName 8) (tIfS (tNot (tTr K (tCall (sp_u_law_same K) [] E0 (tCons (tCall (sp_neighbours_of K) [] E0 (tCons (tVar 3) (tCons (tVar 8) tNil))) (tCons (tCB (rTupU K) (tCons (tCB (rSortedS K) (tCons (tDGet (tVar 4) (tVar 8)) tNil)) tNil)) tNil))))) (tRet (tC (.bl false))) tNext))
 (tSeq (tAsg (tOp (rAddU K) (tLc (iSeqU K (tOp (rIx K) (tVar 3) (tC (.int 1)))) (gTup K 2 (gCons (gName 10) (gCons (gName 11) gNil))) tYes (tTup (tCons (tVar 10) (tCons (tVar 11) tNil))) [10, 11]) (tLc (iSeqU K (tOp (rIx K) (tVar 3) (tC (.int 1)))) (gTup K 2 (gCons (gName 10) (gCons (gName 11) gNil))) tYes (tTup (tCons (tVar 11) (tCons (tVar 10) tNil))) [10, 11])) (gName 9))
 (tSeq (tFor (iRng1 (tCons (tIf (tTest (tOp (rEqU K) (tVar 2) (tC (.int 0)))) (tCB (rLen K) (tCons (tVar 5) tNil)) (tC (.int 0))) tNil)) (gName 12) (tAug 9 (tLc (iSeqU K (tVar 5)) (gName 11) tYes (tTup (tCons (tOp (rIx K) (tVar 5) (tVar 12)) (tCons (tVar 11) tNil))) [11]) rIAddU))
 (tSeq (tFor (iRng1 (tCons (tIf (tTest (tOp (rEqU K) (tVar 2) (tC (.int 1)))) (tC (.int 40)) (tC (.int 0))) tNil)) (gName 12) (tDrop (tBM K "list" rAppend (tVar 9) (tCons (tTup (tCons (tOp (rIx K) (tVar 5) (tOp rModU (tOp (rIx K) (tVar 1) (tOp (rAddU K) (tC (.int 140)) (tVar 12))) (tC (.int 44)))) (tCons (tOp (rIx K) (tVar 5) (tOp rModU (tOp rDivU (tOp (rIx K) (tVar 1) (tOp (rAddU K) (tC (.int 140)) (tVar 12))) (tC (.int 44))) (tC (.int 44)))) tNil))) tNil))))
 (tSeq (tAug 9 (tLst (tCons (tTup (tCons (tC (.str "E")) (tCons (tC (.str "W")) tNil))) (tCons (tTup (tCons (tC (.str "N")) (tCons (tC (.str "S")) tNil))) (tCons (tTup (tCons (tC (.str "E")) (tCons (tC (.str "N")) tNil))) (tCons (tTup (tCons (tC (.str "W")) (tCons (tC (.str "N")) tNil))) (tCons (tTup (tCons (tC (.str "S")) (tCons (tC (.str "E")) tNil))) (tCons (tTup (tCons (tOp (rIx K) (tVar 5) (tC (.int 0))) (tCons (tC (.str "N")) tNil))) (tCons (tTup (tCons (tC (.str "W")) (tCons (tOp (rIx K) (tVar 5) (tC (.int 0))) tNil))) tNil)))))))) rIAddU)
 (tFor (iSeqU K (tVar 9)) (gTup K 2 (gCons (gName 10) (gCons (gName 11) gNil))) (tIfS (tNot (tTr K (tCall (sp_u_law_right K) [] E0 (tCons (tVar 3) (tCons (tVar 4) (tCons (tVar 10) (tCons (tVar 11) tNil))))))) (tRet (tC (.bl false))) tNext))))))))))))))
 (tSeq (tAsg (tTup (tCons (tTup (tCons (tC (.str "a")) (tCons (tC (.str "b")) (tCons (tC (.str "c")) tNil)))) (tCons (tTup (tCons (tTup (tCons (tC (.str "N")) (tCons (tC (.str "b")) tNil))) (tCons (tTup (tCons (tC (.str "b")) (tCons (tC (.str "c")) tNil))) tNil))) tNil))) (gName 10))
 (tRet (tAndV (tCall (sp_u_law_same K) [] E0 (tCons (tCall (sp_hanging_rooms K) [] E0 (tCons (tVar 10) tNil)) (tCons (tTup (tCons (tC (.str "b")) (tCons (tC (.str "c")) tNil))) tNil))) (tCall (sp_u_law_same K) [] E0 (tCons (tCall (sp_neighbours_of K) [] E0 (tCons (tVar 10) (tCons (tC (.str "N")) tNil))) (tCons (tTup (tCons (tC (.str "E")) (tCons (tC (.str "W")) (tCons (tC (.str "b")) tNil)))) tNil))))))))
theorem dv_law (T : Txt K mg) (O_u_law_pool : Okd P w K mg base CX0 1 "_law_pool" ["script", "many"] (sp_u_law_pool K)) (O_u_law_near : Okd P w K mg base CX0 1 "_law_near" ["scheme"] (sp_u_law_near K)) (O_u_law_same : Okd P w K mg base CX0 2 "_law_same" ["told", "due"] (sp_u_law_same K)) (O_u_law_small : Okd P w K mg base CX0 2 "_law_small" ["pool"] (sp_u_law_small K)) (O_u_law_wide : Okd P w K mg base CX0 2 "_law_wide" ["pool"] (sp_u_law_wide K)) (O_hanging_rooms : Okd P w K mg base CX0 4 "hanging_rooms" ["scheme"] (sp_hanging_rooms K)) (O_neighbours_of : Okd P w K mg base CX0 4 "neighbours_of" ["scheme", "name"] (sp_neighbours_of K)) (O_room_pairs : Okd P w K mg base CX0 2 "room_pairs" ["scheme"] (sp_room_pairs K)) (O_u_law_hangs : Okd P w K mg base CX0 1 "_law_hangs" ["near", "rooms"] (sp_u_law_hangs K)) (O_u_law_right : Okd P w K mg base CX0 5 "_law_right" ["scheme", "near", "one", "other"] (sp_u_law_right K)) {f : Addr} (cdv : Value) (A : Around) (outer : List PySem.Env) (s : Shared) (H : Hp) (E : XK) (hr : Room 5 (A.deeper (envOfC "law" (defScope s_law) s.heap.objs.size f cdv))) :
    PSs (cxOf CX0 P w K mg base N_law "law" (defScope s_law) f cdv A outer s H E) (defBody s_law) (t_law K) := by
  have sc := sc_law
  have pa : PassesOwn (model P w) (cxOf CX0 P w K mg base N_law "law" (defScope s_law) f cdv A outer s H E).A (cxOf CX0 P w K mg base N_law "law" (defScope s_law) f cdv A outer s H E).env (cxOf CX0 P w K mg base N_law "law" (defScope s_law) f cdv A outer s H E).xe := passes_of rfl
  exact (pss_cons (ps_set (i := 1) sc.nd rfl (by first | exact Or.inl rfl | exact Or.inr rfl) (pe_callD O_u_law_pool hr (by decide) (pa_cons (pv 0) (pa_cons pe_int pa_nil))))
 (pss_cons (ps_for pa rfl (pi_range1 rfl T.f_range (pa_cons pe_int pa_nil)) (pg_name (i := 2) sc.nd rfl (by first | exact Or.inl rfl | exact Or.inr rfl)) (pss_cons (ps_set (i := 3) sc.nd rfl (by first | exact Or.inl rfl | exact Or.inr rfl) (pe_ifExp (pt_cmpR (op_eqU hr.units) (pv 2) pe_int (nomark _)) (pe_callD O_u_law_small hr (by decide) (pa_cons (pv 1) pa_nil)) (pe_callD O_u_law_wide hr (by decide) (pa_cons (pv 1) pa_nil))))
 (pss_cons (ps_set (i := 4) sc.nd rfl (by first | exact Or.inl rfl | exact Or.inr rfl) (pe_callD O_u_law_near hr (by decide) (pa_cons (pv 3) pa_nil)))
 (pss_cons (ps_set (i := 5) sc.nd rfl (by first | exact Or.inl rfl | exact Or.inr rfl) (pe_op op_addU (pe_callTy (r := rListU _) call_listU rfl T.f_list b_list (pa_cons (pe_ix ix_seq (pv 3) pe_int (fun _ _ => rfl)) pa_nil)) (pe_lst (pa_cons pe_str (pa_cons pe_str (pa_cons pe_str (pa_cons pe_str pa_nil)))))))
 (pss_cons (ps_setLc (i := 6) (own := [("pair", 7)]) (g := (gName 7)) (tt := (tTest (tOp (rInU K) (tOp (rIx K) (tVar 7) (tC (.int 0))) (tOp (rIx K) (tVar 3) (tC (.int 0)))))) rfl sc.nd rfl rfl (sw_true rfl rfl rfl (by decide +kernel)) (pi_seqU (pe_ix ix_seq (pv 3) pe_int (fun _ _ => rfl))) (blkOk_by (own := [("pair", 7)]) (N := N_law) (sc := defScope s_law) (by decide +kernel)) (fun _ _ _ _ _ => (pg_name (i := 7) sc.nd rfl (by first | exact Or.inl rfl | exact Or.inr rfl))) (fun _ _ _ _ _ => (pts_one (pt_cmpR op_inU (pe_ix ix_seq (pv 7) pe_int (fun _ _ => rfl)) (pe_ix ix_seq (pv 3) pe_int (fun _ _ => rfl)) rfl))) (fun _ _ _ _ _ => (pv 7)))
 (pss_cons (ps_if (pt_not (pt_tr (pe_callD O_u_law_same hr (by decide) (pa_cons (pe_callD O_room_pairs hr (by decide) (pa_cons (pv 3) pa_nil)) (pa_cons (pe_callTy (r := rTupU _) call_tupleU rfl T.f_tuple b_tuple (pa_cons (pv 6) pa_nil)) pa_nil))))) (pss_one (ps_ret pe_bl)) pss_nil)
 (pss_cons (ps_if (pt_not (pt_tr (pe_callD O_u_law_same hr (by decide) (pa_cons (pe_callD O_hanging_rooms hr (by decide) (pa_cons (pv 3) pa_nil)) (pa_cons (pe_callD O_u_law_hangs hr (by decide) (pa_cons (pv 4) (pa_cons (pe_ix ix_seq (pv 3) pe_int (fun _ _ => rfl)) pa_nil))) pa_nil))))) (pss_one (ps_ret pe_bl)) pss_nil)
 (pss_cons (ps_for pa rfl (pi_seqU (pv 5)) (pg_name (i := 8) sc.nd rfl (by first | exact Or.inl rfl | exact Or.inr rfl)) (pss_one (ps_if (pt_not (pt_tr (pe_callD O_u_law_same hr (by decide) (pa_cons (pe_callD O_neighbours_of hr (by decide) (pa_cons (pv 3) (pa_cons (pv 8) pa_nil))) (pa_cons (pe_callTy (r := rTupU _) call_tupleU rfl T.f_tuple b_tuple (pa_cons (pe_callB (r := rSortedS _) cr_sortedS rfl T.f_sorted b_sorted (pa_cons (pe_dget (hu_of hr) (pv 4) (pv 8) (fun _ _ => rfl)) pa_nil)) pa_nil)) pa_nil))))) (pss_one (ps_ret pe_bl)) pss_nil)))
 (pss_cons (ps_set (i := 9) sc.nd rfl (by first | exact Or.inl rfl | exact Or.inr rfl) (pe_op op_addU (pe_lc (own := [("one", 10), ("other", 11)]) (g := (gTup K 2 (gCons (gName 10) (gCons (gName 11) gNil)))) (tt := tYes) rfl sc.nd (pi_seqU (pe_ix ix_seq (pv 3) pe_int (fun _ _ => rfl))) (blkOk_by (own := [("one", 10), ("other", 11)]) (N := N_law) (sc := defScope s_law) (by decide +kernel)) (fun _ _ _ _ _ => (pg_tup rfl (pgs_cons (pg_name (i := 10) sc.nd rfl (by first | exact Or.inl rfl | exact Or.inr rfl)) (pgs_cons (pg_name (i := 11) sc.nd rfl (by first | exact Or.inl rfl | exact Or.inr rfl)) pgs_nil)))) (fun _ _ _ _ _ => pts_nil) (fun _ _ _ _ _ => (pe_tup (pa_cons (pv 10) (pa_cons (pv 11) pa_nil))))) (pe_lc (own := [("one", 10), ("other", 11)]) (g := (gTup K 2 (gCons (gName 10) (gCons (gName 11) gNil)))) (tt := tYes) rfl sc.nd (pi_seqU (pe_ix ix_seq (pv 3) pe_int (fun _ _ => rfl))) (blkOk_by (own := [("one", 10), ("other", 11)]) (N := N_law) (sc := defScope s_law) (by decide +kernel)) (fun _ _ _ _ _ => (pg_tup rfl (pgs_cons (pg_name (i := 10) sc.nd rfl (by first | exact Or.inl rfl | exact Or.inr rfl)) (pgs_cons (pg_name (i := 11) sc.nd rfl (by first | exact Or.inl rfl | exact Or.inr rfl)) pgs_nil)))) (fun _ _ _ _ _ => pts_nil) (fun _ _ _ _ _ => (pe_tup (pa_cons (pv 11) (pa_cons (pv 10) pa_nil)))))))
 (pss_cons (ps_for pa rfl (pi_range1 rfl T.f_range (pa_cons (pe_ifExp (pt_cmpR (op_eqU hr.units) (pv 2) pe_int (nomark _)) (pe_callB (r := rLen _) call_len rfl T.f_len b_len (pa_cons (pv 5) pa_nil)) pe_int) pa_nil)) (pg_name (i := 12) sc.nd rfl (by first | exact Or.inl rfl | exact Or.inr rfl)) (pss_one (ps_aug (i := 9) sc.nd rfl (by first | exact Or.inl rfl | exact Or.inr rfl) (pe_lc (own := [("other", 11)]) (g := (gName 11)) (tt := tYes) rfl sc.nd (pi_seqU (pv 5)) (blkOk_by (own := [("other", 11)]) (N := N_law) (sc := defScope s_law) (by decide +kernel)) (fun _ _ _ _ _ => (pg_name (i := 11) sc.nd rfl (by first | exact Or.inl rfl | exact Or.inr rfl))) (fun _ _ _ _ _ => pts_nil) (fun _ _ _ _ _ => (pe_tup (pa_cons (pe_ix ix_seq (pv 5) (pv 12) (fun _ _ => rfl)) (pa_cons (pv 11) pa_nil))))) ip_addU)))
 (pss_cons (ps_for pa rfl (pi_range1 rfl T.f_range (pa_cons (pe_ifExp (pt_cmpR (op_eqU hr.units) (pv 2) pe_int (nomark _)) pe_int pe_int) pa_nil)) (pg_name (i := 12) sc.nd rfl (by first | exact Or.inl rfl | exact Or.inr rfl)) (pss_one (ps_expr (pe_bm PySem.F.plainAttrs_list PySem.F.slot_list_append PySem.F.type_list_append mt_append (pv 9) (pa_cons (pe_tup (pa_cons (pe_ix ix_seq (pv 5) (pe_op op_mod (pe_ix ix_seq (pv 1) (pe_op op_addU pe_int (pv 12)) (fun _ _ => rfl)) pe_int) (fun _ _ => rfl)) (pa_cons (pe_ix ix_seq (pv 5) (pe_op op_mod (pe_op op_fdiv (pe_ix ix_seq (pv 1) (pe_op op_addU pe_int (pv 12)) (fun _ _ => rfl)) pe_int) pe_int) (fun _ _ => rfl)) pa_nil))) pa_nil)))))
 (pss_cons (ps_aug (i := 9) sc.nd rfl (by first | exact Or.inl rfl | exact Or.inr rfl) (pe_lst (pa_cons (pe_tup (pa_cons pe_str (pa_cons pe_str pa_nil))) (pa_cons (pe_tup (pa_cons pe_str (pa_cons pe_str pa_nil))) (pa_cons (pe_tup (pa_cons pe_str (pa_cons pe_str pa_nil))) (pa_cons (pe_tup (pa_cons pe_str (pa_cons pe_str pa_nil))) (pa_cons (pe_tup (pa_cons pe_str (pa_cons pe_str pa_nil))) (pa_cons (pe_tup (pa_cons (pe_ix ix_seq (pv 5) pe_int (fun _ _ => rfl)) (pa_cons pe_str pa_nil))) (pa_cons (pe_tup (pa_cons pe_str (pa_cons (pe_ix ix_seq (pv 5) pe_int (fun _ _ => rfl)) pa_nil))) pa_nil)))))))) ip_addU)
 (pss_one (ps_for pa rfl (pi_seqU (pv 9)) (pg_tup rfl (pgs_cons (pg_name (i := 10) sc.nd rfl (by first | exact Or.inl rfl | exact Or.inr rfl)) (pgs_cons (pg_name (i := 11) sc.nd rfl (by first | exact Or.inl rfl | exact Or.inr rfl)) pgs_nil))) (pss_one (ps_if (pt_not (pt_tr (pe_callD O_u_law_right hr (by decide) (pa_cons (pv 3) (pa_cons (pv 4) (pa_cons (pv 10) (pa_cons (pv 11) pa_nil))))))) (pss_one (ps_ret pe_bl)) pss_nil))))))))))))))))
 (pss_cons (ps_set (i := 10) sc.nd rfl (by first | exact Or.inl rfl | exact Or.inr rfl) (pe_tup (pa_cons (pe_tup (pa_cons pe_str (pa_cons pe_str (pa_cons pe_str pa_nil)))) (pa_cons (pe_tup (pa_cons (pe_tup (pa_cons pe_str (pa_cons pe_str pa_nil))) (pa_cons (pe_tup (pa_cons pe_str (pa_cons pe_str pa_nil))) pa_nil))) pa_nil))))
 (pss_one (ps_ret (pe_and (pe_callD O_u_law_same hr (by decide) (pa_cons (pe_callD O_hanging_rooms hr (by decide) (pa_cons (pv 10) pa_nil)) (pa_cons (pe_tup (pa_cons pe_str (pa_cons pe_str pa_nil))) pa_nil))) (pe_one (pe_callD O_u_law_same hr (by decide) (pa_cons (pe_callD O_neighbours_of hr (by decide) (pa_cons (pv 10) (pa_cons pe_str pa_nil))) (pa_cons (pe_tup (pa_cons pe_str (pa_cons pe_str (pa_cons pe_str pa_nil)))) pa_nil))))))))))
end
end K03

set_option maxHeartbeats 4000000
namespace K03
open PySem PySem.Spec PyProof.Rows L2 DL
local macro_rules | `(tactic| walk_at "sz") => `(tactic| first
  | assumption
  | decide
  | omega
  | (rw [sizeLine_eq]; omega)
  | (simp only [sizeLine_eq, len_app, len_rep, len_one, List.length_append, List.length_cons, List.length_nil, List.length_map, List.length_replicate] <;> omega)
  | (simp only [sizeLine_eq, len_app, len_rep, len_one, List.length_append, List.length_cons, List.length_nil, List.length_map, List.length_replicate] at * <;> omega))
local macro_rules | `(tactic| walk_at "flat") => `(tactic| first
  | rfl
  | assumption
  | exact strs_flat _
  | decide)
local macro_rules | `(tactic| walk_at "ix") => `(tactic| first
  | rfl
  | exact atI_ints (by walk_at "sz") (by walk_at "sz")
  | exact atI_strs (by walk_at "sz") (by walk_at "sz")
  | exact atI_nn PyData.none (by walk_at "sz") (by walk_at "sz")
  | exact atI_nn (α := Nat) 0 (by walk_at "sz") (by walk_at "sz"))
local macro_rules | `(tactic| walk_at "odx") => `(tactic| first
  | fail "odx")
local macro_rules | `(tactic| walk_at "od") => `(tactic| first
  | ((with_reducible apply od_addI))
  | ((with_reducible apply od_sub))
  | ((with_reducible apply od_cmpI))
  | ((with_reducible apply od_eqI))
  | ((with_reducible apply od_neI))
  | ((with_reducible apply od_cmpS))
  | ((with_reducible apply od_eqS))
  | ((with_reducible apply od_neS))
  | ((with_reducible apply od_eqB))
  | ((with_reducible apply od_neB))
  | ((with_reducible apply od_isB))
  | ((with_reducible apply od_notB))
  | ((with_reducible apply od_inC))
  | ((with_reducible apply od_ninC))
  | ((with_reducible apply od_mod); (· walk_at "sz"))
  | ((with_reducible apply od_div); (· walk_at "sz"))
  | ((with_reducible apply od_mulI); (· first | exact Or.inr (by decide) | exact Or.inl (by decide) | exact Or.inr (by omega) | exact Or.inl (by omega)))
  | ((with_reducible apply od_addS); (· walk_at "sz"))
  | ((with_reducible apply od_addT); (· walk_at "sz"))
  | ((with_reducible apply od_ixL); (· walk_at "ix"))
  | ((with_reducible apply od_ixT); (· walk_at "ix"))
  | ((with_reducible apply od_ixS); (· walk_at "sz"); (· walk_at "ix"))
  | ((with_reducible apply od_inT); (· walk_at "flat"); (· walk_at "flat"))
  | ((with_reducible apply od_ninT); (· walk_at "flat"); (· walk_at "flat"))
  | ((with_reducible apply od_inL); (· walk_at "flat"); (· walk_at "flat"))
  | ((with_reducible apply od_ninL); (· walk_at "flat"); (· walk_at "flat"))
  | ((with_reducible apply od_pow); (· walk_at "sz"))
  | ((with_reducible apply od_mulS); (· walk_at "sz"); (· walk_at "sz"); (· walk_at "sz"))
  | ((with_reducible apply od_ltQ))
  | ((with_reducible apply od_geQ))
  | exact od_inC
  | exact od_ninC
  | walk_at "odx")
local macro_rules | `(tactic| walk_at "ea") => `(tactic| first
  | ((with_reducible apply ea_nil))
  | ((with_reducible apply ea_cons); (· walk_at "ev"); (· walk_at "ea")))
local macro_rules | `(tactic| walk_at "cdx") => `(tactic| first
  | fail "cdx")
local macro_rules | `(tactic| walk_at "cd") => `(tactic| first
  | ((with_reducible apply cd_lenL))
  | ((with_reducible apply cd_lenT))
  | ((with_reducible apply cd_lenS); (· walk_at "sz"))
  | ((with_reducible apply cd_int))
  | ((with_reducible apply cd_strI); (· walk_at "sz"))
  | ((with_reducible apply cd_tupL))
  | ((with_reducible apply cd_tupT))
  | walk_at "cdx")
local macro_rules | `(tactic| walk_at "eo") => `(tactic| first
  | ((with_reducible apply eo_none))
  | ((with_reducible apply eo_some); (· walk_at "ev")))
local macro_rules | `(tactic| walk_at "cnx") => `(tactic| first
  | fail "cnx")
local macro_rules | `(tactic| walk_at "evnx") => `(tactic| first
  | fail "evnx")
local macro_rules | `(tactic| walk_at "evn") => `(tactic| first
  | ((with_reducible apply en_lst); (· walk_at "ea"); (· walk_at "sz"))
  | ((with_reducible apply en_slL); (· walk_at "ev"); (· walk_at "eo"); (· walk_at "eo"))
  | ((with_reducible apply en_slScr); (· walk_at "ev"); (· walk_at "eo"); (· walk_at "eo"))
  | ((with_reducible apply en_revL); (· walk_at "ev"))
  | ((with_reducible apply en_dnewT))
  | ((with_reducible apply en_dnewK))
  | ((with_reducible apply en_op); (· walk_at "ev"); (· walk_at "ev"); (· first | ((with_reducible apply on_addL); (· walk_at "sz")) | ((with_reducible apply on_mulL); (· walk_at "sz"); (· walk_at "sz"); (· walk_at "sz"))))
  | ((with_reducible apply en_cb); (· walk_at "ea"); (· first | with_reducible exact cn_listL | with_reducible exact cn_listT | with_reducible exact cn_sortS (by walk_at "sz") | walk_at "cnx"))
  | walk_at "evnx")
local macro_rules | `(tactic| walk_at "sd") => `(tactic| first
  | assumption
  | rfl
  | omega
  | decide
  | (constructor <;> omega)
  | (simp only [*]; done))
local macro_rules | `(tactic| walk_at "relx") => `(tactic| first
  | fail "relx")
local macro_rules | `(tactic| walk_at "rel") => `(tactic| first
  | exact ⟨_, rfl, by rfl⟩
  | exact ⟨_, rfl, by walk_at "sd", by rfl⟩
  | exact ⟨_, _, rfl, by rfl⟩
  | exact ⟨_, _, rfl, by walk_at "sd", by rfl⟩
  | exact ⟨_, _, rfl, by walk_at "sd", by walk_at "sd", by rfl⟩
  | walk_at "relx")
local macro_rules | `(tactic| walk_at "evx") => `(tactic| first
  | fail "evx")
local macro_rules | `(tactic| walk_at "isi") => `(tactic| first
  | rfl
  | assumption
  | (simp only [isDicD, tyD]; done))
local macro_rules | `(tactic| walk_at "ok") => `(tactic| first
  | rfl
  | assumption
  | decide
  | (simp only [*]; done))
local macro_rules | `(tactic| walk_at "ev") => `(tactic| first
  | ((with_reducible apply ev_var); (· exact rfl))
  | ((with_reducible apply ev_int))
  | ((with_reducible apply ev_str))
  | ((with_reducible apply ev_bl))
  | ((with_reducible apply ev_non))
  | ((with_reducible apply ev_neg); (· walk_at "ev"))
  | ((with_reducible apply ev_ixO); (· exact rfl); (· walk_at "ev"); (· walk_at "ix"))
  | ((with_reducible apply ev_lenO); (· exact rfl))
  | ((with_reducible apply ev_inO); (· walk_at "ev"); (· exact rfl); (· walk_at "flat"); (· walk_at "flat"))
  | ((with_reducible apply ev_ninO); (· walk_at "ev"); (· exact rfl); (· walk_at "flat"); (· walk_at "flat"))
  | ((with_reducible apply ev_op); (· walk_at "ev"); (· walk_at "ev"); (· walk_at "od"))
  | ((with_reducible apply ev_cb); (· walk_at "ea"); (· walk_at "cd"))
  | ((with_reducible apply ev_call); (· walk_at "ea"); (· walk_at "rel"))
  | ((with_reducible apply ev_tup); (· walk_at "ea"); (· walk_at "sz"))
  | ((with_reducible apply ev_isi); (· walk_at "ev"); (· walk_at "isi"); (· first | exact (show kitB _ _ = some true from rfl) | exact (show kitB _ _ = some false from rfl)))
  | ((with_reducible apply ev_isN); (· walk_at "ev"))
  | ((with_reducible apply ev_notN); (· walk_at "ev"))
  | ((with_reducible apply ev_inDS); (· walk_at "ev"); (· walk_at "ev"))
  | ((with_reducible apply ev_ninDS); (· walk_at "ev"); (· walk_at "ev"))
  | ((with_reducible apply ev_and0); (· exact ev_is (by walk_at "ev") (congrArg PyData.bool (by walk_at "ok"))))
  | ((with_reducible apply ev_or1); (· exact ev_is (by walk_at "ev") (congrArg PyData.bool (by walk_at "ok"))))
  | ((with_reducible apply ev_andV); (· walk_at "ev"); (· intro _; walk_at "ev"))
  | ((with_reducible apply ev_orV); (· walk_at "ev"); (· intro _; walk_at "ev"))
  | ((with_reducible apply ev_notV); (· walk_at "ev"))
  | ((with_reducible apply ev_if1); (· exact et_is (by walk_at "et") (by walk_at "ok")); (· walk_at "ev"))
  | ((with_reducible apply ev_if0); (· exact et_is (by walk_at "et") (by walk_at "ok")); (· walk_at "ev"))
  | ((with_reducible apply ev_ite); (· walk_at "et"); (· intro _; walk_at "ev"); (· intro _; walk_at "ev"))
  | ((with_reducible apply ev_slS); (· walk_at "ev"); (· walk_at "sz"); (· walk_at "eo"); (· walk_at "eo"))
  | ((with_reducible apply ev_slT); (· walk_at "ev"); (· walk_at "eo"); (· walk_at "eo"))
  | ((with_reducible apply ev_chain); (· walk_at "ev"); (· walk_at "ev"); (· walk_at "od"); (· intro _; walk_at "ev"); (· intro _; walk_at "od"))
  | ((with_reducible apply ev_N); (· walk_at "evn"))
  | walk_at "evx")
local macro_rules | `(tactic| walk_at "et!") => `(tactic| first
  | exact et_is (by walk_at "et") (by walk_at "ok"))
local macro_rules | `(tactic| walk_at "et") => `(tactic| first
  | ((with_reducible apply et_or1); (· exact et_is (by walk_at "et") (by walk_at "ok")))
  | ((with_reducible apply et_and0); (· exact et_is (by walk_at "et") (by walk_at "ok")))
  | ((with_reducible apply et_test); (· walk_at "ev"))
  | ((with_reducible apply et_B); (· walk_at "ev"))
  | ((with_reducible apply et_not); (· walk_at "et"))
  | ((with_reducible apply et_and); (· walk_at "et"); (· intro _; walk_at "et"))
  | ((with_reducible apply et_or); (· walk_at "et"); (· intro _; walk_at "et"))
  | ((with_reducible apply et_trB); (· walk_at "ev"))
  | ((with_reducible apply et_trO); (· exact rfl))
  | ((with_reducible apply et_tr); (· walk_at "ev"); (· walk_at "isi"); (· walk_at "sz")))
section
variable {P : Program} {w : World} {K : PySem.W.Frag} {mg : Str → Option Value} {base : Heap}
abbrev FnP (K : PySem.W.Frag) (x : Str) (st : Stmt) : Prop := ∃ fd, FunD K x x (defArgs st) (defBody st) (defScope st) [] [] (He.ga K x) fd
theorem side_cases {z : Str} (h : z ∈ sides4) : z = "E" ∨ z = "N" ∨ z = "W" ∨ z = "S" := by
  unfold sides4 at h
  simpa only [List.mem_cons, List.not_mem_nil, or_false] using h
theorem ok_direction_number (T : Txt K mg) (hd : FnP K "direction_number" s_direction_number) (hm : mg "direction_number" = some (.ref (He.ga K "direction_number")))  : Okd P w K mg base CX0 1 "direction_number" ["direction"] (sp_direction_number K) := by
  obtain ⟨fd, F⟩ := hd
  refine ⟨hm, fd, fn_pf F sc_direction_number ?_ (fun cdv A outer s H E hr => ⟨_, dv_direction_number T  cdv A outer s H E hr, ?_⟩), F.bindsN (fun _ _ _ _ _ _ us hl => match us, hl with | [_], _ => rfl), F.kp⟩
  · rintro ds d ⟨x0, rfl, _⟩
    rfl
  · rintro ds d ⟨z, rfl, hz, rfl⟩
    refine ST.mono (P := fun o => o = .rt (.int (dirN z))) ?_ fun o h => .inl h
    show ST K E0 (t_direction_number K) [.fr (.str z)] _
    unfold t_direction_number
    rcases side_cases hz with rfl | rfl | rfl | rfl
    · exact st_ret (ev_sindex (i := 0) (rest := []) (by walk_at "ev") (by walk_at "ev") (by decide +kernel)) (by exact congrArg (fun i => Oc.rt (.int i)) (by decide +kernel))
    · exact st_ret (ev_sindex (i := 1) (rest := []) (by walk_at "ev") (by walk_at "ev") (by decide +kernel)) (by exact congrArg (fun i => Oc.rt (.int i)) (by decide +kernel))
    · exact st_ret (ev_sindex (i := 2) (rest := []) (by walk_at "ev") (by walk_at "ev") (by decide +kernel)) (by exact congrArg (fun i => Oc.rt (.int i)) (by decide +kernel))
    · exact st_ret (ev_sindex (i := 3) (rest := []) (by walk_at "ev") (by walk_at "ev") (by decide +kernel)) (by exact congrArg (fun i => Oc.rt (.int i)) (by decide +kernel))
theorem len4 : ((("ENWS" : Str).cps.toList.length : Nat) : Int) = 4 := by decide +kernel
theorem ok_direction_by (T : Txt K mg) (hd : FnP K "direction_by" s_direction_by) (hm : mg "direction_by" = some (.ref (He.ga K "direction_by")))  : Okd P w K mg base CX0 1 "direction_by" ["number"] (sp_direction_by K) := by
  obtain ⟨fd, F⟩ := hd
  refine ⟨hm, fd, fn_pf F sc_direction_by ?_ (fun cdv A outer s H E hr => ⟨_, dv_direction_by T  cdv A outer s H E hr, ?_⟩), F.bindsN (fun _ _ _ _ _ _ us hl => match us, hl with | [_], _ => rfl), F.kp⟩
  · rintro ds d ⟨x0, rfl, _⟩
    rfl
  · rintro ds d ⟨i, rfl, rfl⟩
    refine ST.mono (P := fun o => o = .rt (.str (dirS i))) ?_ fun o h => .inl h
    show ST K E0 (t_direction_by K) [.fr (.int i)] _
    unfold t_direction_by
    exact st_ret (ev_op (by walk_at "ev") (by walk_at "ev") (od_ixS (by decide) (ch_at (Int.emod_nonneg _ (by decide)) (by rw [len4]; exact Int.emod_lt_of_pos _ (by decide))))) (by rfl)
theorem ok_beside_side (T : Txt K mg) (hd : FnP K "beside_side" s_beside_side) (hm : mg "beside_side" = some (.ref (He.ga K "beside_side"))) (O_direction_number : Okd P w K mg base CX0 1 "direction_number" ["direction"] (sp_direction_number K)) (O_direction_by : Okd P w K mg base CX0 1 "direction_by" ["number"] (sp_direction_by K)) : Okd P w K mg base CX0 2 "beside_side" ["side"] (sp_beside_side K) := by
  obtain ⟨fd, F⟩ := hd
  refine ⟨hm, fd, fn_pf F sc_beside_side ?_ (fun cdv A outer s H E hr => ⟨_, dv_beside_side T O_direction_number O_direction_by cdv A outer s H E hr, ?_⟩), F.bindsN (fun _ _ _ _ _ _ us hl => match us, hl with | [_], _ => rfl), F.kp⟩
  · rintro ds d ⟨x0, rfl, _⟩
    rfl
  · rintro ds d ⟨z, rfl, hz, rfl⟩
    refine ST.mono (P := fun o => o = .rt (.tuple [.str (dirS (dirN z - 1)), .str (dirS (dirN z + 1))])) ?_ fun o h => .inl h
    show ST K E0 (t_beside_side K) [.fr (.str z), .no] _
    unfold t_beside_side sp_direction_by sp_direction_number
    refine q_asg (by walk_at "ev") ?_
    exact st_ret (by walk_at "ev") (by rfl)
theorem ev_SIDES (T : Txt K mg) {ρ : List Sl} : EV K (tC (.ref (He.ga K "SIDES"))) ρ (.tuple [.str "E", .str "N", .str "W", .str "S"]) := ev_glob fun G => .tup (T.t_SIDES G) (.cons (.str _) (.cons (.str _) (.cons (.str _) (.cons (.str _) .nil))))
theorem ok_is_side (T : Txt K mg) (hd : FnP K "is_side" s_is_side) (hm : mg "is_side" = some (.ref (He.ga K "is_side")))  : Okd P w K mg base CX0 1 "is_side" ["thing"] (sp_is_side K) := by
  obtain ⟨fd, F⟩ := hd
  refine ⟨hm, fd, fn_pf F sc_is_side ?_ (fun cdv A outer s H E hr => ⟨_, dv_is_side T  cdv A outer s H E hr, ?_⟩), F.bindsN (fun _ _ _ _ _ _ us hl => match us, hl with | [_], _ => rfl), F.kp⟩
  · rintro ds d ⟨x0, rfl, _⟩
    rfl
  · rintro ds d ⟨z, rfl, rfl⟩
    refine ST.mono (P := fun o => o = .rt (.bool (decide (z ∈ sides4)))) ?_ fun o h => .inl h
    show ST K E0 (t_is_side K) [.fr (.str z)] _
    unfold t_is_side
    refine st_ret (ev_andV (b := inD (.str z) [.str "E", .str "N", .str "W", .str "S"]) (by walk_at "ev") (fun _ => ev_op (by walk_at "ev") (ev_SIDES T) (by walk_at "od"))) ?_
    show Oc.rt (.bool (true && inD (.str z) (sides4.map PyData.str))) = _
    rw [inD_str]
    rfl
theorem occ_app (a b : List (Str × Str)) (k : Str) : occ (a ++ b) k = occ a k ++ occ b k := List.flatMap_append ..
theorem occ_one (p : Str × Str) (k : Str) : occ [p] k = (if p.1 = k then [p.2] else []) ++ (if p.2 = k then [p.1] else []) := by
  unfold occ
  rw [List.flatMap_cons, List.flatMap_nil, List.append_nil]
theorem take_one {α : Type} {ps : List α} {i : Nat} (hi : i < ps.length) (z : α) : ps.take (i + 1) = ps.take i ++ [ps.getD i z] := by
  rw [List.take_succ, List.getElem?_eq_getElem hi, List.getD_eq_getElem?_getD, List.getElem?_eq_getElem hi]
  rfl
theorem occ_take {ps : List (Str × Str)} {i : Nat} (hi : i < ps.length) (k : Str) : occ (ps.take (i + 1)) k = occ (ps.take i) k ++ ((if (ps.getD i (Str.empty, Str.empty)).1 = k then [(ps.getD i (Str.empty, Str.empty)).2] else []) ++ (if (ps.getD i (Str.empty, Str.empty)).2 = k then [(ps.getD i (Str.empty, Str.empty)).1] else [])) := by
  rw [take_one hi (Str.empty, Str.empty), occ_app, occ_one]
theorem occ_len (ps : List (Str × Str)) (k : Str) : (occ ps k).length ≤ 2 * ps.length := by
  induction ps with
  | nil => exact Nat.le_refl _
  | cons p r ih =>
    have := occ_app [p] r k
    show (occ ([p] ++ r) k).length ≤ _
    rw [this, occ_one, List.length_append, List.length_append, List.length_cons]
    split <;> split <;> simp <;> omega
/-- one pair more in a table -/
theorem two_steps {f : Str → List Str} {a b : Str} (k : Str) : (if k = b then (if k = a then f k ++ [b] else f k) ++ [a] else (if k = a then f k ++ [b] else f k)) = f k ++ ((if a = k then [b] else []) ++ (if b = k then [a] else [])) := by
  by_cases h1 : k = a
  · by_cases h2 : k = b
    · rw [if_pos h2, if_pos h1, if_pos h1.symm, if_pos h2.symm, List.append_assoc]
    · rw [if_neg h2, if_pos h1, if_pos h1.symm, if_neg (Ne.symm h2), List.append_nil]
  · by_cases h2 : k = b
    · rw [if_pos h2, if_neg h1, if_neg (Ne.symm h1), if_pos h2.symm]
      rfl
    · rw [if_neg h2, if_neg h1, if_neg (Ne.symm h1), if_neg (Ne.symm h2), List.append_nil, List.append_nil]

theorem mem_occ {ps : List (Str × Str)} {k x : Str} : x ∈ occ ps k ↔ ∃ p ∈ ps, (p.1 = k ∧ x = p.2) ∨ (p.2 = k ∧ x = p.1) := by
  unfold occ
  rw [List.mem_flatMap]
  constructor
  · rintro ⟨p, hp, hx⟩
    refine ⟨p, hp, ?_⟩
    rcases List.mem_append.mp hx with h | h
    · split at h
      · rename_i e
        exact .inl ⟨e, List.mem_singleton.mp h⟩
      · cases h
    · split at h
      · rename_i e
        exact .inr ⟨e, List.mem_singleton.mp h⟩
      · cases h
  · rintro ⟨p, hp, ⟨h, rfl⟩ | ⟨h, rfl⟩⟩
    · exact ⟨p, hp, List.mem_append_left _ (by rw [if_pos h]; exact List.mem_singleton.mpr rfl)⟩
    · exact ⟨p, hp, List.mem_append_right _ (by rw [if_pos h]; exact List.mem_singleton.mpr rfl)⟩
theorem nb_sym {ps : List (Str × Str)} {k x : Str} (h : x ∈ nb ps k) : k ∈ nb ps x := by
  unfold nb at h ⊢
  obtain ⟨p, hp, ⟨h1, h2⟩ | ⟨h1, h2⟩⟩ := mem_occ.mp h
  · exact mem_occ.mpr ⟨p, hp, .inr ⟨h2.symm, h1.symm⟩⟩
  · exact mem_occ.mpr ⟨p, hp, .inl ⟨h2.symm, h1.symm⟩⟩
theorem corner_sides : ∀ p ∈ corners, p.1 ∈ sides4 ∧ p.2 ∈ sides4 := by decide +kernel
section
variable {rs : List Str} {ps : List (Str × Str)}
theorem WS.nbIn (W : WS rs ps) {k x : Str} (h : x ∈ nb ps k) : x ∈ rs ++ sides4 := by
  unfold nb at h
  obtain ⟨p, hp, h⟩ := mem_occ.mp h
  rcases List.mem_append.mp hp with hp | hp
  · obtain ⟨a, b, _⟩ := W.one p hp
    rcases h with ⟨_, rfl⟩ | ⟨_, rfl⟩
    · exact b
    · exact a
  · obtain ⟨a, b⟩ := corner_sides p hp
    rcases h with ⟨_, rfl⟩ | ⟨_, rfl⟩
    · exact List.mem_append_right _ b
    · exact List.mem_append_right _ a
theorem occ_nodup : ∀ {ps : List (Str × Str)}, ps.Nodup → (∀ p ∈ ps, ltS p.1 p.2 = true) → ∀ k, (occ ps k).Nodup
  | [], _, _, _ => List.nodup_nil
  | p :: r, nd, hl, k => by
    obtain ⟨n1, n2⟩ := List.nodup_cons.mp nd
    have ih := occ_nodup n2 (fun q hq => hl q (List.mem_cons_of_mem _ hq)) k
    have hp := hl p (List.mem_cons_self ..)
    show (((if p.1 = k then [p.2] else []) ++ (if p.2 = k then [p.1] else [])) ++ occ r k).Nodup
    have ne : p.1 ≠ p.2 := fun e => by
      rw [e, ltS_irr] at hp
      cases hp
    by_cases h1 : p.1 = k
    · have h2 : p.2 ≠ k := fun e => ne (h1.trans e.symm)
      rw [if_pos h1, if_neg h2, List.append_nil]
      refine List.nodup_cons.mpr ⟨fun m => ?_, ih⟩
      obtain ⟨q, hq, ⟨e1, e2⟩ | ⟨e1, e2⟩⟩ := mem_occ.mp m
      · exact n1 ((Prod.ext (h1.trans e1.symm) e2 : p = q) ▸ hq)
      · have := hl q (List.mem_cons_of_mem _ hq)
        rw [e1, ← e2, ← h1, ltS_as hp] at this
        cases this
    · rw [if_neg h1, List.nil_append]
      by_cases h2 : p.2 = k
      · rw [if_pos h2]
        refine List.nodup_cons.mpr ⟨fun m => ?_, ih⟩
        obtain ⟨q, hq, ⟨e1, e2⟩ | ⟨e1, e2⟩⟩ := mem_occ.mp m
        · have := hl q (List.mem_cons_of_mem _ hq)
          rw [e1, ← e2, ← h2, ltS_as hp] at this
          cases this
        · exact n1 ((Prod.ext e2 (h2.trans e1.symm) : p = q) ▸ hq)
      · rw [if_neg h2]
        exact ih
theorem WS.nbLen (W : WS rs ps) (k : Str) : (nb ps k).length < 64 := by
  unfold nb
  rw [occ_app, List.length_append]
  have h1 : (occ ps k).length ≤ (rs ++ sides4).length := nodup_le (occ_nodup W.nd W.lt k) fun x hx => W.nbIn (k := k) (by unfold nb; rw [occ_app]; exact List.mem_append_left _ hx)
  have h2 := occ_len corners k
  have h3 : corners.length = 4 := rfl
  have h4 : sides4.length = 4 := rfl
  rw [List.length_append] at h1
  have := W.many
  omega
theorem WS.nodup (W : WS rs ps) : (rs ++ sides4).Nodup := by
  refine List.nodup_append.mpr ⟨W.up.imp fun {a b} h e => ?_, by decide +kernel, fun a ha b hb e => W.rooms a ha (e ▸ hb)⟩
  rw [e, ltS_irr] at h
  cases h
theorem WS.nodup2 (W : WS rs ps) : (ensw ++ rs).Nodup := by
  refine List.nodup_append.mpr ⟨by decide +kernel, (List.nodup_append.mp W.nodup).1, fun a ha b hb e => W.rooms b hb ?_⟩
  rw [← e]
  exact (by decide +kernel : ∀ z ∈ ensw, z ∈ sides4) a ha
theorem mem_ensw (z : Str) : z ∈ ensw ++ rs ↔ z ∈ rs ++ sides4 := by
  rw [List.mem_append, List.mem_append, Or.comm]
  have h1 : ∀ z ∈ ensw, z ∈ sides4 := by decide +kernel
  have h2 : ∀ z ∈ sides4, z ∈ ensw := by decide +kernel
  exact ⟨fun h => h.imp id (h1 z), fun h => h.imp id (h2 z)⟩
end
def sideL (z : Str) : List Str := if z ∈ sides4 then [dirS (dirN z - 1), dirS (dirN z + 1)] else []
theorem sideL_perm (z : Str) : (sideL z).Perm (occ corners z) := by
  by_cases h : z ∈ sides4
  · rcases side_cases h with rfl | rfl | rfl | rfl <;> decide +kernel
  · have e : occ corners z = [] := by
      refine List.eq_nil_iff_forall_not_mem.mpr fun x hx => ?_
      obtain ⟨p, hp, ⟨h1, _⟩ | ⟨h1, _⟩⟩ := mem_occ.mp hx
      · exact h (h1 ▸ (corner_sides p hp).1)
      · exact h (h1 ▸ (corner_sides p hp).2)
    unfold sideL
    rw [if_neg h, e]
theorem side_nb (ps : List (Str × Str)) (k : Str) : (sideL k ++ occ ps k).Perm (nb ps k) := by
  unfold nb
  rw [occ_app]
  exact List.perm_append_comm.trans (List.Perm.append_left _ (sideL_perm k))
theorem ok_touch_table (T : Txt K mg) (hd : FnP K "touch_table" s_touch_table) (hm : mg "touch_table" = some (.ref (He.ga K "touch_table"))) (O_beside_side : Okd P w K mg base CX0 2 "beside_side" ["side"] (sp_beside_side K)) : Okd P w K mg base CX0 3 "touch_table" ["scheme"] (sp_touch_table K) := by
  obtain ⟨fd, F⟩ := hd
  refine ⟨hm, fd, fn_pf F sc_touch_table ?_ (fun cdv A outer s H E hr => ⟨_, dv_touch_table T O_beside_side cdv A outer s H E hr, ?_⟩), F.bindsN (fun _ _ _ _ _ _ us hl => match us, hl with | [_], _ => rfl), F.kp⟩
  · rintro ds d ⟨x0, x1, rfl, _⟩
    rfl
  · rintro ds d ⟨rs, ps, rfl, W, rfl⟩
    refine ST.mono (P := fun o => o = .rt (tabD rs ps)) ?_ fun o h => .inl h
    show ST K E0 (t_touch_table K) [.fr (schD rs ps), .no, .no, .no, .no, .no, .no, .no, .no] _
    unfold t_touch_table sp_beside_side schD
    have hr := W.many
    have hq := W.few
    refine q_asgG (d := .tuple [.tuple (rs.map PyData.str), .tuple (ps.map pqD)]) (by walk_at "ev") (gt_tup rfl (gts_cons gt_name (gts_cons gt_name gts_nil))) ?_
    have ndr : rs.Nodup := (List.nodup_append.mp W.nodup).1
    have hcong : mkL rs (fun _ => []) = mkL rs sideL := mkL_congr fun k hk => by
      unfold sideL
      rw [if_neg (W.rooms k hk)]
    have hkl : klD (fun i => .inr (rs.getD i Str.empty)) (fun _ => []) rs.length = mkL rs sideL := (klD_mk (g := fun _ => []) (fun i _ => rfl) (fun i _ => rfl)).trans hcong
    refine q_asgL (kls := mkL rs sideL) (hkl ▸ el_dc (ei_tupS (zs := rs) (by walk_at "ev")) (by omega) (fun i hi => klD_new ndr (fun i _ => rfl) hi) fun i hi => ⟨_, _, gt_name, by simp, et_yes, by walk_at "ev", by walk_at "evn"⟩) (by rfl) ?_
    -- for side in SIDES
    refine q_for (ei_tupS (zs := sides4) (ev_SIDES T)) (fun i ρ => ∃ s5 : Sl, ρ = [.fr (.tuple [.tuple (rs.map PyData.str), .tuple (ps.map pqD)]), .fr (.tuple (rs.map PyData.str)), .fr (.tuple (ps.map pqD)), .ne (mkL (rs ++ sides4.take i) sideL), .no, s5, .no, .no, .no]) ⟨_, by rw [List.take_zero, List.append_nil]; rfl⟩ ?_ ?_
    · rintro i ρ hi ⟨s5, rfl⟩
      refine ⟨_, _, gt_name, ?_⟩
      have hz : sides4.getD i Str.empty ∈ sides4 := getD_mem hi
      have hn : sides4.getD i Str.empty ∉ rs ++ sides4.take i := fun m => by
        rcases List.mem_append.mp m with m | m
        · exact W.rooms _ m hz
        · exact (by decide +kernel : ∀ i, i < 4 → sides4.getD i Str.empty ∉ sides4.take i) i hi m
      rw [take_one hi Str.empty, ← List.append_assoc]
      generalize sides4.getD i Str.empty = z at hz hn
      refine st_nput (k := .inr z) (ds := (sideL z).map PyData.str) (by rfl) (by walk_at "ev") rfl (getL_mk_none hn) ?_ ?_ ?_
      · unfold sideL
        rw [if_pos hz]
        exact en_cb (ea_cons (ev_call (by walk_at "ea") ⟨z, rfl, hz, rfl⟩) ea_nil) cn_listT
      · rw [mkL_len, List.length_append]
        have : (sides4.take i).length ≤ 4 := Nat.le_trans (List.length_take_le _ _) (Nat.le_of_lt hi)
        omega
      · rw [mkL_snoc rfl]
        exact ⟨_, rfl⟩
    rintro ρ ⟨s5, rfl⟩
    -- for one, other in pairs
    have hk : ∀ i, i < ps.length → (ps.getD i (Str.empty, Str.empty)).1 ∈ rs ++ sides4 ∧ (ps.getD i (Str.empty, Str.empty)).2 ∈ rs ++ sides4 := fun i hi => ⟨(W.one _ (getD_mem hi)).1, (W.one _ (getD_mem hi)).2.1⟩
    have e0 : mkL (rs ++ sides4) sideL = mkL (rs ++ sides4) (fun k => sideL k ++ occ (ps.take 0) k) := mkL_congr fun k _ => (List.append_nil _).symm
    refine q_for (ei_tupQ (qs := ps) (by walk_at "ev")) (fun i ρ => ∃ s5 s6 s7 : Sl, ρ = [.fr (.tuple [.tuple (rs.map PyData.str), .tuple (ps.map pqD)]), .fr (.tuple (rs.map PyData.str)), .fr (.tuple (ps.map pqD)), .ne (mkL (rs ++ sides4) fun k => sideL k ++ occ (ps.take i) k), .no, s5, s6, s7, .no]) ⟨_, _, _, by rw [← e0]; rfl⟩ ?_ ?_
    · rintro i ρ hi ⟨s5, s6, s7, rfl⟩
      obtain ⟨k1, k2⟩ := hk i hi
      have hstep := fun k => occ_take hi k
      have hlen := fun k => occ_len (ps.take i) k
      have hl2 : (ps.take i).length ≤ 100 := Nat.le_trans (List.length_take_le _ _) (by omega)
      have hsl : ∀ k, (sideL k).length ≤ 2 := fun k => by
        unfold sideL
        split
        · exact Nat.le_refl 2
        · exact Nat.zero_le _
      generalize ps.getD i (Str.empty, Str.empty) = p at k1 k2 hstep
      refine ⟨_, _, gt_tup rfl (gts_cons gt_name (gts_cons gt_name gts_nil)), ?_⟩
      refine q_napp (f := fun k => sideL k ++ occ (ps.take i) k) (by rfl) (by walk_at "ev") k1 W.nodup (by walk_at "ev") ?_ ?_
      · rw [List.length_append]
        have := hlen p.1
        have := hsl p.1
        omega
      refine st_napp (f := fun k => if k = p.1 then (sideL k ++ occ (ps.take i) k) ++ [p.2] else sideL k ++ occ (ps.take i) k) (by rfl) (by walk_at "ev") k2 W.nodup (by walk_at "ev") ?_ ?_
      · have := hlen p.2
        have := hsl p.2
        split <;> simp only [List.length_append, List.length_cons, List.length_nil] <;> omega
      · have e1 : (mkL (rs ++ sides4) fun k => if k = p.2 then (if k = p.1 then (sideL k ++ occ (ps.take i) k) ++ [p.2] else sideL k ++ occ (ps.take i) k) ++ [p.1] else if k = p.1 then (sideL k ++ occ (ps.take i) k) ++ [p.2] else sideL k ++ occ (ps.take i) k) = mkL (rs ++ sides4) fun k => sideL k ++ occ (ps.take (i + 1)) k := mkL_congr fun k _ => by
          rw [hstep k, ← List.append_assoc]
          exact two_steps (f := fun k => sideL k ++ occ (ps.take i) k) k
        exact ⟨_, _, _, by rw [e1]; rfl⟩
    rintro ρ ⟨s5, s6, s7, rfl⟩
    rw [List.take_length]
    have hkl2 : klD (fun i => .inr ((rs ++ sides4).getD i Str.empty)) (fun i => (srt ltS (nb ps ((rs ++ sides4).getD i Str.empty))).map PyData.str) (mkL (rs ++ sides4) fun k => sideL k ++ occ ps k).length = mkL (rs ++ sides4) fun k => srt ltS (nb ps k) := by
      rw [mkL_len]
      exact klD_mk (fun i _ => rfl) (fun i _ => rfl)
    have hl44 : (rs ++ sides4).length ≤ 44 := by
      rw [List.length_append]
      have : sides4.length = 4 := rfl
      omega
    refine st_retI (n := 3) (kls := mkL (rs ++ sides4) fun k => sideL k ++ occ ps k) (k := fun i => .inr ((rs ++ sides4).getD i Str.empty)) (f := fun i => (srt ltS (nb ps ((rs ++ sides4).getD i Str.empty))).map PyData.str) (by rfl) (by rw [mkL_len]; omega) (fun i hi => klD_new W.nodup (fun i _ => rfl) (by rw [mkL_len] at hi; exact hi)) (fun i hi => ?_) ?_
    · rw [mkL_len] at hi
      rw [itemK_mk hi]
      refine ⟨_, _, gt_tup rfl (gts_cons gt_name (gts_cons gt_name gts_nil)), by simp, et_yes, by walk_at "ev", ?_⟩
      have hp := side_nb ps ((rs ++ sides4).getD i Str.empty)
      rw [← srt_congr stoS hp]
      refine en_cb (by walk_at "ea") (cn_sortS ?_)
      rw [hp.length_eq]
      exact W.nbLen _
    · rw [hkl2]
      rfl

theorem ok_neighbours_of (T : Txt K mg) (hd : FnP K "neighbours_of" s_neighbours_of) (hm : mg "neighbours_of" = some (.ref (He.ga K "neighbours_of"))) (O_touch_table : Okd P w K mg base CX0 3 "touch_table" ["scheme"] (sp_touch_table K)) : Okd P w K mg base CX0 4 "neighbours_of" ["scheme", "name"] (sp_neighbours_of K) := by
  obtain ⟨fd, F⟩ := hd
  refine ⟨hm, fd, fn_pf F sc_neighbours_of ?_ (fun cdv A outer s H E hr => ⟨_, dv_neighbours_of T O_touch_table cdv A outer s H E hr, ?_⟩), F.bindsN (fun _ _ _ _ _ _ us hl => match us, hl with | [_, _], _ => rfl), F.kp⟩
  · rintro ds d ⟨x0, x1, x2, rfl, _⟩
    rfl
  · rintro ds d ⟨rs, ps, a, rfl, W, ha, rfl⟩
    refine ST.mono (P := fun o => o = .rt (.tuple ((srt ltS (nb ps a)).map PyData.str))) ?_ fun o h => .inl h
    show ST K E0 (t_neighbours_of K) [.fr (schD rs ps), .fr (.str a), .no] _
    unfold t_neighbours_of sp_touch_table
    refine q_asg (d := tabD rs ps) (ev_call (by walk_at "ea") ⟨rs, ps, rfl, W, rfl⟩) ?_
    exact st_ret (ev_cb (ea_cons (ev_nget (f := fun k => srt ltS (nb ps k)) (ev_var rfl) (by walk_at "ev") ha) ea_nil) cd_tupL) (by rfl)
theorem ok_are_neighbours (T : Txt K mg) (hd : FnP K "are_neighbours" s_are_neighbours) (hm : mg "are_neighbours" = some (.ref (He.ga K "are_neighbours"))) (O_touch_table : Okd P w K mg base CX0 3 "touch_table" ["scheme"] (sp_touch_table K)) : Okd P w K mg base CX0 4 "are_neighbours" ["scheme", "one", "other"] (sp_are_neighbours K) := by
  obtain ⟨fd, F⟩ := hd
  refine ⟨hm, fd, fn_pf F sc_are_neighbours ?_ (fun cdv A outer s H E hr => ⟨_, dv_are_neighbours T O_touch_table cdv A outer s H E hr, ?_⟩), F.bindsN (fun _ _ _ _ _ _ us hl => match us, hl with | [_, _, _], _ => rfl), F.kp⟩
  · rintro ds d ⟨x0, x1, x2, x3, rfl, _⟩
    rfl
  · rintro ds d ⟨rs, ps, a, b, rfl, W, ha, rfl⟩
    refine ST.mono (P := fun o => o = .rt (.bool (decide (b ∈ nb ps a)))) ?_ fun o h => .inl h
    show ST K E0 (t_are_neighbours K) [.fr (schD rs ps), .fr (.str a), .fr (.str b), .no] _
    unfold t_are_neighbours sp_touch_table
    refine q_asg (d := tabD rs ps) (ev_call (by walk_at "ea") ⟨rs, ps, rfl, W, rfl⟩) ?_
    refine st_ret (ev_op (by walk_at "ev") (ev_nget (f := fun k => srt ltS (nb ps k)) (ev_var rfl) (by walk_at "ev") ha) (od_inL rfl (strs_flat _))) ?_
    rw [inD_str]
    exact congrArg (fun c => Oc.rt (.bool c)) (decide_eq_decide.mpr mem_srt)
theorem ok_room_pairs (T : Txt K mg) (hd : FnP K "room_pairs" s_room_pairs) (hm : mg "room_pairs" = some (.ref (He.ga K "room_pairs"))) (O_is_side : Okd P w K mg base CX0 1 "is_side" ["thing"] (sp_is_side K)) : Okd P w K mg base CX0 2 "room_pairs" ["scheme"] (sp_room_pairs K) := by
  obtain ⟨fd, F⟩ := hd
  refine ⟨hm, fd, fn_pf F sc_room_pairs ?_ (fun cdv A outer s H E hr => ⟨_, dv_room_pairs T O_is_side cdv A outer s H E hr, ?_⟩), F.bindsN (fun _ _ _ _ _ _ us hl => match us, hl with | [_], _ => rfl), F.kp⟩
  · rintro ds d ⟨x0, x1, rfl, _⟩
    rfl
  · rintro ds d ⟨rs, ps, rfl, W, rfl⟩
    refine ST.mono (P := fun o => o = .rt (.tuple ((ps.filter fun p => !decide (p.1 ∈ sides4)).map pqD))) ?_ fun o h => .inl h
    show ST K E0 (t_room_pairs K) [.fr (schD rs ps), .no] _
    unfold t_room_pairs sp_is_side schD
    have hq := W.few
    refine st_ret (ev_cb (ea_cons (ev_N (en_is (en_lc (b := fun i => (fun p : Str × Str => !decide (p.1 ∈ sides4)) (ps.getD i (Str.empty, Str.empty))) (f := fun i => pqD (ps.getD i (Str.empty, Str.empty))) (ei_tupQ (qs := ps) (by walk_at "ev")) (by omega) fun i hi => ⟨_, _, gt_name, by simp, ?_, fun _ => ?_⟩) (congrArg PyData.list (lc_filterA (p := fun p : Str × Str => !decide (p.1 ∈ sides4)) (h := pqD) (Str.empty, Str.empty) ps)))) ea_nil) cd_tupL) (by rfl)
    · generalize ps.getD i (Str.empty, Str.empty) = p
      exact et_not (et_trB (ev_call (ea_cons (ev_op (ev_var (d := .tuple [.str p.1, .str p.2]) rfl) (by walk_at "ev") (od_ixT rfl)) ea_nil) ⟨p.1, rfl, rfl⟩))
    · walk_at "ev"
theorem ok_common_neighbours (T : Txt K mg) (hd : FnP K "common_neighbours" s_common_neighbours) (hm : mg "common_neighbours" = some (.ref (He.ga K "common_neighbours"))) (O_touch_table : Okd P w K mg base CX0 3 "touch_table" ["scheme"] (sp_touch_table K)) : Okd P w K mg base CX0 4 "common_neighbours" ["scheme", "one", "other"] (sp_common_neighbours K) := by
  obtain ⟨fd, F⟩ := hd
  refine ⟨hm, fd, fn_pf F sc_common_neighbours ?_ (fun cdv A outer s H E hr => ⟨_, dv_common_neighbours T O_touch_table cdv A outer s H E hr, ?_⟩), F.bindsN (fun _ _ _ _ _ _ us hl => match us, hl with | [_, _, _], _ => rfl), F.kp⟩
  · rintro ds d ⟨x0, x1, x2, x3, rfl, _⟩
    rfl
  · rintro ds d ⟨rs, ps, a, b, rfl, W, ha, hb, rfl⟩
    refine ST.mono (P := fun o => o = .rt (.tuple ((common ps a b).map PyData.str))) ?_ fun o h => .inl h
    show ST K E0 (t_common_neighbours K) [.fr (schD rs ps), .fr (.str a), .fr (.str b), .no, .no] _
    unfold t_common_neighbours sp_touch_table
    refine q_asg (d := tabD rs ps) (ev_call (by walk_at "ea") ⟨rs, ps, rfl, W, rfl⟩) ?_
    have hl := W.nbLen a
    have e : lcD (srt ltS (nb ps a)).length (fun i => (fun z => decide (z ∈ srt ltS (nb ps b))) ((srt ltS (nb ps a)).getD i Str.empty)) (fun i => PyData.str ((srt ltS (nb ps a)).getD i Str.empty)) = (common ps a b).map PyData.str := by
      refine (lc_filterA (p := fun z => decide (z ∈ srt ltS (nb ps b))) (h := PyData.str) Str.empty (srt ltS (nb ps a))).trans ?_
      rw [srt_filter stoS]
      unfold common
      refine congrArg (fun l => (srt ltS l).map PyData.str) (List.filter_congr fun z _ => ?_)
      exact decide_eq_decide.mpr mem_srt
    refine st_ret (ev_cb (ea_cons (ev_N (en_is (en_lc (b := fun i => (fun z => decide (z ∈ srt ltS (nb ps b))) ((srt ltS (nb ps a)).getD i Str.empty)) (f := fun i => PyData.str ((srt ltS (nb ps a)).getD i Str.empty)) (ei_listS (zs := srt ltS (nb ps a)) (ev_nget (f := fun k => srt ltS (nb ps k)) (ev_var rfl) (by walk_at "ev") ha)) (by rw [srt_len]; omega) fun i hi => ⟨_, _, gt_name, by simp, ?_, fun _ => ?_⟩) (congrArg PyData.list e))) ea_nil) cd_tupL) (by rfl)
    · refine et_is (et_test (ev_op (by walk_at "ev") (ev_nget (f := fun k => srt ltS (nb ps k)) (ev_var rfl) (by walk_at "ev") hb) (od_inL rfl (strs_flat _)))) ?_
      rw [inD_str]
    · walk_at "ev"

/-- what is known while the rooms are reached: ys reached, ws waiting, the one in hand not yet told -/
structure RInv (rs : List Str) (ps : List (Str × Str)) (hand : Option Str) (ys ws : List Str) : Prop where
  nd : ys.Nodup
  sub : ∀ y ∈ ys, y ∈ rs ++ sides4
  side : ∀ z ∈ sides4, z ∈ ys
  reach : ∀ y ∈ ys, Reach ps y
  wait : ∀ w ∈ ws, w ∈ ys
  closed : ∀ y ∈ ys, y ∉ ws → hand = some y ∨ ∀ x ∈ nb ps y, x ∈ ys
section
variable {rs : List Str} {ps : List (Str × Str)} {ys ws : List Str} {w x : Str}
theorem RInv.pop (I : RInv rs ps none ys (ws ++ [w])) : RInv rs ps (some w) ys ws ∧ w ∈ ys := by
  refine ⟨⟨I.nd, I.sub, I.side, I.reach, fun v hv => I.wait v (List.mem_append_left _ hv), fun y hy hn => ?_⟩, I.wait w (List.mem_append_right _ (List.mem_singleton.mpr rfl))⟩
  by_cases e : y = w
  · exact .inl (by rw [e])
  · rcases I.closed y hy (fun m => (List.mem_append.mp m).elim hn fun m => e (List.mem_singleton.mp m)) with h | h
    · cases h
    · exact .inr h
theorem RInv.push (W : WS rs ps) (I : RInv rs ps (some w) ys ws) (hw : w ∈ ys) (hx : x ∈ nb ps w) (hn : x ∉ ys) : RInv rs ps (some w) (ys ++ [x]) (ws ++ [x]) := by
  refine ⟨List.nodup_append.mpr ⟨I.nd, List.nodup_cons.mpr ⟨fun h => (by cases h), List.nodup_nil⟩, fun a ha b hb e => hn ?_⟩, fun y hy => ?_, fun z hz => List.mem_append_left _ (I.side z hz), fun y hy => ?_, fun v hv => ?_, fun y hy hm => ?_⟩
  · rw [List.mem_singleton.mp hb] at e
    rw [← e]
    exact ha
  · rcases List.mem_append.mp hy with h | h
    · exact I.sub y h
    · rw [List.mem_singleton.mp h]
      exact W.nbIn hx
  · rcases List.mem_append.mp hy with h | h
    · exact I.reach y h
    · rw [List.mem_singleton.mp h]
      exact (I.reach w hw).step hx
  · rcases List.mem_append.mp hv with h | h
    · exact List.mem_append_left _ (I.wait v h)
    · exact List.mem_append_right _ h
  · rcases List.mem_append.mp hy with h | h
    · rcases I.closed y h (fun m => hm (List.mem_append_left _ m)) with q | q
      · exact .inl q
      · exact .inr fun z hz => List.mem_append_left _ (q z hz)
    · exact absurd (List.mem_append_right _ h) hm
theorem RInv.done (I : RInv rs ps (some w) ys ws) (h : ∀ z ∈ nb ps w, z ∈ ys) : RInv rs ps none ys ws :=
  ⟨I.nd, I.sub, I.side, I.reach, I.wait, fun y hy hn => by
    rcases I.closed y hy hn with q | q
    · injection q with q
      subst q
      exact .inr h
    · exact .inr q⟩
theorem RInv.all (I : RInv rs ps none ys []) {z : Str} : z ∈ ys ↔ Reach ps z := by
  refine ⟨I.reach z, fun h => ?_⟩
  induction h with
  | side hz => exact I.side _ hz
  | step _ hb ih =>
    rcases I.closed _ ih (fun m => by cases m) with q | q
    · cases q
    · exact q _ hb
theorem RInv.len (W : WS rs ps) {h : Option Str} (I : RInv rs ps h ys ws) : ys.length ≤ 44 := by
  have := nodup_le I.nd I.sub
  rw [List.length_append] at this
  have h4 : sides4.length = 4 := rfl
  have := W.many
  omega
theorem RInv.start : RInv rs ps none sides4 sides4 :=
  ⟨by decide +kernel, fun y hy => List.mem_append_right _ hy, fun _ h => h, fun _ h => .side h, fun _ h => h, fun y hy hn => absurd hy hn⟩
end
theorem hang_eq {rs : List Str} {ps : List (Str × Str)} {ys : List Str} (h : ∀ z, z ∈ ys ↔ Reach ps z) : rs.filter (fun z => decide (z ∈ ys)) = hang rs ps := by
  unfold hang
  exact List.filter_congr fun z _ => decide_eq_decide.mpr (h z)
theorem ok_hanging_rooms (T : Txt K mg) (hd : FnP K "hanging_rooms" s_hanging_rooms) (hm : mg "hanging_rooms" = some (.ref (He.ga K "hanging_rooms"))) (O_touch_table : Okd P w K mg base CX0 3 "touch_table" ["scheme"] (sp_touch_table K)) : Okd P w K mg base CX0 4 "hanging_rooms" ["scheme"] (sp_hanging_rooms K) := by
  obtain ⟨fd, F⟩ := hd
  refine ⟨hm, fd, fn_pf F sc_hanging_rooms ?_ (fun cdv A outer s H E hr => ⟨_, dv_hanging_rooms T O_touch_table cdv A outer s H E hr, ?_⟩), F.bindsN (fun _ _ _ _ _ _ us hl => match us, hl with | [_], _ => rfl), F.kp⟩
  · rintro ds d ⟨x0, x1, rfl, _⟩
    rfl
  · rintro ds d ⟨rs, ps, rfl, W, rfl⟩
    refine ST.mono (P := fun o => o = .rt (.tuple ((hang rs ps).map PyData.str))) ?_ fun o h => .inl h
    show ST K E0 (t_hanging_rooms K) [.fr (schD rs ps), .no, .no, .no, .no, .no, .no, .no] _
    unfold t_hanging_rooms sp_touch_table
    have hr := W.many
    refine q_asg (d := tabD rs ps) (ev_call (by walk_at "ea") ⟨rs, ps, rfl, W, rfl⟩) ?_
    refine q_asgN (d := dkD (bS sides4)) (en_is (en_dc (b := fun _ => true) (k := fun i => .inr (sides4.getD i Str.empty)) (f := fun _ => .bool true) (ei_tupS (zs := sides4) (ev_SIDES T)) (by decide) fun i hi => ⟨_, _, gt_name, by simp, et_yes, fun _ => ⟨by walk_at "ev", by walk_at "ev"⟩⟩) (by rfl)) ?_
    refine q_asgN (d := .list (sides4.map PyData.str)) (en_cb (ea_cons (ev_SIDES T) ea_nil) cn_listT) ?_
    refine q_while (I := fun m ρ => ∃ (ys ws : List Str) (s5 s6 : Sl), RInv rs ps none ys ws ∧ m = 2 * (44 - ys.length) + ws.length ∧ m ≤ 100 ∧ ρ = [.fr (schD rs ps), .fr (tabD rs ps), .ow (dkD (bS ys)), .no, .ow (.list (ws.map PyData.str)), s5, s6, .no]) 84 ⟨sides4, sides4, _, _, .start, rfl, by decide, rfl⟩ ?_
    rintro m ρ ⟨ys, ws, s5, s6, I, hm, hm2, rfl⟩
    refine ⟨_, et_trO rfl, fun hb => ?_, fun hb => ?_⟩
    · rcases List.eq_nil_or_concat ws with e | ⟨ws', x, e⟩
      · rw [e] at hb
        cases hb
      · rw [List.concat_eq_append] at e
        subst e
        obtain ⟨I1, hx⟩ := I.pop
        rw [List.length_append, List.length_singleton] at hm
        refine q_pop (ds := ws'.map PyData.str) (d := .str x) (by rw [List.map_append]; rfl) (by decide) ?_
        have hxk : x ∈ rs ++ sides4 := I.sub x hx
        refine st_for (ei_listS (zs := srt ltS (nb ps x)) (ev_nget (f := fun k => srt ltS (nb ps k)) (ev_var rfl) (by walk_at "ev") hxk)) (fun j ρ => ∃ (ys ws : List Str) (s6 : Sl), RInv rs ps (some x) ys ws ∧ x ∈ ys ∧ (∀ z ∈ (srt ltS (nb ps x)).take j, z ∈ ys) ∧ 2 * (44 - ys.length) + ws.length < m ∧ ρ = [.fr (schD rs ps), .fr (tabD rs ps), .ow (dkD (bS ys)), .no, .ow (.list (ws.map PyData.str)), .fr (.str x), s6, .no])
          ⟨ys, ws', _, I1, hx, fun z h => (by rw [List.take_zero] at h; cases h), by omega, rfl⟩ ?_ ?_
        · rintro j ρ hj ⟨ys, ws, s6, I, hx, hd, hlt, rfl⟩
          refine ⟨_, _, gt_name, ?_⟩
          have hz : (srt ltS (nb ps x)).getD j Str.empty ∈ nb ps x := mem_srt.mp (getD_mem hj)
          have hstep := take_one hj Str.empty
          generalize (srt ltS (nb ps x)).getD j Str.empty = z at hz hstep
          refine st_if (et_B (ev_ninSO (by walk_at "ev") rfl)) (fun hb => ?_) (fun hb => st_next ?_)
          · have hzn : z ∉ ys := by simpa using hb
            have I2 := I.push W hx hz hzn
            have hl2 := I2.len W
            rw [List.length_append, List.length_singleton] at hl2
            refine st_seq (st_dputK (k := .inr z) (kvs := bS ys) (d := .bool true) rfl (by walk_at "ev") rfl (by walk_at "ev") (by unfold bS; rw [List.length_map]; omega) ?_)
            rw [put_bS hzn]
            refine st_append (ds := ws.map PyData.str) (by rfl) (by walk_at "ev") (by rw [List.length_map]; omega) ?_
            refine ⟨ys ++ [z], ws ++ [z], _, I2, List.mem_append_left _ hx, fun v hv => ?_, ?_, by rw [List.map_append]; rfl⟩
            · rw [hstep] at hv
              rcases List.mem_append.mp hv with h | h
              · exact List.mem_append_left _ (hd v h)
              · exact List.mem_append_right _ h
            · rw [List.length_append, List.length_append, List.length_singleton]
              omega
          · have hzn : z ∈ ys := by simpa using hb
            refine ⟨ys, ws, _, I, hx, fun v hv => ?_, hlt, rfl⟩
            rw [hstep] at hv
            rcases List.mem_append.mp hv with h | h
            · exact hd v h
            · rw [List.mem_singleton.mp h]
              exact hzn
        · rintro ρ ⟨ys, ws, s6, I, hx, hd, hlt, rfl⟩
          rw [List.take_length] at hd
          exact ⟨_, hlt, ys, ws, _, _, I.done fun z hz => hd z (mem_srt.mpr hz), rfl, by omega, rfl⟩
    · have e : ws = [] := by
        cases ws with
        | nil => rfl
        | cons a b => cases hb
      subst e
      refine q_frz (i := 2) rfl ?_
      refine st_ret (ev_cb (ea_cons (ev_N (en_is (en_lc (b := fun i => (fun z => decide (z ∈ ys)) (rs.getD i Str.empty)) (f := fun i => PyData.str (rs.getD i Str.empty)) (ei_tupS (zs := rs) (ev_op (ev_var (d := .tuple [.tuple (rs.map PyData.str), .tuple (ps.map pqD)]) rfl) (by walk_at "ev") (od_ixT rfl))) (by omega) fun i hi => ⟨_, _, gt_name, by simp, et_B (ev_inSF (by walk_at "ev") (ev_var rfl)), fun _ => by walk_at "ev"⟩) (congrArg PyData.list (lc_filterA (p := fun z => decide (z ∈ ys)) (h := PyData.str) Str.empty rs)))) ea_nil) cd_tupL) ?_
      rw [hang_eq fun z => I.all]

theorem ok_u_law_pool (T : Txt K mg) (hd : FnP K "_law_pool" s_u_law_pool) (hm : mg "_law_pool" = some (.ref (He.ga K "_law_pool"))) : Okd P w K mg base CX0 1 "_law_pool" ["script", "many"] (sp_u_law_pool K) := by
  obtain ⟨fd, F⟩ := hd
  refine ⟨hm, fd, fn_pq F sc_u_law_pool ?_ (fun cdv A outer s H E hr => ⟨_, dv_u_law_pool T cdv A outer s H E hr, ?_⟩), F.bindsN (fun _ _ _ _ _ _ us hl => match us, hl with | [_, _], _ => rfl), F.kp⟩
  · rintro ds ⟨ns, m, rfl, _⟩
    rfl
  · rintro ds ⟨ns, m, rfl, hns, h0, h1⟩
    show ST K E0 (t_u_law_pool K) [.fr (.dict [(.none, .list (ns.map PyData.int))]), .fr (.int m), .no, .no, .no, .no, .no, .no, .no] _
    unfold t_u_law_pool
    -- cells = [..]
    obtain ⟨ms, e1, hms⟩ := map_cut (ns := ns) none (some 63)
    refine q_asg (ev_N (en_lc (b := fun _ => true) (f := fun i => .int (if decide (0 ≤ ms.getD i 0) = true then ms.getD i 0 else - ms.getD i 0)) (ei_list (ds := ms.map PyData.int) (ev_is (ev_N (by walk_at "evn")) (congrArg PyData.list e1))) (by rw [List.length_map]; omega) fun i hi => ?_)) ?_
    · rw [List.length_map] at hi
      refine ⟨_, _, gt_name, by simp, et_yes, fun _ => ?_⟩
      rw [getD_map_int hi]
      refine ev_is (ev_ite (by walk_at "et") (fun _ => by walk_at "ev") (fun _ => by walk_at "ev")) ?_
      by_cases h : 0 ≤ ms.getD i 0
      · rw [decide_eq_true h]; rfl
      · rw [decide_eq_false h]; rfl
    rw [lcD_all (fun _ => rfl) (fun i _ => rfl), List.length_map]
    -- if len(cells) == 0: cells = [37]
    refine q_cut (fun ρ => ∃ cs : List Int, 1 ≤ cs.length ∧ cs.length ≤ 63 ∧ ρ = [.fr (.dict [(.none, .list (ns.map PyData.int))]), .fr (.int m), .fr (.list (cs.map PyData.int)), .no, .no, .no, .no, .no, .no]) ?_ ?_
    · refine st_if (by walk_at "et") (fun hb => st_asg (by walk_at "ev") ?_) (fun hb => st_next ?_)
      · exact ⟨[_], by decide, by decide, rfl⟩
      · refine ⟨_, ?_, ?_, rfl⟩
        · have := of_decide_eq_false hb
          rw [List.length_map] at this
          omega
        · rw [List.length_map, List.length_range]
          omega
    rintro ρ ⟨cs, hc1, hc2, rfl⟩
    -- rest = [..]
    refine q_asgN (en_lc (b := fun _ => true) (f := fun i => .int (if decide ((10 : Int) ^ (18 : Int).toNat ≤ cs.getD i 0) = true then cs.getD i 0 else 0)) (ei_list (by walk_at "ev")) (by rw [List.length_map]; omega) fun i hi => ?_) ?_
    · rw [List.length_map] at hi
      refine ⟨_, _, gt_name, by simp, et_yes, fun _ => ?_⟩
      rw [getD_map_int hi]
      refine ev_is (ev_ite (by walk_at "et") (fun _ => by walk_at "ev") (fun _ => by walk_at "ev")) ?_
      by_cases h : (10 : Int) ^ (18 : Int).toNat ≤ cs.getD i 0
      · rw [decide_eq_true h]; rfl
      · rw [decide_eq_false h]; rfl
    rw [lcD_all (fun _ => rfl) (fun i _ => rfl), List.length_map]
    -- pool = []
    refine q_asgN (by walk_at "evn") ?_
    -- for k in range(many)
    refine q_for (ei_rng1 (by walk_at "ea") (by omega) (by omega)) (fun i ρ => ∃ (rs ps : List Int) (s6 s7 s8 : Sl), rs.length = cs.length ∧ ps.length = i ∧
      ρ = [.fr (.dict [(.none, .list (ns.map PyData.int))]), .fr (.int m), .fr (.list (cs.map PyData.int)), .no, .ow (.list (rs.map PyData.int)), .ow (.list (ps.map PyData.int)), s6, s7, s8]) ⟨_, [], _, _, _, ?_, rfl, rfl⟩ ?_ ?_
    · rw [List.length_map, List.length_range]
    · rintro i ρ hi ⟨rs, ps, s6, s7, s8, hr1, hp1, rfl⟩
      refine ⟨_, _, gt_name, ?_⟩
      have hcl : 0 < ((cs.map PyData.int).length : Int) := by rw [List.length_map]; omega
      have hm0 : 0 ≤ (i : Int) % ((cs.map PyData.int).length : Int) := Int.emod_nonneg _ (by omega)
      have hm1 : (i : Int) % ((cs.map PyData.int).length : Int) < (cs.map PyData.int).length := Int.emod_lt_of_pos _ hcl
      refine q_asg (by walk_at "ev") ?_
      have hm2 : (i : Int) % ((cs.map PyData.int).length : Int) < cs.length := by rw [List.length_map] at hm1; rw [List.length_map]; exact hm1
      have hm3 : (i : Int) % ((cs.map PyData.int).length : Int) < rs.length := by rw [hr1]; exact hm2
      generalize (i : Int) % ((cs.map PyData.int).length : Int) = a at hm0 hm1 hm2 hm3
      refine st_if (by walk_at "et") (fun hb => ?_) (fun hb => ?_)
      · refine q_append (by rfl) (by walk_at "ev") (by rw [List.length_map]; omega) ?_
        rw [map_add]
        refine st_setL (by rfl) (by walk_at "ev") (by walk_at "ev") (ixN_nn hm0 (by rw [List.length_map]; exact hm3)) ?_
        rw [map_set]
        exact ⟨_, _, _, _, _, by rw [List.length_set]; exact hr1, by rw [List.length_append, hp1]; rfl, rfl⟩
      · refine q_asg (by walk_at "ev") ?_
        refine st_append (by rfl) (by walk_at "ev") (by rw [List.length_map]; omega) ?_
        rw [map_add]
        exact ⟨_, _, _, _, _, hr1, by rw [List.length_append, hp1]; rfl, rfl⟩
    · rintro ρ ⟨rs, ps, s6, s7, s8, hr1, hp1, rfl⟩
      refine q_frz (i := 5) rfl ?_
      refine st_ret (by walk_at "ev") ?_
      exact ⟨_, rfl, m, _, ps, rfl, rfl, by omega⟩
theorem len25 : ((("abcdefghijklmnoprstuvwxyz" : Str).cps.toList.length : Nat) : Int) = 25 := by decide +kernel
theorem len8 : ((("0rbz9eno" : Str).cps.toList.length : Nat) : Int) = 8 := by decide +kernel
theorem str_k : ∀ k : Nat, k < 42 → (strI (1000 + (k : Nat))).length = 4 ∧ (1000 + (k : Nat) : Int).natAbs.log2 < 1920 := by decide +kernel
theorem tail_len (z : Str) (p : Int) : ∀ n, (tailS z p n).length = z.length + n
  | 0 => rfl
  | n + 1 => by
    unfold tailS
    rw [len_app, tail_len z p n]
    rfl
theorem namesK_len (ps : List Int) (b : Int) : ∀ n, (namesK ps b n).length = n
  | 0 => rfl
  | n + 1 => by
    unfold namesK
    rw [List.length_append, namesK_len ps b n]
    rfl
theorem cap_len {z y : Str} {c : Bool} (hy : y.length ≤ 8) : (if (decide ((z.length : Int) > 8) || c) = true then y else z).length ≤ 8 := by
  split
  · exact hy
  · rename_i h
    simp only [Bool.or_eq_true, decide_eq_true_eq, not_or] at h
    omega
theorem nameAt_len (ps : List Int) (b : Int) {k : Nat} (hk : k < 42) (ns : List Str) : (nameAt ps b k ns).length ≤ 8 := by
  unfold nameAt
  dsimp only
  refine cap_len ?_
  rw [len_app, (str_k k hk).1]
  decide
theorem namesK_small (ps : List Int) (b : Int) : ∀ n, n ≤ 42 → ∀ z ∈ namesK ps b n, z.length ≤ 8
  | 0, _, z, h => by cases h
  | n + 1, hn, z, h => by
    unfold namesK at h
    rcases List.mem_append.mp h with h | h
    · exact namesK_small ps b n (by omega) z h
    · rw [List.mem_singleton.mp h]
      exact nameAt_len ps b (by omega) _
theorem ok_u_law_names (T : Txt K mg) (hd : FnP K "_law_names" s_u_law_names) (hm : mg "_law_names" = some (.ref (He.ga K "_law_names"))) : Okd P w K mg base CX0 1 "_law_names" ["pool", "begin", "many"] (sp_u_law_names K) := by
  obtain ⟨fd, F⟩ := hd
  refine ⟨hm, fd, fn_pf F sc_u_law_names ?_ (fun cdv A outer s H E hr => ⟨_, dv_u_law_names T cdv A outer s H E hr, ?_⟩), F.bindsN (fun _ _ _ _ _ _ us hl => match us, hl with | [_, _, _], _ => rfl), F.kp⟩
  · rintro ds d ⟨ps, b, m, rfl, _⟩
    rfl
  · rintro ds d ⟨ps, b, m, rfl, hb, hm0, hm1, hl, rfl⟩
    refine ST.mono (P := fun o => o = .rt (.list ((namesK ps b m.toNat).map PyData.str))) ?_ fun o h => .inl h
    show ST K E0 (t_u_law_names K) [.fr (.list (ps.map PyData.int)), .fr (.int b), .fr (.int m), .no, .no, .no, .no, .no] _
    unfold t_u_law_names
    refine q_asgN (by walk_at "evn") ?_
    refine q_for (ei_rng1 (by walk_at "ea") (by omega) (by omega)) (fun i ρ => ∃ s4 s5 s6 s7 : Sl, ρ = [.fr (.list (ps.map PyData.int)), .fr (.int b), .fr (.int m), .ow (.list ((namesK ps b i).map PyData.str)), s4, s5, s6, s7]) ⟨_, _, _, _, rfl⟩ ?_ ?_
    · rintro i ρ hi ⟨s4, s5, s6, s7, rfl⟩
      have hi : i < 41 ∧ (i : Int) < m := by omega
      have hnl := namesK_len ps b i
      have hsm := namesK_small ps b i (by omega)
      refine ⟨_, _, gt_name, ?_⟩
      refine q_asg (d := .int (pI ps (b + (i : Nat)))) (ev_op (by walk_at "ev") (by walk_at "ev") (od_ixL (pI_get (by omega) (by omega)))) ?_
      show ST K E0 _ _ (loopP (fun ρ => ∃ s4 s5 s6 s7 : Sl, ρ = [.fr (.list (ps.map PyData.int)), .fr (.int b), .fr (.int m), .ow (.list ((namesK ps b i ++ [nameAt ps b i (namesK ps b i)]).map PyData.str)), s4, s5, s6, s7]) _)
      have hna : ∀ y, (let p := pI ps (b + (i : Nat)); let z := chS "abcdefghijklmnoprstuvwxyz" (p % 25); let q := p / 25; let z := if (decide (q % 5 = 0) && decide ((i : Int) > 0)) = true then (namesK ps b i).getD (i - 1) Str.empty else z; let z := tailS z q (q / 5 % 4).toNat; if (decide ((z.length : Int) > 8) || inD (.str z) ((namesK ps b i).map PyData.str)) = true then ("q" : Str) ++ strI (1000 + (i : Nat)) else z) = y → nameAt ps b i (namesK ps b i) = y := fun y h => h
      generalize nameAt ps b i (namesK ps b i) = nm at hna ⊢
      dsimp only at hna
      generalize namesK ps b i = ns at hnl hsm hna ⊢
      generalize pI ps (b + (i : Nat)) = p at hna ⊢
      refine q_asg (d := .str (chS "abcdefghijklmnoprstuvwxyz" (p % 25))) (ev_op (by walk_at "ev") (ev_op (by walk_at "ev") (by walk_at "ev") (od_mod (by decide))) (od_ixS (by decide) (ch_at (Int.emod_nonneg _ (by decide)) (by rw [len25]; exact Int.emod_lt_of_pos _ (by decide))))) ?_
      have hz0 : (chS "abcdefghijklmnoprstuvwxyz" (p % 25)).length = 1 := rfl
      generalize chS "abcdefghijklmnoprstuvwxyz" (p % 25) = z0 at hna hz0 ⊢
      refine q_asg (by walk_at "ev") ?_
      generalize p / 25 = q at hna ⊢
      refine q_ifAsg (i := 6) (d := .str (ns.getD (i - 1) Str.empty)) (d' := .str z0) rfl (by walk_at "et") (fun hc => ?_) ?_
      · rw [Bool.and_eq_true, decide_eq_true_eq, decide_eq_true_eq] at hc
        have e : ((i : Int) - 1).toNat = i - 1 := by omega
        rw [← e]
        exact ev_ixO rfl (by walk_at "ev") (atI_strs (by omega) (by omega))
      rw [ite_str]
      have hz1 : (if (decide (q % 5 = 0) && decide ((i : Int) > 0)) = true then ns.getD (i - 1) Str.empty else z0).length ≤ 8 := by
        split
        · rename_i hc
          rw [Bool.and_eq_true, decide_eq_true_eq, decide_eq_true_eq] at hc
          have hlt : i - 1 < ns.length := by omega
          rw [List.getD_eq_getElem?_getD, List.getElem?_eq_getElem hlt]
          exact hsm _ (List.getElem_mem hlt)
        · omega
      generalize (if (decide (q % 5 = 0) && decide ((i : Int) > 0)) = true then ns.getD (i - 1) Str.empty else z0) = z1 at hna hz1 ⊢
      have hq0 : 0 ≤ q / 5 % 4 := Int.emod_nonneg _ (by decide)
      have hq1 : q / 5 % 4 < 4 := Int.emod_lt_of_pos _ (by decide)
      refine q_for (ei_rng1 (ea_cons (ev_op (by walk_at "ev") (by walk_at "ev") (od_mod (by decide))) ea_nil) (by omega) (by omega)) (fun j ρ => ∃ s7 : Sl, ρ = [.fr (.list (ps.map PyData.int)), .fr (.int b), .fr (.int m), .ow (.list (ns.map PyData.str)), .fr (.int i), .fr (.int q), .fr (.str (tailS z1 q j)), s7]) ⟨_, rfl⟩ ?_ ?_
      · rintro j ρ hj ⟨s7, rfl⟩
        refine ⟨_, _, gt_name, ?_⟩
        refine st_asg (d := .str (tailS z1 q (j + 1))) (ev_op (by walk_at "ev") (ev_op (by walk_at "ev") (ev_op (ev_op (by walk_at "ev") (by walk_at "ev") od_addI) (by walk_at "ev") (od_mod (by decide))) (od_ixS (by decide) (ch_at (Int.emod_nonneg _ (by decide)) (by rw [len8]; exact Int.emod_lt_of_pos _ (by decide))))) (od_addS ?_)) ⟨_, rfl⟩
        rw [tail_len, len_one, sizeLine_eq]
        omega
      rintro ρ ⟨s7', rfl⟩
      have htl := tail_len z1 q (q / 5 % 4).toNat
      generalize tailS z1 q (q / 5 % 4).toNat = z2 at hna htl ⊢
      have hz2 : z2.length ≤ sizeLine := by rw [sizeLine_eq]; omega
      obtain ⟨hk1, hk2⟩ := str_k i (by omega)
      refine q_ifAsg (i := 6) (d := .str (("q" : Str) ++ strI (1000 + (i : Nat)))) (d' := .str z2) rfl (et_or (by walk_at "et") fun _ => et_test (ev_inO (by walk_at "ev") rfl rfl (strs_flat _))) (fun _ => ev_op (by walk_at "ev") (ev_cb (by walk_at "ea") (cd_strI hk2)) (od_addS ?_)) ?_
      · rw [hk1, sizeLine_eq]
        decide
      rw [ite_str]
      rw [← hna _ rfl]
      refine st_append rfl (by walk_at "ev") (by rw [List.length_map]; omega) ?_
      rw [List.map_append]
      exact ⟨_, _, _, _, rfl⟩
    · rintro ρ ⟨s4, s5, s6, s7, rfl⟩
      exact q_frz (i := 3) rfl (st_ret (by walk_at "ev") rfl)

theorem stepP_len (qs : List (Str × Str)) (t : Str × Str) : (stepP qs t).length ≤ qs.length + 1 := by
  unfold stepP
  split
  · exact Nat.le_succ _
  · exact addP_len _ _
theorem fold_len (ts qs : List (Str × Str)) : (ts.foldl stepP qs).length ≤ qs.length + ts.length := by
  induction ts generalizing qs with
  | nil => exact Nat.le_refl _
  | cons t r ih =>
    rw [List.foldl_cons, List.length_cons]
    have := ih (stepP qs t)
    have := stepP_len qs t
    omega
theorem pairs_take {ts : List (Str × Str)} {i : Nat} (hi : i < ts.length) : pairsOf (ts.take (i + 1)) = stepP (pairsOf (ts.take i)) (ts.getD i (Str.empty, Str.empty)) := by
  unfold pairsOf
  rw [take_one hi (Str.empty, Str.empty), List.foldl_append]
  rfl
theorem pairs_len (ts : List (Str × Str)) : (pairsOf ts).length ≤ ts.length := by
  have := fold_len ts []
  rw [List.length_nil, Nat.zero_add] at this
  exact this
theorem ok_u_law_scheme (T : Txt K mg) (hd : FnP K "_law_scheme" s_u_law_scheme) (hm : mg "_law_scheme" = some (.ref (He.ga K "_law_scheme")))  : Okd P w K mg base CX0 1 "_law_scheme" ["rooms", "touches"] (sp_u_law_scheme K) := by
  obtain ⟨fd, F⟩ := hd
  refine ⟨hm, fd, fn_pf F sc_u_law_scheme ?_ (fun cdv A outer s H E hr => ⟨_, dv_u_law_scheme T  cdv A outer s H E hr, ?_⟩), F.bindsN (fun _ _ _ _ _ _ us hl => match us, hl with | [_, _], _ => rfl), F.kp⟩
  · rintro ds d ⟨x0, x1, rfl, _⟩
    rfl
  · rintro ds d ⟨rs, ts, rfl, hr, ht, rfl⟩
    refine ST.mono (P := fun o => o = .rt (schD (srt ltS rs) (srt ltQ (pairsOf ts)))) ?_ fun o h => .inl h
    show ST K E0 (t_u_law_scheme K) [.fr (.list (rs.map PyData.str)), .fr (.list (ts.map pqD)), .no, .no, .no] _
    unfold t_u_law_scheme
    refine q_asgN (d := dtD ((pairsOf (ts.take 0)).map fun p => (keyQ p, PyData.bool true))) (by exact en_dnewT) ?_
    refine q_for (ei_listQ (qs := ts) (by walk_at "ev")) (fun i ρ => ∃ s3 s4 : Sl, ρ = [.fr (.list (rs.map PyData.str)), .fr (.list (ts.map pqD)), .ow (dtD ((pairsOf (ts.take i)).map fun p => (keyQ p, PyData.bool true))), s3, s4]) ⟨_, _, rfl⟩ ?_ ?_
    · rintro i ρ hi ⟨s3, s4, rfl⟩
      rw [pairs_take hi]
      have hl := pairs_len (ts.take i)
      have hl2 : (ts.take i).length ≤ 100 := Nat.le_trans (List.length_take_le _ _) (by omega)
      generalize ts.getD i (Str.empty, Str.empty) = p
      generalize pairsOf (ts.take i) = qs at hl
      refine ⟨_, _, gt_tup rfl (gts_cons gt_name (gts_cons gt_name gts_nil)), ?_⟩
      unfold stepP
      refine st_if (b := !decide (p.1 = p.2)) (by walk_at "et") (fun hb => ?_) (fun hb => st_next ?_)
      · rw [if_neg (by simpa using hb)]
        refine st_dputT (kvs := qs.map fun p => (keyQ p, PyData.bool true)) (k := if ltS p.1 p.2 = true then keyQ (p.1, p.2) else keyQ (p.2, p.1)) (d := .bool true) rfl (evt_ite (et_is (b := ltS p.1 p.2) (by walk_at "et") (by rfl)) (fun _ => evt_tup (by walk_at "ea") (by rfl) (by show 2 ≤ sizeLine; rw [sizeLine_eq]; decide)) (fun _ => evt_tup (by walk_at "ea") (by rfl) (by show 2 ≤ sizeLine; rw [sizeLine_eq]; decide))) (by walk_at "ev") (by rw [List.length_map]; omega) ?_
        have e : (if ltS p.1 p.2 = true then keyQ (p.1, p.2) else keyQ (p.2, p.1)) = keyQ (if ltS p.1 p.2 = true then p else (p.2, p.1)) := by
          split <;> rfl
        rw [e, putQ]
        exact ⟨_, _, rfl⟩
      · rw [if_pos (by simpa using hb)]
        exact ⟨_, _, rfl⟩
    · rintro ρ ⟨s3, s4, rfl⟩
      rw [List.take_length]
      refine q_frz (i := 2) rfl ?_
      refine st_ret (ev_tup (ea_cons (ev_cb (ea_cons (ev_N (en_cb (by walk_at "ea") (cn_sortS (by omega)))) ea_nil) cd_tupL) (ea_cons (ev_cb (ea_cons (ev_N (en_cb (ea_cons (ev_var rfl) ea_nil) (cn_sortDT (qs := pairsOf ts) ?_))) ea_nil) cd_tupL) ea_nil)) (by show 2 ≤ sizeLine; rw [sizeLine_eq]; decide)) (by rfl)
      rw [List.map_map]
      rfl

theorem nodup_take {α : Type} {l : List α} (nd : l.Nodup) {i : Nat} (hi : i < l.length) (z : α) : l.getD i z ∉ l.take i := fun m => by
  have : (l.take (i + 1)).Nodup := nd.sublist (List.take_sublist _ _)
  rw [take_one hi z] at this
  exact (List.nodup_append.mp this).2.2 _ m _ (List.mem_singleton.mpr rfl) rfl
theorem nbOf {rs : List Str} {ps : List (Str × Str)} (W : WS rs ps) : ∀ p ∈ ps ++ corners, p.1 ∈ ensw ++ rs ∧ p.2 ∈ ensw ++ rs := fun p hp => by
  rw [mem_ensw, mem_ensw]
  rcases List.mem_append.mp hp with h | h
  · exact ⟨(W.one p h).1, (W.one p h).2.1⟩
  · exact ⟨List.mem_append_right _ (corner_sides p h).1, List.mem_append_right _ (corner_sides p h).2⟩
theorem ok_u_law_near (T : Txt K mg) (hd : FnP K "_law_near" s_u_law_near) (hm : mg "_law_near" = some (.ref (He.ga K "_law_near")))  : Okd P w K mg base CX0 1 "_law_near" ["scheme"] (sp_u_law_near K) := by
  obtain ⟨fd, F⟩ := hd
  refine ⟨hm, fd, fn_pf F sc_u_law_near ?_ (fun cdv A outer s H E hr => ⟨_, dv_u_law_near T  cdv A outer s H E hr, ?_⟩), F.bindsN (fun _ _ _ _ _ _ us hl => match us, hl with | [_], _ => rfl), F.kp⟩
  · rintro ds d ⟨x0, x1, rfl, _⟩
    rfl
  · rintro ds d ⟨rs, ps, rfl, W, rfl⟩
    refine ST.mono (P := fun o => o = .rt (nearD rs ps)) ?_ fun o h => .inl h
    show ST K E0 (t_u_law_near K) [.fr (.tuple [.tuple (rs.map PyData.str), .tuple (ps.map pqD)]), .no, .no, .no, .no] _
    unfold t_u_law_near
    have hr := W.many
    have hq := W.few
    refine q_asgL (kls := mkL ((ensw ++ rs).take 0) (fun _ => [])) el_new (by rfl) ?_
    have e1 : [PyData.str "E", PyData.str "N", PyData.str "S", PyData.str "W"] ++ rs.map PyData.str = (ensw ++ rs).map PyData.str := by rw [List.map_append]; rfl
    refine q_for (ei_listS (zs := ensw ++ rs) (ev_is (ev_N (by walk_at "evn")) (congrArg PyData.list e1))) (fun i ρ => ∃ s2 : Sl, ρ = [.fr (.tuple [.tuple (rs.map PyData.str), .tuple (ps.map pqD)]), .ne (mkL ((ensw ++ rs).take i) (fun _ => [])), s2, .no, .no]) ⟨_, rfl⟩ ?_ ?_
    · rintro i ρ hi ⟨s2, rfl⟩
      refine ⟨_, _, gt_name, ?_⟩
      have hn := nodup_take W.nodup2 hi Str.empty
      rw [take_one hi Str.empty]
      generalize (ensw ++ rs).getD i Str.empty = z at hn
      refine st_nput (k := .inr z) (ds := ([] : List Str).map PyData.str) (by rfl) (by walk_at "ev") rfl (getL_mk_none hn) (by exact en_lst ea_nil (Nat.zero_le _)) ?_ ?_
      · rw [mkL_len]
        have : ((ensw ++ rs).take i).length ≤ (ensw ++ rs).length := List.length_take_le' _ _
        rw [List.length_append] at this
        have h4 : ensw.length = 4 := rfl
        omega
      · rw [mkL_snoc (f := fun _ => []) rfl]
        exact ⟨_, rfl⟩
    rintro ρ ⟨s2, rfl⟩
    rw [List.take_length]
    have hk := nbOf W
    have e2 : ps.map pqD ++ [PyData.tuple [.str "E", .str "N"], .tuple [.str "N", .str "W"], .tuple [.str "S", .str "W"], .tuple [.str "E", .str "S"]] = (ps ++ corners).map pqD := by rw [List.map_append]; rfl
    have e3 : mkL (ensw ++ rs) (fun _ => []) = mkL (ensw ++ rs) fun k => occ ((ps ++ corners).take 0) k := rfl
    have hql : (ps ++ corners).length ≤ 104 := by
      rw [List.length_append]
      have : corners.length = 4 := rfl
      omega
    refine q_for (ei_listQ (qs := ps ++ corners) (ev_is (ev_N (by walk_at "evn")) (congrArg PyData.list e2))) (fun i ρ => ∃ s2 s3 s4 : Sl, ρ = [.fr (.tuple [.tuple (rs.map PyData.str), .tuple (ps.map pqD)]), .ne (mkL (ensw ++ rs) fun k => occ ((ps ++ corners).take i) k), s2, s3, s4]) ⟨_, _, _, by rw [← e3]⟩ ?_ ?_
    · rintro i ρ hi ⟨s2, s3, s4, rfl⟩
      obtain ⟨k1, k2⟩ := hk _ (getD_mem (z := (Str.empty, Str.empty)) hi)
      have hstep := fun k => occ_take hi k
      have hlen := fun k => occ_len ((ps ++ corners).take i) k
      have hl2 : ((ps ++ corners).take i).length ≤ 104 := Nat.le_trans (List.length_take_le _ _) (by omega)
      generalize (ps ++ corners).getD i (Str.empty, Str.empty) = p at k1 k2 hstep
      refine ⟨_, _, gt_tup rfl (gts_cons gt_name (gts_cons gt_name gts_nil)), ?_⟩
      refine q_napp (f := fun k => occ ((ps ++ corners).take i) k) (by rfl) (by walk_at "ev") k1 W.nodup2 (by walk_at "ev") ?_ ?_
      · have := hlen p.1
        omega
      refine st_napp (f := fun k => if k = p.1 then occ ((ps ++ corners).take i) k ++ [p.2] else occ ((ps ++ corners).take i) k) (by rfl) (by walk_at "ev") k2 W.nodup2 (by walk_at "ev") ?_ ?_
      · have := hlen p.2
        (split <;> (try simp only [List.length_append, List.length_cons, List.length_nil])) <;> omega
      · have e1 : (mkL (ensw ++ rs) fun k => if k = p.2 then (if k = p.1 then occ ((ps ++ corners).take i) k ++ [p.2] else occ ((ps ++ corners).take i) k) ++ [p.1] else if k = p.1 then occ ((ps ++ corners).take i) k ++ [p.2] else occ ((ps ++ corners).take i) k) = mkL (ensw ++ rs) fun k => occ ((ps ++ corners).take (i + 1)) k := mkL_congr fun k _ => by
          rw [hstep k]
          exact two_steps (f := fun k => occ ((ps ++ corners).take i) k) k
        exact ⟨_, _, _, by rw [e1]; rfl⟩
    · rintro ρ ⟨s2, s3, s4, rfl⟩
      rw [List.take_length]
      exact q_frzN (n := 1) (kls := mkL (ensw ++ rs) (nb ps)) (by rfl) (st_ret (ev_var rfl) (by rfl))
/-! hanging rooms, the law's way -/
def atSide (ps : List (Str × Str)) (z : Str) : Bool := decide (("E" : Str) ∈ nb ps z) || (decide (("N" : Str) ∈ nb ps z) || (decide (("W" : Str) ∈ nb ps z) || decide (("S" : Str) ∈ nb ps z)))
theorem atSide_iff {ps : List (Str × Str)} {z : Str} : atSide ps z = true ↔ ∃ s ∈ sides4, s ∈ nb ps z := by
  unfold atSide
  simp only [Bool.or_eq_true, decide_eq_true_eq]
  constructor
  · rintro (h | h | h | h)
    · exact ⟨"E", by decide +kernel, h⟩
    · exact ⟨"N", by decide +kernel, h⟩
    · exact ⟨"W", by decide +kernel, h⟩
    · exact ⟨"S", by decide +kernel, h⟩
  · rintro ⟨s, hs, h⟩
    rcases side_cases hs with rfl | rfl | rfl | rfl
    · exact .inl h
    · exact .inr (.inl h)
    · exact .inr (.inr (.inl h))
    · exact .inr (.inr (.inr h))
structure FInv (rs : List Str) (ps : List (Str × Str)) (k : Nat) (fs : List Str) : Prop where
  nd : fs.Nodup
  sub : ∀ z ∈ fs, z ∈ rs
  reach : ∀ z ∈ fs, Reach ps z
  init : ∀ z ∈ rs, atSide ps z = true → z ∈ fs
  closed : ∀ i, i < k → i < fs.length → ∀ y ∈ nb ps (fs.getD i Str.empty), y ∈ rs → y ∈ fs
section
variable {rs : List Str} {ps : List (Str × Str)} {fs : List Str} {k : Nat} {x : Str}
theorem FInv.len {k : Nat} (I : FInv rs ps k fs) : fs.length ≤ rs.length := nodup_le I.nd I.sub
theorem FInv.push (I : FInv rs ps k fs) (hk : k < fs.length) (hx : x ∈ nb ps (fs.getD k Str.empty)) (hr : x ∈ rs) (hn : x ∉ fs) : FInv rs ps k (fs ++ [x]) := by
  refine ⟨List.nodup_append.mpr ⟨I.nd, List.nodup_cons.mpr ⟨fun h => (by cases h), List.nodup_nil⟩, fun a ha b hb e => hn ?_⟩, fun z hz => ?_, fun z hz => ?_, fun z hz h => List.mem_append_left _ (I.init z hz h), fun i hi hl y hy hyr => ?_⟩
  · rw [List.mem_singleton.mp hb] at e
    rw [← e]
    exact ha
  · rcases List.mem_append.mp hz with h | h
    · exact I.sub z h
    · rw [List.mem_singleton.mp h]
      exact hr
  · rcases List.mem_append.mp hz with h | h
    · exact I.reach z h
    · rw [List.mem_singleton.mp h]
      exact (I.reach _ (getD_mem hk)).step hx
  · have hi2 : i < fs.length := by omega
    rw [List.getD_eq_getElem?_getD, List.getElem?_append_left hi2, ← List.getD_eq_getElem?_getD] at hy
    exact List.mem_append_left _ (I.closed i hi hi2 y hy hyr)
theorem FInv.next (I : FInv rs ps k fs) (h : k < fs.length → ∀ y ∈ nb ps (fs.getD k Str.empty), y ∈ rs → y ∈ fs) : FInv rs ps (k + 1) fs :=
  ⟨I.nd, I.sub, I.reach, I.init, fun i hi hl => by
    by_cases e : i = k
    · rw [e] at hl ⊢
      exact h hl
    · exact I.closed i (by omega) hl⟩
theorem FInv.start (W : WS rs ps) : FInv rs ps 0 (rs.filter (atSide ps)) := by
  refine ⟨((List.nodup_append.mp W.nodup).1).sublist List.filter_sublist, fun z hz => (List.mem_filter.mp hz).1, fun z hz => ?_, fun z hz h => List.mem_filter.mpr ⟨hz, h⟩, fun i hi => absurd hi (Nat.not_lt_zero _)⟩
  obtain ⟨s, hs, h⟩ := atSide_iff.mp (List.mem_filter.mp hz).2
  exact (Reach.side hs).step (nb_sym h)
theorem FInv.all (W : WS rs ps) (I : FInv rs ps rs.length fs) : srt ltS fs = hang rs ps := by
  have hl := I.len
  have key : ∀ z, Reach ps z → z ∈ sides4 ∨ z ∈ fs := by
    intro z h
    induction h with
    | side hz => exact .inl hz
    | @step a b ha hb ih =>
      have hbn := W.nbIn hb
      rcases List.mem_append.mp hbn with hbr | hbs
      · rcases ih with h | h
        · exact .inr (I.init b hbr (atSide_iff.mpr ⟨a, h, nb_sym hb⟩))
        · obtain ⟨i, hi, e⟩ := List.getElem_of_mem h
          refine .inr (I.closed i (by omega) hi b ?_ hbr)
          rw [List.getD_eq_getElem?_getD, List.getElem?_eq_getElem hi, Option.getD_some, e]
          exact hb
      · exact .inl hbs
  have hm : ∀ z, z ∈ hang rs ps ↔ z ∈ fs := fun z => by
    unfold hang
    rw [List.mem_filter]
    constructor
    · rintro ⟨h1, h2⟩
      rcases key z (by simpa using h2) with h | h
      · exact absurd h (W.rooms z h1)
      · exact h
    · exact fun h => ⟨I.sub z h, by simpa using I.reach z h⟩
  have hpw : (hang rs ps).Pairwise fun a b => ltS a b = true := W.up.sublist List.filter_sublist
  have hnd : (hang rs ps).Nodup := ((List.nodup_append.mp W.nodup).1).sublist List.filter_sublist
  exact (srt_uniq stoS ((List.perm_ext_iff_of_nodup hnd I.nd).mpr hm) (hpw.imp fun h => ltS_as h)).symm
end
theorem et_near {te tk : TE} {s : Str} {ρ : List Sl} {rs : List Str} {ps : List (Str × Str)} {z : Str} (h : EV K te ρ (nearD rs ps)) (hk : EV K tk ρ (.str z)) (hz : z ∈ rs ++ sides4) : ET K (tTest (tOp (rInU K) (tC (.str s)) (tDGet te tk))) ρ (decide (s ∈ nb ps z)) := by
  rw [← inD_str]
  exact et_test (ev_op ev_str (ev_nget (f := nb ps) h hk ((mem_ensw z).mpr hz)) (od_inL rfl (strs_flat _)))
theorem ok_u_law_hangs (T : Txt K mg) (hd : FnP K "_law_hangs" s_u_law_hangs) (hm : mg "_law_hangs" = some (.ref (He.ga K "_law_hangs")))  : Okd P w K mg base CX0 1 "_law_hangs" ["near", "rooms"] (sp_u_law_hangs K) := by
  obtain ⟨fd, F⟩ := hd
  refine ⟨hm, fd, fn_pf F sc_u_law_hangs ?_ (fun cdv A outer s H E hr => ⟨_, dv_u_law_hangs T  cdv A outer s H E hr, ?_⟩), F.bindsN (fun _ _ _ _ _ _ us hl => match us, hl with | [_, _], _ => rfl), F.kp⟩
  · rintro ds d ⟨x0, x1, rfl, _⟩
    rfl
  · rintro ds d ⟨rs, ps, rfl, W, rfl⟩
    refine ST.mono (P := fun o => o = .rt (.tuple ((hang rs ps).map PyData.str))) ?_ fun o h => .inl h
    show ST K E0 (t_u_law_hangs K) [.fr (nearD rs ps), .fr (.tuple (rs.map PyData.str)), .no, .no, .no, .no] _
    unfold t_u_law_hangs
    have hr := W.many
    refine q_asgN (d := .list ((rs.filter (atSide ps)).map PyData.str)) (en_is (en_lc (b := fun i => atSide ps (rs.getD i Str.empty)) (f := fun i => PyData.str (rs.getD i Str.empty)) (ei_tupS (zs := rs) (by walk_at "ev")) (by omega) fun i hi => ⟨_, _, gt_name, by simp, ?_, fun _ => by walk_at "ev"⟩) (congrArg PyData.list (lc_filterA (p := atSide ps) (h := PyData.str) Str.empty rs))) ?_
    · have hz : rs.getD i Str.empty ∈ rs ++ sides4 := List.mem_append_left _ (getD_mem hi)
      exact et_or (et_near (ev_var rfl) (ev_var rfl) hz) fun _ => et_or (et_near (ev_var rfl) (ev_var rfl) hz) fun _ => et_or (et_near (ev_var rfl) (ev_var rfl) hz) fun _ => et_near (ev_var rfl) (ev_var rfl) hz
    have hlen : (((rs.map PyData.str).length : Nat) : Int).toNat = rs.length := by rw [List.length_map]; rfl
    refine q_for (n := rs.length) (hlen ▸ ei_rng1 (n := ((rs.map PyData.str).length : Nat)) (by walk_at "ea") (by omega) (by rw [List.length_map]; omega)) (fun k ρ => ∃ (fs : List Str) (s4 s5 : Sl), FInv rs ps k fs ∧ ρ = [.fr (nearD rs ps), .fr (.tuple (rs.map PyData.str)), .ow (.list (fs.map PyData.str)), .no, s4, s5]) ⟨_, _, _, FInv.start W, rfl⟩ ?_ ?_
    · rintro k ρ hk ⟨fs, s4, s5, I, rfl⟩
      refine ⟨_, _, gt_name, ?_⟩
      have hfl := I.len
      refine st_if (b := decide ((k : Int) < (fs.length : Nat))) (et_is (by walk_at "et") (by rw [List.length_map])) (fun hb => ?_) (fun hb => st_next ?_)
      · have hkl : k < fs.length := by have := of_decide_eq_true hb; omega
        have hz : fs.getD k Str.empty ∈ rs ++ sides4 := List.mem_append_left _ (I.sub _ (getD_mem hkl))
        refine st_for (ei_listS (zs := nb ps (fs.getD k Str.empty)) (ev_nget (f := nb ps) (ev_var rfl) (ev_is (by walk_at "ev") (by rfl)) ((mem_ensw _).mpr hz))) (fun j ρ => ∃ (gs : List Str) (s5 : Sl), FInv rs ps k gs ∧ k < gs.length ∧ gs.getD k Str.empty = fs.getD k Str.empty ∧ (∀ y ∈ (nb ps (fs.getD k Str.empty)).take j, y ∈ rs → y ∈ gs) ∧ ρ = [.fr (nearD rs ps), .fr (.tuple (rs.map PyData.str)), .ow (.list (gs.map PyData.str)), .no, .fr (.int (k : Nat)), s5]) ⟨fs, _, I, hkl, rfl, fun y h => (by rw [List.take_zero] at h; cases h), rfl⟩ ?_ ?_
        · rintro j ρ hj ⟨gs, s5, I, hkl, hge, hd, rfl⟩
          refine ⟨_, _, gt_name, ?_⟩
          have hy := getD_mem (z := Str.empty) hj
          have hstep := take_one hj Str.empty
          generalize (nb ps (fs.getD k Str.empty)).getD j Str.empty = y at hy hstep
          refine st_if (b := decide (y ∈ rs) && !decide (y ∈ gs)) (et_and (et_is (a := inD (.str y) (rs.map PyData.str)) (by walk_at "et") inD_str) fun _ => et_is (a := !inD (.str y) (gs.map PyData.str)) (by walk_at "et") (by rw [inD_str])) (fun hb => ?_) (fun hb => st_next ?_)
          · rw [Bool.and_eq_true, decide_eq_true_eq, Bool.not_eq_true', decide_eq_false_iff_not] at hb
            refine st_append (ds := gs.map PyData.str) (by rfl) (by walk_at "ev") (by rw [List.length_map]; have := I.len; omega) ?_
            refine ⟨gs ++ [y], _, I.push hkl (by rw [hge]; exact hy) hb.1 hb.2, by rw [List.length_append]; omega, ?_, fun v hv hvr => ?_, by rw [List.map_append]; rfl⟩
            · rw [List.getD_eq_getElem?_getD, List.getElem?_append_left hkl, ← List.getD_eq_getElem?_getD]
              exact hge
            · rw [hstep] at hv
              rcases List.mem_append.mp hv with h | h
              · exact List.mem_append_left _ (hd v h hvr)
              · exact List.mem_append_right _ h
          · refine ⟨gs, _, I, hkl, hge, fun v hv hvr => ?_, rfl⟩
            rw [hstep] at hv
            rcases List.mem_append.mp hv with h | h
            · exact hd v h hvr
            · rw [List.mem_singleton.mp h] at hvr ⊢
              rw [decide_eq_true hvr] at hb
              simpa using hb
        · rintro ρ ⟨gs, s5, I, hkl, hge, hd, rfl⟩
          rw [List.take_length] at hd
          exact ⟨gs, _, _, I.next fun _ y hy hyr => hd y (by rw [← hge]; exact hy) hyr, rfl⟩
      · have hkl : ¬ k < fs.length := fun h => by have := of_decide_eq_false hb; omega
        exact ⟨fs, _, _, I.next fun h => absurd h hkl, rfl⟩
    · rintro ρ ⟨fs, s4, s5, I, rfl⟩
      have hfl := I.len
      refine q_frz (i := 2) rfl ?_
      refine st_ret (ev_cb (ea_cons (ev_N (en_cb (by walk_at "ea") (cn_sortS (by omega)))) ea_nil) cd_tupL) ?_
      rw [I.all W]

/-! _law_same of equal things -/
theorem same_walk {R : List D → D → Prop} {ds : List D} (hl : ds.length ≤ 1000) (h : ∀ i, i < ds.length → (∃ z, ds.getD i .none = .str z ∧ z.length ≤ 1000) ∨ ∃ es, ds.getD i .none = .tuple es ∧ R [.tuple es, .tuple es] (.bool true)) :
    ST K E0 (t_u_law_same K (PF K R)) [.fr (.tuple ds), .fr (.tuple ds), .no] (fun o => o = .rt (.bool true)) := by
  unfold t_u_law_same
  refine q_no (et_is (by walk_at "et") (by simp [isDicD])) ?_
  refine q_for (ei_rng1 (by walk_at "ea") (by omega) (by omega)) (fun i ρ => ∃ s, ρ = [.fr (.tuple ds), .fr (.tuple ds), s]) ⟨_, rfl⟩ ?_ ?_
  · rintro i ρ hi ⟨s2, rfl⟩
    have hi : i < ds.length := by omega
    have e : ds.getD ((i : Nat) : Int).toNat .none = ds.getD i .none := by rfl
    refine ⟨_, _, gt_name, ?_⟩
    have hx : ∀ n, n = 0 ∨ n = 1 → EV K (tOp (rIx K) (tVar n) (tVar 2)) (([Sl.fr (.tuple ds), .fr (.tuple ds), s2] : List Sl).set 2 (.fr (.int (i : Nat)))) (ds.getD i .none) := by
      rintro n (rfl | rfl)
      · exact ev_is (by walk_at "ev") e
      · exact ev_is (by walk_at "ev") e
    have hh := h i hi
    generalize ds.getD i .none = x at hx hh
    rcases hh with ⟨z, rfl, hzl⟩ | ⟨es, rfl, hr⟩
    · exact DL.st_no (et_trB (ev_isi (hx 1 (.inr rfl)) rfl rfl)) (DL.st_no (et_is (et_or (et_not (et_trB (ev_isi (hx 0 (.inl rfl)) rfl rfl))) fun _ => et_test (ev_op (hx 0 (.inl rfl)) (hx 1 (.inr rfl)) od_neS)) (by simp)) (st_next ⟨_, rfl⟩))
    · exact st_yes (et_trB (ev_isi (hx 1 (.inr rfl)) rfl rfl)) (DL.st_no (et_not (et_trB (ev_call (ea_cons (hx 0 (.inl rfl)) (ea_cons (hx 1 (.inr rfl)) ea_nil)) hr))) (st_next ⟨_, rfl⟩))
  · rintro ρ ⟨s2, rfl⟩
    exact st_ret (by walk_at "ev") (by rfl)
def pairT : D → Bool
  | .tuple [.str a, .str b] => decide (a.length ≤ 1000) && decide (b.length ≤ 1000)
  | _ => false
theorem pairT_cases {x : D} (h : pairT x = true) : ∃ a b : Str, x = .tuple [.str a, .str b] ∧ a.length ≤ 1000 ∧ b.length ≤ 1000 := by
  unfold pairT at h
  split at h
  · rw [Bool.and_eq_true, decide_eq_true_eq, decide_eq_true_eq] at h
    exact ⟨_, _, rfl, h⟩
  · cases h
def sp_same0 (K : PySem.W.Frag) : Sp := PF K fun ds d => ∃ x, ds = [x, x] ∧ pairT x = true ∧ d = .bool true
theorem ok_same0 (T : Txt K mg) (hd : FnP K "_law_same" s_u_law_same) (hm : mg "_law_same" = some (.ref (He.ga K "_law_same"))) : Okd P w K mg base CX0 1 "_law_same" ["told", "due"] (sp_same0 K) := by
  obtain ⟨fd, F⟩ := hd
  have b := F.bindsN (ps := ["told", "due"]) (fun _ _ _ _ _ _ us hl => match us, hl with | [_, _], _ => rfl)
  have O0 : Okd P w K mg base CX0 0 "_law_same" ["told", "due"] (PF K fun _ _ => False) := ⟨hm, fd, ⟨fun _ _ _ _ ⟨_, _, _, _, _, h, _⟩ => h.elim, fun _ _ _ _ _ _ _ _ _ _ _ _ _ ⟨_, _, _, _, _, h, _⟩ => h.elim⟩, b, F.kp⟩
  refine ⟨hm, fd, fn_pf F sc_u_law_same ?_ (fun cdv A outer s H E hr => ⟨_, dv_u_law_same T O0 cdv A outer s H E hr, ?_⟩), b, F.kp⟩
  · rintro ds d ⟨x, rfl, _⟩
    rfl
  · rintro ds d ⟨x, rfl, hx, rfl⟩
    obtain ⟨a, b, rfl, h1, h2⟩ := pairT_cases hx
    refine ST.mono (P := fun o => o = .rt (.bool true)) (same_walk (ds := [.str a, .str b]) (by show 2 ≤ 1000; decide) fun i hi => ?_) fun o h => .inl h
    match i, hi with
    | 0, _ => exact .inl ⟨a, rfl, h1⟩
    | 1, _ => exact .inl ⟨b, rfl, h2⟩
theorem sameD_all {ds : List D} (h : sameD (.tuple ds) = true) : ds.length ≤ 1000 ∧ ∀ x ∈ ds, (∃ z : Str, x = .str z ∧ z.length ≤ 1000) ∨ pairT x = true := by
  unfold sameD at h
  rw [Bool.and_eq_true, decide_eq_true_eq, List.all_eq_true] at h
  refine ⟨h.1, fun x hx => ?_⟩
  have := h.2 x hx
  split at this
  · rename_i z
    exact .inl ⟨z, rfl, of_decide_eq_true this⟩
  · exact .inr this
  · cases this
theorem ok_u_law_same (T : Txt K mg) (hd : FnP K "_law_same" s_u_law_same) (hm : mg "_law_same" = some (.ref (He.ga K "_law_same"))) : Okd P w K mg base CX0 2 "_law_same" ["told", "due"] (sp_u_law_same K) := by
  have O0 : Okd P w K mg base CX0 1 "_law_same" ["told", "due"] (sp_same0 K) := ok_same0 T hd hm
  obtain ⟨fd, F⟩ := hd
  refine ⟨hm, fd, fn_pf F sc_u_law_same ?_ (fun cdv A outer s H E hr => ⟨_, dv_u_law_same T O0 cdv A outer s H E hr, ?_⟩), F.bindsN (fun _ _ _ _ _ _ us hl => match us, hl with | [_, _], _ => rfl), F.kp⟩
  · rintro ds d ⟨x, rfl, _⟩
    rfl
  · rintro ds d ⟨x, rfl, hx, rfl⟩
    cases x with
    | tuple ds =>
      obtain ⟨h1, h2⟩ := sameD_all hx
      refine ST.mono (P := fun o => o = .rt (.bool true)) (same_walk h1 fun i hi => ?_) fun o h => .inl h
      rcases h2 _ (getD_mem (z := PyData.none) hi) with h | h
      · exact .inl h
      · obtain ⟨a, b, e, _, _⟩ := pairT_cases h
        exact .inr ⟨_, e, _, rfl, by rw [← e]; exact h, rfl⟩
    | _ => cases hx
theorem sameS {zs : List Str} (hl : zs.length ≤ 1000) (h : ∀ z ∈ zs, z.length ≤ 1000) : sameD (.tuple (zs.map PyData.str)) = true := by
  unfold sameD
  dsimp only
  rw [List.length_map, Bool.and_eq_true, decide_eq_true_eq, List.all_map, List.all_eq_true]
  exact ⟨hl, fun z hz => decide_eq_true (h z hz)⟩
theorem sameQ {qs : List (Str × Str)} (hl : qs.length ≤ 1000) (h : ∀ q ∈ qs, q.1.length ≤ 1000 ∧ q.2.length ≤ 1000) : sameD (.tuple (qs.map pqD)) = true := by
  unfold sameD
  dsimp only
  rw [List.length_map, Bool.and_eq_true, decide_eq_true_eq, List.all_map, List.all_eq_true]
  refine ⟨hl, fun q hq => ?_⟩
  show (decide (q.1.length ≤ 1000) && decide (q.2.length ≤ 1000)) = true
  rw [Bool.and_eq_true, decide_eq_true_eq, decide_eq_true_eq]
  exact h q hq
section
variable {rs : List Str} {ps : List (Str × Str)}
theorem WS.short (W : WS rs ps) {z : Str} (h : z ∈ rs ++ sides4) : z.length ≤ 8 := by
  rcases List.mem_append.mp h with h | h
  · exact W.small z h
  · exact (by decide +kernel : ∀ z ∈ sides4, z.length ≤ 8) z h
theorem WS.sameNb (W : WS rs ps) {l : List Str} {k : Str} (h : ∀ z ∈ l, z ∈ nb ps k) (hl : l.length ≤ (nb ps k).length) : sameD (.tuple ((srt ltS l).map PyData.str)) = true := by
  have := W.nbLen k
  refine sameS (by rw [srt_len]; omega) fun z hz => ?_
  have := W.short (W.nbIn (h z (mem_srt.mp hz)))
  omega
end
theorem ok_u_law_right (T : Txt K mg) (hd : FnP K "_law_right" s_u_law_right) (hm : mg "_law_right" = some (.ref (He.ga K "_law_right"))) (O_are_neighbours : Okd P w K mg base CX0 4 "are_neighbours" ["scheme", "one", "other"] (sp_are_neighbours K)) (O_u_law_same : Okd P w K mg base CX0 2 "_law_same" ["told", "due"] (sp_u_law_same K)) (O_common_neighbours : Okd P w K mg base CX0 4 "common_neighbours" ["scheme", "one", "other"] (sp_common_neighbours K)) : Okd P w K mg base CX0 5 "_law_right" ["scheme", "near", "one", "other"] (sp_u_law_right K) := by
  obtain ⟨fd, F⟩ := hd
  refine ⟨hm, fd, fn_pf F sc_u_law_right ?_ (fun cdv A outer s H E hr => ⟨_, dv_u_law_right T O_are_neighbours O_u_law_same O_common_neighbours cdv A outer s H E hr, ?_⟩), F.bindsN (fun _ _ _ _ _ _ us hl => match us, hl with | [_, _, _, _], _ => rfl), F.kp⟩
  · rintro ds d ⟨x0, x1, x2, x3, rfl, _⟩
    rfl
  · rintro ds d ⟨rs, ps, a, b, rfl, W, ha, hb, rfl⟩
    refine ST.mono (P := fun o => o = .rt (.bool true)) ?_ fun o h => .inl h
    show ST K E0 (t_u_law_right K) [.fr (schD rs ps), .fr (nearD rs ps), .fr (.str a), .fr (.str b), .no, .no, .no] _
    unfold t_u_law_right sp_are_neighbours sp_common_neighbours sp_u_law_same
    refine q_asg (d := .bool (decide (b ∈ nb ps a))) (ev_call (by walk_at "ea") ⟨rs, ps, a, b, rfl, W, ha, rfl⟩) ?_
    have hin : ∀ {ρ : List Sl} {te tk tx : TE} {x z : Str}, EV K te ρ (nearD rs ps) → EV K tk ρ (.str z) → EV K tx ρ (.str x) → z ∈ rs ++ sides4 → EV K (tOp (rInU K) tx (tDGet te tk)) ρ (.bool (decide (x ∈ nb ps z))) := by
      intro ρ te tk tx x z h1 h2 h3 hz
      rw [← inD_str]
      exact ev_op h3 (ev_nget (f := nb ps) h1 h2 ((mem_ensw z).mpr hz)) (od_inL rfl (strs_flat _))
    refine q_no (et_is (et_or (et_not (et_trB (ev_isi (by walk_at "ev") rfl rfl))) fun _ => et_test (ev_op (by walk_at "ev") (hin (ev_var rfl) (ev_var rfl) (ev_var rfl) ha) od_neB)) (by simp)) ?_
    refine q_when (b := decide (a = b)) (by walk_at "et") (fun _ => st_ret (by walk_at "ev") (by rfl)) (fun _ => ?_)
    have hl := W.nbLen a
    refine q_asg (d := .tuple ((common ps a b).map PyData.str)) (ev_cb (ea_cons (ev_N (en_cb (ea_cons (ev_N (en_is (en_lc (b := fun i => (fun z => decide (z ∈ nb ps b)) ((nb ps a).getD i Str.empty)) (f := fun i => PyData.str ((nb ps a).getD i Str.empty)) (ei_listS (zs := nb ps a) (ev_nget (f := nb ps) (ev_var rfl) (by walk_at "ev") ((mem_ensw a).mpr ha))) (by omega) fun i hi => ⟨_, _, gt_name, by simp, et_test (hin (ev_var rfl) (ev_var rfl) (ev_var rfl) hb), fun _ => by walk_at "ev"⟩) (congrArg PyData.list (lc_filterA (p := fun z => decide (z ∈ nb ps b)) (h := PyData.str) Str.empty (nb ps a))))) ea_nil) (cn_sortS (Nat.lt_of_le_of_lt (List.length_filter_le _ _) hl)))) ea_nil) cd_tupL) ?_
    refine st_ret (ev_call (ea_cons (ev_call (by walk_at "ea") ⟨rs, ps, a, b, rfl, W, ha, hb, rfl⟩) (ea_cons (ev_var rfl) ea_nil)) ⟨_, rfl, ?_, rfl⟩) (by rfl)
    exact W.sameNb (k := a) (fun z hz => (List.mem_filter.mp hz).1) (List.length_filter_le _ _)

def goodL : List Nat → Prop
  | [] => False
  | c :: r => c ∈ sL.cps.toList ∧ ∀ x ∈ r, x ∈ sL.cps.toList ∨ x ∈ sF.cps.toList
def goodS (z : Str) : Prop := goodL z.cps.toList
theorem goodL_app {a b : List Nat} (h : goodL a) (k : ∀ x ∈ b, x ∈ sL.cps.toList ∨ x ∈ sF.cps.toList) : goodL (a ++ b) := by
  cases a with
  | nil => exact h.elim
  | cons c r =>
    refine ⟨h.1, fun x hx => ?_⟩
    rcases List.mem_append.mp hx with hx | hx
    · exact h.2 x hx
    · exact k x hx
def qk (k : Nat) : Str := "q" ++ strI (1000 + (k : Nat))
theorem qk_facts : ∀ k : Nat, k < 42 → ((qk k).cps.toList.head? = some 113 ∧ (qk k).length = 5 ∧ (113 ∈ sL.cps.toList) ∧ ((qk k).cps.toList.tail.all fun x => decide (x ∈ sL.cps.toList) || decide (x ∈ sF.cps.toList)) = true) ∧ ∀ j : Nat, j < 42 → qk j = qk k → j = k := by decide +kernel
theorem qk_good {k : Nat} (h : k < 42) : goodS (qk k) := by
  obtain ⟨⟨h1, _, h3, h4⟩, _⟩ := qk_facts k h
  unfold goodS
  cases e : (qk k).cps.toList with
  | nil => rw [e] at h1; cases h1
  | cons c r =>
    rw [e] at h1 h4
    injection h1 with h1
    subst h1
    refine ⟨h3, fun x hx => ?_⟩
    have := List.all_eq_true.mp h4 x hx
    simpa using this
theorem head_facts : ∀ i : Nat, i < 25 → ("abcdefghijklmnoprstuvwxyz" : Str).cps.toList.getD i 0 ∈ sL.cps.toList ∧ ("abcdefghijklmnoprstuvwxyz" : Str).cps.toList.getD i 0 ≠ 113 := by decide +kernel
theorem tail_facts : ∀ i : Nat, i < 8 → ("0rbz9eno" : Str).cps.toList.getD i 0 ∈ sL.cps.toList ∨ ("0rbz9eno" : Str).cps.toList.getD i 0 ∈ sF.cps.toList := by decide +kernel
theorem tail_good {z : Str} {p : Int} (h : goodS z) : ∀ n, goodS (tailS z p n)
  | 0 => h
  | n + 1 => by
    unfold tailS goodS
    rw [app_list]
    refine goodL_app (tail_good h n) fun x hx => ?_
    rw [chS_list] at hx
    rw [List.mem_singleton.mp hx]
    exact tail_facts _ (mod_nat (k := 8) rfl (by decide))
theorem tail_head {z : Str} {p : Int} (h : goodS z) : ∀ n, (tailS z p n).cps.toList.head? = z.cps.toList.head?
  | 0 => rfl
  | n + 1 => by
    unfold tailS
    rw [app_list, ← tail_head h n]
    have := tail_good (p := p) h n
    unfold goodS at this
    cases e : (tailS z p n).cps.toList with
    | nil => rw [e] at this; exact this.elim
    | cons c r => rfl
def Fr (n : Nat) (z : Str) : Prop := (∃ j, j < n ∧ z = qk j) ∨ z.cps.toList.head? ≠ some 113 ∨ 5 < z.length
theorem tail_fr {z : Str} {p : Int} {n : Nat} (hn : n ≤ 42) (hg : goodS z) (h : Fr n z) (t : Nat) : Fr (n + 1) (tailS z p t) := by
  have hl := tail_len z p t
  rcases h with ⟨j, hj, rfl⟩ | h | h
  · cases t with
    | zero => exact .inl ⟨j, by omega, rfl⟩
    | succ t =>
      have := (qk_facts j (by omega)).1.2.1
      exact .inr (.inr (by omega))
  · exact .inr (.inl (by rw [tail_head hg]; exact h))
  · exact .inr (.inr (by omega))
theorem names_all (ps : List Int) (b : Int) : ∀ n, n ≤ 42 → (∀ z ∈ namesK ps b n, goodS z ∧ Fr n z) ∧ (namesK ps b n).Nodup
  | 0, _ => ⟨fun z h => (by cases h), List.nodup_nil⟩
  | n + 1, hn => by
    obtain ⟨ih, nd⟩ := names_all ps b n (by omega)
    have hl := namesK_len ps b n
    unfold namesK
    generalize namesK ps b n = ns at ih nd hl ⊢
    have key : goodS (nameAt ps b n ns) ∧ Fr (n + 1) (nameAt ps b n ns) ∧ nameAt ps b n ns ∉ ns := by
      unfold nameAt
      dsimp only
      generalize pI ps (b + (n : Nat)) = p
      have h0 : goodS (chS "abcdefghijklmnoprstuvwxyz" (p % 25)) ∧ Fr n (chS "abcdefghijklmnoprstuvwxyz" (p % 25)) := by
        obtain ⟨f1, f2⟩ := head_facts (p % 25).toNat (mod_nat (k := 25) rfl (by decide))
        refine ⟨⟨f1, fun x hx => (by cases hx)⟩, .inr (.inl ?_)⟩
        rw [chS_list]
        intro e
        injection e with e
        exact f2 e
      have h1 : goodS (if (decide (p / 25 % 5 = 0) && decide ((n : Int) > 0)) = true then ns.getD (n - 1) Str.empty else chS "abcdefghijklmnoprstuvwxyz" (p % 25)) ∧ Fr n (if (decide (p / 25 % 5 = 0) && decide ((n : Int) > 0)) = true then ns.getD (n - 1) Str.empty else chS "abcdefghijklmnoprstuvwxyz" (p % 25)) := by
        split
        · rename_i hc
          rw [Bool.and_eq_true, decide_eq_true_eq, decide_eq_true_eq] at hc
          have hlt : n - 1 < ns.length := by omega
          rw [List.getD_eq_getElem?_getD, List.getElem?_eq_getElem hlt]
          exact ih _ (List.getElem_mem hlt)
        · exact h0
      generalize (if (decide (p / 25 % 5 = 0) && decide ((n : Int) > 0)) = true then ns.getD (n - 1) Str.empty else chS "abcdefghijklmnoprstuvwxyz" (p % 25)) = z1 at h1 ⊢
      have g2 := tail_good (p := p / 25) h1.1 (p / 25 / 5 % 4).toNat
      have f2 := tail_fr (p := p / 25) (by omega) h1.1 h1.2 (p / 25 / 5 % 4).toNat
      generalize tailS z1 (p / 25) (p / 25 / 5 % 4).toNat = z2 at g2 f2 ⊢
      split
      · refine ⟨qk_good (by omega), .inl ⟨n, by omega, rfl⟩, fun hm => ?_⟩
        obtain ⟨⟨q1, q2, _, _⟩, q3⟩ := qk_facts n (by omega)
        rcases (ih _ hm).2 with ⟨j, hj, e⟩ | e | e
        · have := q3 j (by omega) e.symm
          omega
        · exact e q1
        · have e : 5 < (qk n).length := e
          omega
      · rename_i hc
        refine ⟨g2, f2, fun hm => hc ?_⟩
        rw [inD_str, decide_eq_true hm, Bool.or_true]
    refine ⟨fun z hz => ?_, ?_⟩
    · rcases List.mem_append.mp hz with hz | hz
      · refine ⟨(ih z hz).1, ?_⟩
        rcases (ih z hz).2 with ⟨j, hj, e⟩ | e | e
        · exact .inl ⟨j, by omega, e⟩
        · exact .inr (.inl e)
        · exact .inr (.inr e)
      · rw [List.mem_singleton.mp hz]
        exact ⟨key.1, key.2.1⟩
    · refine List.nodup_append.mpr ⟨nd, List.nodup_cons.mpr ⟨fun h => (by cases h), List.nodup_nil⟩, fun a ha c hc e => ?_⟩
      rw [List.mem_singleton.mp hc] at e
      subst e
      exact key.2.2 ha
theorem good_side {z : Str} (h : goodS z) : z ∉ sides4 := fun m => by
  have : ∀ z ∈ sides4, ∃ c, z.cps.toList = [c] ∧ c ∉ sL.cps.toList := by
    intro z hz
    rcases side_cases hz with rfl | rfl | rfl | rfl
    · exact ⟨69, by decide +kernel, by decide +kernel⟩
    · exact ⟨78, by decide +kernel, by decide +kernel⟩
    · exact ⟨87, by decide +kernel, by decide +kernel⟩
    · exact ⟨83, by decide +kernel, by decide +kernel⟩
  obtain ⟨c, e, hc⟩ := this z m
  unfold goodS at h
  rw [e] at h
  exact hc h.1
def TouchOk (rs : List Str) (t : Str × Str) : Prop := t.1 ∈ rs ∧ t.2 ∈ rs ++ sides4
theorem pairs_ok {rs : List Str} : ∀ {ts : List (Str × Str)}, (∀ t ∈ ts, TouchOk rs t) → ∀ {qs : List (Str × Str)}, qs.Nodup → (∀ p ∈ qs, ltS p.1 p.2 = true ∧ p.1 ∈ rs ++ sides4 ∧ p.2 ∈ rs ++ sides4 ∧ (p.1 ∈ rs ∨ p.2 ∈ rs)) →
    (ts.foldl stepP qs).Nodup ∧ ∀ p ∈ ts.foldl stepP qs, ltS p.1 p.2 = true ∧ p.1 ∈ rs ++ sides4 ∧ p.2 ∈ rs ++ sides4 ∧ (p.1 ∈ rs ∨ p.2 ∈ rs)
  | [], _, qs, nd, h => ⟨nd, h⟩
  | t :: r, ht, qs, nd, h => by
    rw [List.foldl_cons]
    refine pairs_ok (fun u hu => ht u (List.mem_cons_of_mem _ hu)) ?_ ?_
    · unfold stepP
      split
      · exact nd
      · generalize (if ltS t.1 t.2 = true then t else (t.2, t.1)) = u
        unfold addP
        split
        · exact nd
        · rename_i hn
          refine List.nodup_append.mpr ⟨nd, List.nodup_cons.mpr ⟨fun h => (by cases h), List.nodup_nil⟩, fun a ha c hc e => hn ?_⟩
          rw [List.mem_singleton.mp hc] at e
          exact e ▸ ha
    · intro p hp
      have key : p ∈ qs ∨ (t.1 ≠ t.2 ∧ p = if ltS t.1 t.2 = true then t else (t.2, t.1)) := by
        unfold stepP at hp
        split at hp
        · exact .inl hp
        · rename_i hne
          generalize (if ltS t.1 t.2 = true then t else (t.2, t.1)) = u at hp ⊢
          unfold addP at hp
          split at hp
          · exact .inl hp
          · rcases List.mem_append.mp hp with m | m
            · exact .inl m
            · exact .inr ⟨hne, List.mem_singleton.mp m⟩
      rcases key with m | ⟨hne, rfl⟩
      · exact h p m
      · obtain ⟨t1, t2⟩ := ht t (List.mem_cons_self ..)
        cases q : ltS t.1 t.2 with
        | true =>
          rw [if_pos rfl]
          exact ⟨q, List.mem_append_left _ t1, t2, .inl t1⟩
        | false =>
          rw [if_neg Bool.false_ne_true]
          refine ⟨?_, t2, List.mem_append_left _ t1, .inr t1⟩
          cases q2 : ltS t.2 t.1 with
          | true => rfl
          | false => exact absurd (ltS_eq q q2) hne
theorem ws_of {rs : List Str} {ts : List (Str × Str)} (nd : rs.Nodup) (hg : ∀ z ∈ rs, goodS z ∧ z.length ≤ 8) (hl : rs.length ≤ 40) (ht : ∀ t ∈ ts, TouchOk rs t) (htl : ts.length ≤ 100) : WS (srt ltS rs) (srt ltQ (pairsOf ts)) := by
  obtain ⟨p1, p2⟩ := pairs_ok ht List.nodup_nil (fun p h => (by cases h))
  have hm : ∀ z, z ∈ srt ltS rs ++ sides4 ↔ z ∈ rs ++ sides4 := fun z => by rw [List.mem_append, List.mem_append, mem_srt]
  refine ⟨by rw [srt_len]; exact hl, fun z hz => (hg z (mem_srt.mp hz)).2, sorted_lt stoS (srt_pw stoS rs) ((srt_perm (lt := ltS) rs).nodup_iff.mpr nd), fun z hz => good_side (hg z (mem_srt.mp hz)).1, (srt_perm (lt := ltQ) _).nodup_iff.mpr p1, fun p hp => (p2 p (mem_srt.mp hp)).1, fun p hp => ?_, ?_⟩
  · obtain ⟨_, b, c, d⟩ := p2 p (mem_srt.mp hp)
    exact ⟨(hm _).mpr b, (hm _).mpr c, d.imp mem_srt.mpr mem_srt.mpr⟩
  · rw [srt_len]
    exact Nat.le_trans (pairs_len ts) htl
theorem lcD_ex {α : Type} {Pr : α → Prop} {h : α → D} {b : Nat → Bool} {f : Nat → D} : ∀ {n : Nat}, (∀ i, i < n → b i = true → ∃ x, Pr x ∧ f i = h x) → ∃ xs : List α, lcD n b f = xs.map h ∧ xs.length ≤ n ∧ ∀ x ∈ xs, Pr x
  | 0, _ => ⟨[], rfl, Nat.le_refl _, fun x h => (by cases h)⟩
  | n + 1, hf => by
    obtain ⟨xs, e, hl, hp⟩ := lcD_ex (n := n) (h := h) fun i hi => hf i (by omega)
    unfold lcD
    cases q : b n with
    | false => exact ⟨xs, by rw [if_neg Bool.false_ne_true, e], by omega, hp⟩
    | true =>
      obtain ⟨x, h1, h2⟩ := hf n (by omega) q
      refine ⟨xs ++ [x], by rw [if_pos rfl, e, h2, List.map_append]; rfl, by rw [List.length_append]; simp; omega, fun y hy => ?_⟩
      rcases List.mem_append.mp hy with m | m
      · exact hp y m
      · rw [List.mem_singleton.mp m]
        exact h1
theorem nm_ok (ps : List Int) (b : Int) {n : Nat} (hn : n ≤ 40) : (namesK ps b n).Nodup ∧ (∀ z ∈ namesK ps b n, goodS z ∧ z.length ≤ 8) ∧ (namesK ps b n).length = n :=
  ⟨(names_all ps b n (by omega)).2, fun z hz => ⟨((names_all ps b n (by omega)).1 z hz).1, namesK_small ps b n (by omega) z hz⟩, namesK_len ps b n⟩
theorem s4_str : sides4.map PyData.str = [.str "E", .str "N", .str "W", .str "S"] := rfl
theorem pick_at {zs : List Str} {x : Int} {m : Int} (hm : m = (zs.length : Nat)) (h : 0 < zs.length) : atI (zs.map PyData.str) (x % m) = some (.str (zs.getD (x % m).toNat Str.empty)) := by
  subst hm
  exact atI_strs (Int.emod_nonneg _ (by omega)) (Int.emod_lt_of_pos _ (by omega))
theorem pick_mem {zs : List Str} {x : Int} {m : Int} (hm : m = (zs.length : Nat)) (h : 0 < zs.length) : zs.getD (x % m).toNat Str.empty ∈ zs := getD_mem (mod_nat hm h)
theorem ok_u_law_small (T : Txt K mg) (hd : FnP K "_law_small" s_u_law_small) (hm : mg "_law_small" = some (.ref (He.ga K "_law_small"))) (O_u_law_names : Okd P w K mg base CX0 1 "_law_names" ["pool", "begin", "many"] (sp_u_law_names K)) (O_u_law_scheme : Okd P w K mg base CX0 1 "_law_scheme" ["rooms", "touches"] (sp_u_law_scheme K)) : Okd P w K mg base CX0 2 "_law_small" ["pool"] (sp_u_law_small K) := by
  obtain ⟨fd, F⟩ := hd
  refine ⟨hm, fd, fn_pq F sc_u_law_small ?_ (fun cdv A outer s H E hr => ⟨_, dv_u_law_small T O_u_law_names O_u_law_scheme cdv A outer s H E hr, ?_⟩), F.bindsN (fun _ _ _ _ _ _ us hl => match us, hl with | [_], _ => rfl), F.kp⟩
  · rintro ds ⟨x0, rfl, _⟩
    rfl
  · rintro ds ⟨ps, rfl, hp⟩
    show ST K E0 (t_u_law_small K) [.fr (.list (ps.map PyData.int)), .no, .no, .no, .no] _
    unfold t_u_law_small sp_u_law_names sp_u_law_scheme
    have hmm : 0 ≤ pI ps 0 / 7 % 8 ∧ pI ps 0 / 7 % 8 < 8 := ⟨Int.emod_nonneg _ (by decide), Int.emod_lt_of_pos _ (by decide)⟩
    refine q_asg (d := .list ((namesK ps 0 (1 + pI ps 0 / 7 % 8).toNat).map PyData.str)) (ev_call (ea_cons (by walk_at "ev") (ea_cons (by walk_at "ev") (ea_cons (ev_op (by walk_at "ev") (ev_op (ev_op (ev_op (by walk_at "ev") (by walk_at "ev") (od_ixL (pI_get (by decide) (by omega)))) (by walk_at "ev") (od_div (by decide))) (by walk_at "ev") (od_mod (by decide))) od_addI) ea_nil))) ⟨ps, 0, _, rfl, by decide, by omega, by omega, by omega, rfl⟩) ?_
    obtain ⟨n1, n2, n3⟩ := nm_ok ps 0 (n := (1 + pI ps 0 / 7 % 8).toNat) (by omega)
    have hrl : 1 ≤ (namesK ps 0 (1 + pI ps 0 / 7 % 8).toNat).length ∧ (namesK ps 0 (1 + pI ps 0 / 7 % 8).toNat).length ≤ 8 := by omega
    generalize namesK ps 0 (1 + pI ps 0 / 7 % 8).toNat = rs at n1 n2 hrl
    refine q_asgN (d := .list (([] : List (Str × Str)).map pqD)) (by exact en_lst ea_nil (Nat.zero_le _)) ?_
    have h30 : 0 ≤ pI ps 1 % 30 ∧ pI ps 1 % 30 < 30 := ⟨Int.emod_nonneg _ (by decide), Int.emod_lt_of_pos _ (by decide)⟩
    refine q_for (ei_rng1 (ea_cons (ev_op (ev_op (by walk_at "ev") (by walk_at "ev") (od_ixL (pI_get (by decide) (by omega)))) (by walk_at "ev") (od_mod (by decide))) ea_nil) (by omega) (by omega)) (fun i ρ => ∃ (ts : List (Str × Str)) (s3 s4 : Sl), ts.length = i ∧ (∀ t ∈ ts, TouchOk rs t) ∧ ρ = [.fr (.list (ps.map PyData.int)), .fr (.list (rs.map PyData.str)), .ow (.list (ts.map pqD)), s3, s4]) ⟨[], _, _, rfl, fun t h => (by cases h), rfl⟩ ?_ ?_
    · rintro i ρ hi ⟨ts, s3, s4, hl, ht, rfl⟩
      have hi : i < 30 := by omega
      refine ⟨_, _, gt_name, ?_⟩
      refine q_asg (d := .list ((rs ++ sides4).map PyData.str)) (ev_is (ev_N (by walk_at "evn")) (by rw [List.map_append]; rfl)) ?_
      have hpi : ∀ n, n = 0 → EV K (tOp (rIx K) (tVar n) (tOp (rAddU K) (tC (.int 10)) (tVar 3))) [.fr (.list (ps.map PyData.int)), .fr (.list (rs.map PyData.str)), .ow (.list (ts.map pqD)), .fr (.int (i : Nat)), .fr (.list ((rs ++ sides4).map PyData.str))] (.int (pI ps (10 + (i : Nat)))) := by
        rintro n rfl
        exact ev_op (by walk_at "ev") (by walk_at "ev") (od_ixL (pI_get (by omega) (by omega)))
      generalize pI ps (10 + (i : Nat)) = x at hpi
      have hl4 : 0 < (rs ++ sides4).length := by rw [List.length_append]; omega
      obtain ⟨t, hte⟩ : ∃ t : Str × Str, t = (rs.getD (x % ((rs.map PyData.str).length : Nat)).toNat Str.empty, (rs ++ sides4).getD (x / 9 % (((rs ++ sides4).map PyData.str).length : Nat)).toNat Str.empty) := ⟨_, rfl⟩
      have htk : TouchOk rs t := by rw [hte]; exact ⟨pick_mem (by rw [List.length_map]) (by omega), pick_mem (by rw [List.length_map]) hl4⟩
      refine st_append (ds := ts.map pqD) (d := pqD t) (by rfl) (by rw [hte]; exact (ev_tup (ea_cons (ev_op (by walk_at "ev") (ev_op (hpi 0 rfl) (by walk_at "ev") (od_mod (by rw [List.length_map]; omega))) (od_ixL (pick_at (by rw [List.length_map]) (by omega)))) (ea_cons (ev_op (by walk_at "ev") (ev_op (ev_op (hpi 0 rfl) (by walk_at "ev") (od_div (by decide))) (by walk_at "ev") (od_mod (by rw [List.length_map]; omega))) (od_ixL (pick_at (by rw [List.length_map]) hl4))) ea_nil)) (by show 2 ≤ sizeLine; rw [sizeLine_eq]; decide))) (by rw [List.length_map]; omega) ?_
      refine ⟨ts ++ [t], _, _, by rw [List.length_append, hl]; rfl, fun u h => ?_, by rw [List.map_append (l₁ := ts)]; rfl⟩
      rcases List.mem_append.mp h with h | h
      · exact ht u h
      · rw [List.mem_singleton.mp h]
        exact htk
    · rintro ρ ⟨ts, s3, s4, hl, ht, rfl⟩
      have htl : ts.length ≤ 100 := by omega
      refine q_frz (i := 2) rfl (st_ret (ev_call (by walk_at "ea") ⟨rs, ts, rfl, by omega, htl, rfl⟩) ?_)
      exact ⟨_, rfl, _, _, rfl, ws_of n1 n2 (by omega) ht htl, by rw [srt_len]; omega⟩

theorem enws_at {x : Int} : atI ("ENWS" : Str).cps.toList (x % 4) = some (("ENWS" : Str).cps.toList.getD (x % 4).toNat 0) := ch_at (Int.emod_nonneg _ (by decide)) (by rw [len4]; exact Int.emod_lt_of_pos _ (by decide))
theorem dirS_side (x : Int) : dirS x ∈ sides4 := by
  have : ∀ k : Nat, k < 4 → (⟨#[("ENWS" : Str).cps.toList.getD k 0]⟩ : Str) ∈ sides4 := by decide +kernel
  exact this _ (mod_nat (k := 4) rfl (by decide))
/-- one touch more -/
theorem more_touch {rs : List Str} {ts : List (Str × Str)} {t : Str × Str} (ht : ∀ t ∈ ts, TouchOk rs t) (h : TouchOk rs t) : ∀ u ∈ ts ++ [t], TouchOk rs u := fun u hu => by
  rcases List.mem_append.mp hu with m | m
  · exact ht u m
  · rw [List.mem_singleton.mp m]
    exact h
theorem ok_u_law_wide (T : Txt K mg) (hd : FnP K "_law_wide" s_u_law_wide) (hm : mg "_law_wide" = some (.ref (He.ga K "_law_wide"))) (O_u_law_names : Okd P w K mg base CX0 1 "_law_names" ["pool", "begin", "many"] (sp_u_law_names K)) (O_u_law_scheme : Okd P w K mg base CX0 1 "_law_scheme" ["rooms", "touches"] (sp_u_law_scheme K)) : Okd P w K mg base CX0 2 "_law_wide" ["pool"] (sp_u_law_wide K) := by
  obtain ⟨fd, F⟩ := hd
  refine ⟨hm, fd, fn_pq F sc_u_law_wide ?_ (fun cdv A outer s H E hr => ⟨_, dv_u_law_wide T O_u_law_names O_u_law_scheme cdv A outer s H E hr, ?_⟩), F.bindsN (fun _ _ _ _ _ _ us hl => match us, hl with | [_], _ => rfl), F.kp⟩
  · rintro ds ⟨x0, rfl, _⟩
    rfl
  · rintro ds ⟨ps, rfl, hp⟩
    show ST K E0 (t_u_law_wide K) [.fr (.list (ps.map PyData.int)), .no, .no, .no, .no] _
    unfold t_u_law_wide sp_u_law_names sp_u_law_scheme
    refine q_asg (d := .list ((namesK ps 50 40).map PyData.str)) (ev_call (by walk_at "ea") ⟨ps, 50, 40, rfl, by decide, by decide, by decide, by omega, rfl⟩) ?_
    obtain ⟨n1, n2, n3⟩ := nm_ok ps 50 (n := 40) (by omega)
    generalize namesK ps 50 40 = rs at n1 n2 n3
    have hf : 0 ≤ pI ps 2 % 41 ∧ pI ps 2 % 41 < 41 := ⟨Int.emod_nonneg _ (by decide), Int.emod_lt_of_pos _ (by decide)⟩
    refine q_asg (d := .int (pI ps 2 % 41)) (ev_op (ev_op (by walk_at "ev") (by walk_at "ev") (od_ixL (pI_get (by decide) (by omega)))) (by walk_at "ev") (od_mod (by decide))) ?_
    generalize pI ps 2 % 41 = first at hf
    have hroom : ∀ {ρ : List Sl} {te : TE} {j : Int}, ρ[1]? = some (.fr (.list (rs.map PyData.str))) → EV K te ρ (.int j) → 0 ≤ j → j < 40 → EV K (tOp (rIx K) (tVar 1) te) ρ (.str (rs.getD j.toNat Str.empty)) := fun h1 h2 h3 h4 => ev_op (ev_var h1) h2 (od_ixL (atI_strs h3 (by omega)))
    have hrm : ∀ {j : Int}, 0 ≤ j → j < 40 → rs.getD j.toNat Str.empty ∈ rs := fun h3 h4 => getD_mem (by omega)
    have hpool : ∀ {ρ : List Sl} {te : TE} {j : Int}, ρ[0]? = some (.fr (.list (ps.map PyData.int))) → EV K te ρ (.int j) → 0 ≤ j → j < 200 → EV K (tOp (rIx K) (tVar 0) te) ρ (.int (pI ps j)) := fun h1 h2 h3 h4 => ev_op (ev_var h1) h2 (od_ixL (pI_get h3 (by omega)))
    have h2s : 2 ≤ sizeLine := by rw [sizeLine_eq]; decide
    -- touches = [..]
    obtain ⟨ts0, e0, hl0, ht0⟩ := lcD_ex (n := 39) (Pr := TouchOk rs) (h := pqD) (b := fun i => !decide (((i : Nat) : Int) + 1 = first)) (f := fun i => pqD (rs.getD ((i : Nat) : Int).toNat Str.empty, rs.getD (((i : Nat) : Int) + 1).toNat Str.empty)) fun i hi _ => ⟨_, ⟨hrm (by omega) (by omega), List.mem_append_left _ (hrm (by omega) (by omega))⟩, rfl⟩
    refine q_asgN (d := .list (ts0.map pqD)) (en_is (en_lc (n := 39) (b := fun i => !decide (((i : Nat) : Int) + 1 = first)) (f := fun i => pqD (rs.getD ((i : Nat) : Int).toNat Str.empty, rs.getD (((i : Nat) : Int) + 1).toNat Str.empty)) (ei_rng1 (n := 39) (by walk_at "ea") (by decide) (by decide)) (by decide) fun i hi => ⟨_, _, gt_name, by simp, by walk_at "et", fun _ => ev_tup (ea_cons (hroom rfl (by walk_at "ev") (by omega) (by omega)) (ea_cons (hroom rfl (by walk_at "ev") (by omega) (by omega)) ea_nil)) h2s⟩) (congrArg PyData.list e0)) ?_
    -- two more, perhaps
    refine q_cut (fun ρ => ∃ ts : List (Str × Str), ts.length ≤ 40 ∧ (∀ t ∈ ts, TouchOk rs t) ∧ ρ = [.fr (.list (ps.map PyData.int)), .fr (.list (rs.map PyData.str)), .fr (.int first), .ow (.list (ts.map pqD)), .no]) ?_ ?_
    · refine st_if (et_and (by walk_at "et") fun _ => et_test (ev_op (ev_op (hpool rfl (by walk_at "ev") (by decide) (by decide)) (by walk_at "ev") (od_mod (by decide))) (by walk_at "ev") od_cmpI)) (fun hb => ?_) (fun hb => st_next ⟨ts0, by omega, ht0, rfl⟩)
      have h0 : 0 < first := by
        rw [Bool.and_eq_true] at hb
        exact of_decide_eq_true hb.1
      refine st_append (ds := ts0.map pqD) (d := pqD (rs.getD (first - 1).toNat Str.empty, dirS (pI ps 4))) (by rfl) (ev_tup (ea_cons (hroom rfl (by walk_at "ev") (by omega) (by omega)) (ea_cons (ev_op (by walk_at "ev") (ev_op (hpool rfl (by walk_at "ev") (by decide) (by decide)) (by walk_at "ev") (od_mod (by decide))) (od_ixS (by decide) enws_at)) ea_nil)) h2s) (by rw [List.length_map]; omega) ?_
      exact ⟨ts0 ++ [(rs.getD (first - 1).toNat Str.empty, dirS (pI ps 4))], by rw [List.length_append, List.length_singleton]; omega, more_touch ht0 ⟨hrm (by omega) (by omega), List.mem_append_right _ (dirS_side _)⟩, by rw [List.map_append (l₁ := ts0)]; rfl⟩
    rintro ρ ⟨ts1, hl1, ht1, rfl⟩
    refine q_cut (fun ρ => ∃ ts : List (Str × Str), ts.length ≤ 41 ∧ (∀ t ∈ ts, TouchOk rs t) ∧ ρ = [.fr (.list (ps.map PyData.int)), .fr (.list (rs.map PyData.str)), .fr (.int first), .ow (.list (ts.map pqD)), .no]) ?_ ?_
    · refine st_if (et_and (by walk_at "et") fun _ => et_test (ev_op (ev_op (ev_op (hpool rfl (by walk_at "ev") (by decide) (by decide)) (by walk_at "ev") (od_div (by decide))) (by walk_at "ev") (od_mod (by decide))) (by walk_at "ev") od_eqI)) (fun hb => ?_) (fun hb => st_next ⟨ts1, by omega, ht1, rfl⟩)
      refine st_append (ds := ts1.map pqD) (d := pqD (rs.getD (39 : Int).toNat Str.empty, dirS (pI ps 4 / 4))) (by rfl) (ev_tup (ea_cons (hroom rfl (by walk_at "ev") (by decide) (by decide)) (ea_cons (ev_op (by walk_at "ev") (ev_op (ev_op (hpool rfl (by walk_at "ev") (by decide) (by decide)) (by walk_at "ev") (od_div (by decide))) (by walk_at "ev") (od_mod (by decide))) (od_ixS (by decide) enws_at)) ea_nil)) h2s) (by rw [List.length_map]; omega) ?_
      exact ⟨ts1 ++ [(rs.getD (39 : Int).toNat Str.empty, dirS (pI ps 4 / 4))], by rw [List.length_append, List.length_singleton]; omega, more_touch ht1 ⟨hrm (by decide) (by decide), List.mem_append_right _ (dirS_side _)⟩, by rw [List.map_append (l₁ := ts1)]; rfl⟩
    rintro ρ ⟨ts2, hl2, ht2, rfl⟩
    refine q_cut (fun ρ => ∃ (ts : List (Str × Str)) (s4 : Sl), ts.length ≤ 100 ∧ (∀ t ∈ ts, TouchOk rs t) ∧ ρ = [.fr (.list (ps.map PyData.int)), .fr (.list (rs.map PyData.str)), .fr (.int first), .ow (.list (ts.map pqD)), s4]) ?_ ?_
    · refine st_if (et_test (ev_op (ev_op (hpool rfl (by walk_at "ev") (by decide) (by decide)) (by walk_at "ev") (od_mod (by decide))) (by walk_at "ev") od_eqI)) (fun hb => ?_) (fun hb => st_next ⟨ts2, _, by omega, ht2, rfl⟩)
      have h40 : 0 ≤ pI ps 5 / 3 % 40 ∧ pI ps 5 / 3 % 40 < 40 := ⟨Int.emod_nonneg _ (by decide), Int.emod_lt_of_pos _ (by decide)⟩
      refine st_for (ei_rng1 (ea_cons (ev_op (ev_op (hpool rfl (by walk_at "ev") (by decide) (by decide)) (by walk_at "ev") (od_div (by decide))) (by walk_at "ev") (od_mod (by decide))) ea_nil) (by omega) (by omega)) (fun i ρ => ∃ (ts : List (Str × Str)) (s4 : Sl), ts.length ≤ 41 + i ∧ (∀ t ∈ ts, TouchOk rs t) ∧ ρ = [.fr (.list (ps.map PyData.int)), .fr (.list (rs.map PyData.str)), .fr (.int first), .ow (.list (ts.map pqD)), s4]) ⟨ts2, _, by omega, ht2, rfl⟩ ?_ ?_
      · rintro i ρ hi ⟨ts, s4, hl, ht, rfl⟩
        refine ⟨_, _, gt_name, ?_⟩
        have m1 : ∀ x : Int, 0 ≤ x % 40 ∧ x % 40 < 40 := fun x => ⟨Int.emod_nonneg _ (by decide), Int.emod_lt_of_pos _ (by decide)⟩
        refine st_append (ds := ts.map pqD) (d := pqD (rs.getD (pI ps (90 + (i : Nat)) % 40).toNat Str.empty, rs.getD (pI ps (90 + (i : Nat)) / 40 % 40).toNat Str.empty)) (by rfl) (ev_tup (ea_cons (hroom rfl (ev_op (hpool rfl (by walk_at "ev") (by omega) (by omega)) (by walk_at "ev") (od_mod (by decide))) (m1 _).1 (m1 _).2) (ea_cons (hroom rfl (ev_op (ev_op (hpool rfl (by walk_at "ev") (by omega) (by omega)) (by walk_at "ev") (od_div (by decide))) (by walk_at "ev") (od_mod (by decide))) (m1 _).1 (m1 _).2) ea_nil)) h2s) (by rw [List.length_map]; omega) ?_
        exact ⟨ts ++ [(rs.getD (pI ps (90 + (i : Nat)) % 40).toNat Str.empty, rs.getD (pI ps (90 + (i : Nat)) / 40 % 40).toNat Str.empty)], _, by rw [List.length_append, List.length_singleton]; omega, more_touch ht ⟨hrm (m1 _).1 (m1 _).2, List.mem_append_left _ (hrm (m1 _).1 (m1 _).2)⟩, by rw [List.map_append (l₁ := ts)]; rfl⟩
      · rintro ρ ⟨ts, s4, hl, ht, rfl⟩
        exact ⟨ts, _, by omega, ht, rfl⟩
    rintro ρ ⟨ts, s4, hl, ht, rfl⟩
    refine q_frz (i := 3) rfl (st_ret (ev_call (by walk_at "ea") ⟨rs, ts, rfl, by omega, hl, rfl⟩) ?_)
    exact ⟨_, rfl, _, _, rfl, ws_of n1 n2 (by omega) ht hl, by rw [srt_len]; exact n3⟩

theorem st_asgQ {Ex : XK} {ρ : List Sl} {Q : Oc → Prop} {Pre : List D → Prop} {Post : List D → D → Prop} {Ey : XK} {t : TA} {ds : List D} {i : Nat} (h : EA K t ρ ds) (hp : Pre ds) (q : ∀ d, Post ds d → Q (.nx (ρ.set i (.fr d)))) : ST K Ex (tAsg (tCall (PQ K Pre Post) [] Ey t) (gName i)) ρ Q := fun G0 H0 G H σ D E f => h G0 H0 G H σ _ E fun vs G1 H1 e1 h1 => by
  rw [List.append_nil]
  exact ⟨G1, ds, e1.gh, h1, hp, fun d v G2 H2 hd x hv => f.nx _ _ G2 H2 (q d hd) (((E.go e1).go x).setF i hv)⟩
/-- the scheme written in the law -/
def rs1 : List Str := ["a", "b", "c"]
def ps1 : List (Str × Str) := [("N", "b"), ("b", "c")]
theorem ws1 : WS rs1 ps1 := ⟨by decide, by decide +kernel, by decide +kernel, by decide +kernel, by decide +kernel, by decide +kernel, by decide +kernel, by decide⟩
theorem hang1 : hang rs1 ps1 = ([("b" : Str), "c"] : List Str) := by
  have hin : ∀ z, Reach ps1 z → z ∈ sides4 ++ [("b" : Str), "c"] := by
    intro z h
    induction h with
    | side h => exact List.mem_append_left _ h
    | step _ hb ih => exact (by decide +kernel : ∀ a ∈ sides4 ++ [("b" : Str), "c"], ∀ b ∈ nb ps1 a, b ∈ sides4 ++ [("b" : Str), "c"]) _ ih _ hb
  have ha : ¬ Reach ps1 "a" := fun h => absurd (hin _ h) (by decide +kernel)
  have hb : Reach ps1 "b" := (Reach.side (z := "N") (by decide +kernel)).step (by decide +kernel)
  have hc : Reach ps1 "c" := hb.step (by decide +kernel)
  unfold hang rs1
  rw [List.filter_cons_of_neg (by simpa using ha), List.filter_cons_of_pos (by simpa using hb), List.filter_cons_of_pos (by simpa using hc)]
  rfl
theorem near1 : srt ltS (nb ps1 "N") = ([("E" : Str), "W", "b"] : List Str) := (srt_uniq stoS (by decide +kernel) (by decide +kernel)).symm
def more7 (n0 : Str) : List (Str × Str) := [("E", "W"), ("N", "S"), ("E", "N"), ("W", "N"), ("S", "E"), (n0, "N"), ("W", n0)]
/-- questions of the law's: pairs of names -/
def AskOk (rs : List Str) (t : Str × Str) : Prop := t.1 ∈ rs ++ sides4 ∧ t.2 ∈ rs ++ sides4
theorem ask_app {rs : List Str} {ts us : List (Str × Str)} (h : ∀ t ∈ ts, AskOk rs t) (k : ∀ t ∈ us, AskOk rs t) : ∀ t ∈ ts ++ us, AskOk rs t := fun t ht => (List.mem_append.mp ht).elim (h t) (k t)
theorem ok_law (T : Txt K mg) {fd : FuncData} (F : FunD K "law" "law" (defArgs s_law) (defBody s_law) (defScope s_law) [] [] (He.ga K "law") fd) (O_u_law_pool : Okd P w K mg base CX0 1 "_law_pool" ["script", "many"] (sp_u_law_pool K)) (O_u_law_near : Okd P w K mg base CX0 1 "_law_near" ["scheme"] (sp_u_law_near K)) (O_u_law_same : Okd P w K mg base CX0 2 "_law_same" ["told", "due"] (sp_u_law_same K)) (O_u_law_small : Okd P w K mg base CX0 2 "_law_small" ["pool"] (sp_u_law_small K)) (O_u_law_wide : Okd P w K mg base CX0 2 "_law_wide" ["pool"] (sp_u_law_wide K)) (O_hanging_rooms : Okd P w K mg base CX0 4 "hanging_rooms" ["scheme"] (sp_hanging_rooms K)) (O_neighbours_of : Okd P w K mg base CX0 4 "neighbours_of" ["scheme", "name"] (sp_neighbours_of K)) (O_room_pairs : Okd P w K mg base CX0 2 "room_pairs" ["scheme"] (sp_room_pairs K)) (O_u_law_hangs : Okd P w K mg base CX0 1 "_law_hangs" ["near", "rooms"] (sp_u_law_hangs K)) (O_u_law_right : Okd P w K mg base CX0 5 "_law_right" ["scheme", "near", "one", "other"] (sp_u_law_right K)) : FnOk P w K mg base CX0 6 (He.ga K "law") fd ["script"] (sp_law K) := by
  refine fn_pf F sc_law ?_ (fun cdv A outer s H E hr => ⟨_, dv_law T O_u_law_pool O_u_law_near O_u_law_same O_u_law_small O_u_law_wide O_hanging_rooms O_neighbours_of O_room_pairs O_u_law_hangs O_u_law_right cdv A outer s H E hr, ?_⟩)
  · rintro ds d ⟨x0, rfl, _⟩
    rfl
  · rintro ds d ⟨ns, rfl, hns, rfl⟩
    refine ST.mono (P := fun o => o = .rt (.bool true)) ?_ fun o h => .inl h
    show ST K E0 (t_law K) [.fr (.dict [(.none, .list (ns.map .int))]), .no, .no, .no, .no, .no, .no, .no, .no, .no, .no, .no, .no] _
    unfold t_law
    refine q_asgQ (by walk_at "ea") ⟨ns, 200, rfl, hns, by decide, by decide⟩ ?_
    rintro _ ⟨m, c, ps, e, rfl, hl⟩
    have hl : ps.length = 200 := by
      injection e with _ e
      injection e with e _
      injection e with e
      omega
    have h2s : 2 ≤ sizeLine := by rw [sizeLine_eq]; decide
    have h4 : sides4.length = 4 := rfl
    refine q_for (ei_rng1 (n := 2) (by walk_at "ea") (by decide) (by decide)) (fun i ρ => ∃ s2 s3 s4 s5 s6 s7 s8 s9 s10 s11 s12 : Sl, ρ = [.fr (.dict [(.none, .list (ns.map .int))]), .fr (.list (ps.map PyData.int)), s2, s3, s4, s5, s6, s7, s8, s9, s10, s11, s12]) ⟨_, _, _, _, _, _, _, _, _, _, _, rfl⟩ ?_ ?_
    · rintro i ρ hi ⟨s2, s3, s4, s5, s6, s7, s8, s9, s10, s11, s12, rfl⟩
      refine ⟨_, _, gt_name, ?_⟩
      unfold sp_u_law_small sp_u_law_wide sp_u_law_near sp_u_law_same sp_room_pairs sp_hanging_rooms sp_u_law_hangs sp_neighbours_of sp_u_law_right
      refine q_cut (fun ρ => ∃ rs qs, WS rs qs ∧ 1 ≤ rs.length ∧ (¬ (i : Int) = 0 → rs.length = 40) ∧ ρ = [.fr (.dict [(.none, .list (ns.map .int))]), .fr (.list (ps.map PyData.int)), .fr (.int (i : Nat)), .fr (schD rs qs), s4, s5, s6, s7, s8, s9, s10, s11, s12]) ?_ ?_
      · refine st_asgIf (b := decide ((i : Int) = 0)) (by walk_at "et") (fun hb => st_asgQ (by walk_at "ea") ⟨ps, rfl, hl⟩ ?_) (fun hb => st_asgQ (by walk_at "ea") ⟨ps, rfl, hl⟩ ?_)
        · rintro _ ⟨rs, qs, rfl, W, h1⟩
          exact ⟨rs, qs, W, h1, fun h => absurd (of_decide_eq_true hb) h, rfl⟩
        · rintro _ ⟨rs, qs, rfl, W, h1⟩
          exact ⟨rs, qs, W, by omega, fun _ => h1, rfl⟩
      rintro ρ ⟨rs, qs, W, h1, h40, rfl⟩
      have hm := W.many
      have hf := W.few
      have hnl : (rs ++ sides4).length = rs.length + 4 := List.length_append
      have hs0 : ∀ {ρ : List Sl}, ρ[3]? = some (.fr (schD rs qs)) → EV K (tOp (rIx K) (tVar 3) (tC (.int 0))) ρ (.tuple (rs.map PyData.str)) := fun h => ev_op (ev_var (d := .tuple [.tuple (rs.map PyData.str), .tuple (qs.map pqD)]) h) ev_int (od_ixT rfl)
      have hs1 : ∀ {ρ : List Sl}, ρ[3]? = some (.fr (schD rs qs)) → EV K (tOp (rIx K) (tVar 3) (tC (.int 1))) ρ (.tuple (qs.map pqD)) := fun h => ev_op (ev_var (d := .tuple [.tuple (rs.map PyData.str), .tuple (qs.map pqD)]) h) ev_int (od_ixT rfl)
      have hfil : qs.filter (fun p => !decide (p.1 ∈ sides4)) = qs.filter (fun p => decide (p.1 ∈ rs)) := List.filter_congr fun p hp => by
        rcases List.mem_append.mp (W.one p hp).1 with h | h
        · rw [decide_eq_true h, decide_eq_false (W.rooms _ h)]
          rfl
        · rw [decide_eq_true h, decide_eq_false fun k => W.rooms _ k h]
          rfl
      refine q_asg (d := nearD rs qs) (ev_call (by walk_at "ea") ⟨rs, qs, rfl, W, rfl⟩) ?_
      refine q_asg (d := .list ((rs ++ sides4).map PyData.str)) (ev_is (ev_N (en_op (ev_N (en_cb (ea_cons (hs0 rfl) ea_nil) cn_listT)) (ev_N (by walk_at "evn")) (on_addL (by rw [List.length_map]; show _ + 4 ≤ _; rw [sizeLine_eq]; omega)))) (by rw [List.map_append]; rfl)) ?_
      refine q_asg (d := .list ((qs.filter fun p => decide (p.1 ∈ rs)).map pqD)) (ev_N (en_is (en_lc (b := fun i => (fun p : Str × Str => decide (p.1 ∈ rs)) (qs.getD i (Str.empty, Str.empty))) (f := fun i => pqD (qs.getD i (Str.empty, Str.empty))) (ei_tupQ (qs := qs) (hs1 rfl)) (by omega) fun i hi => ⟨_, _, gt_name, by simp, ?_, fun _ => by walk_at "ev"⟩) (congrArg PyData.list (lc_filterA (p := fun p : Str × Str => decide (p.1 ∈ rs)) (h := pqD) (Str.empty, Str.empty) qs)))) ?_
      · generalize qs.getD i (Str.empty, Str.empty) = p
        exact et_is (et_test (ev_op (ev_op (ev_var (d := .tuple [.str p.1, .str p.2]) rfl) ev_int (od_ixT rfl)) (hs0 rfl) (od_inT rfl (strs_flat _)))) inD_str
      refine q_no (et_is (et_not (et_trB (ev_call (ea_cons (ev_call (by walk_at "ea") ⟨rs, qs, rfl, W, rfl⟩) (ea_cons (ev_cb (by walk_at "ea") cd_tupL) ea_nil)) ⟨.tuple ((qs.filter fun p => decide (p.1 ∈ rs)).map pqD), by rw [hfil], ?_, rfl⟩))) (by rfl)) ?_
      · refine sameQ (Nat.le_trans (List.length_filter_le _ _) (by omega)) fun q hq => ?_
        obtain ⟨a, b, _⟩ := W.one q (List.mem_filter.mp hq).1
        have := W.short a
        have := W.short b
        omega
      refine q_no (et_is (et_not (et_trB (ev_call (ea_cons (ev_call (by walk_at "ea") ⟨rs, qs, rfl, W, rfl⟩) (ea_cons (ev_call (ea_cons (ev_var rfl) (ea_cons (hs0 rfl) ea_nil)) ⟨rs, qs, rfl, W, rfl⟩) ea_nil)) ⟨_, rfl, ?_, rfl⟩))) (by rfl)) ?_
      · refine sameS (Nat.le_trans (List.length_filter_le _ _) (by omega)) fun z hz => ?_
        have := W.small z (List.mem_filter.mp hz).1
        omega
      -- for name in names
      refine q_for (ei_listS (zs := rs ++ sides4) (by walk_at "ev")) (fun _ ρ => ∃ s8 : Sl, ρ = [.fr (.dict [(.none, .list (ns.map .int))]), .fr (.list (ps.map PyData.int)), .fr (.int (i : Nat)), .fr (schD rs qs), .fr (nearD rs qs), .fr (.list ((rs ++ sides4).map PyData.str)), .fr (.list ((qs.filter fun p => decide (p.1 ∈ rs)).map pqD)), s7, s8, s9, s10, s11, s12]) ⟨_, rfl⟩ ?_ ?_
      · rintro j ρ hj ⟨s8, rfl⟩
        have hz : (rs ++ sides4).getD j Str.empty ∈ rs ++ sides4 := getD_mem hj
        refine ⟨_, _, gt_name, ?_⟩
        generalize (rs ++ sides4).getD j Str.empty = z at hz
        refine DL.st_no (et_is (et_not (et_trB (ev_call (ea_cons (ev_call (by walk_at "ea") ⟨rs, qs, z, rfl, W, hz, rfl⟩) (ea_cons (ev_cb (ea_cons (ev_N (en_cb (ea_cons (ev_nget (f := nb qs) (ev_var rfl) (by walk_at "ev") ((mem_ensw z).mpr hz)) ea_nil) (cn_sortS (W.nbLen z)))) ea_nil) cd_tupL) ea_nil)) ⟨_, rfl, W.sameNb (k := z) (fun _ h => h) (Nat.le_refl _), rfl⟩))) (by rfl)) (st_next ⟨_, rfl⟩)
      rintro ρ ⟨s8', rfl⟩
      -- asked
      have hq : ∀ k, k < qs.length → AskOk rs (qs.getD k (Str.empty, Str.empty)) := fun k hk => ⟨(W.one _ (getD_mem hk)).1, (W.one _ (getD_mem hk)).2.1⟩
      obtain ⟨a1, e1, l1, k1⟩ := lcD_ex (n := qs.length) (Pr := AskOk rs) (h := pqD) (b := fun _ => true) (f := fun k => pqD ((qs.getD k (Str.empty, Str.empty)).1, (qs.getD k (Str.empty, Str.empty)).2)) fun k hk _ => ⟨_, hq k hk, rfl⟩
      obtain ⟨a2, e2, l2, k2⟩ := lcD_ex (n := qs.length) (Pr := AskOk rs) (h := pqD) (b := fun _ => true) (f := fun k => pqD ((qs.getD k (Str.empty, Str.empty)).2, (qs.getD k (Str.empty, Str.empty)).1)) fun k hk _ => ⟨_, ⟨(hq k hk).2, (hq k hk).1⟩, rfl⟩
      refine q_asgN (d := .list ((a1 ++ a2).map pqD)) (en_is (en_op (ev_N (en_is (en_lc (b := fun _ => true) (f := fun k => pqD ((qs.getD k (Str.empty, Str.empty)).1, (qs.getD k (Str.empty, Str.empty)).2)) (ei_tupQ (qs := qs) (hs1 rfl)) (by omega) fun k hk => ⟨_, _, gt_tup rfl (gts_cons gt_name (gts_cons gt_name gts_nil)), by simp, et_yes, fun _ => ev_tup (by walk_at "ea") h2s⟩) (congrArg PyData.list e1))) (ev_N (en_is (en_lc (b := fun _ => true) (f := fun k => pqD ((qs.getD k (Str.empty, Str.empty)).2, (qs.getD k (Str.empty, Str.empty)).1)) (ei_tupQ (qs := qs) (hs1 rfl)) (by omega) fun k hk => ⟨_, _, gt_tup rfl (gts_cons gt_name (gts_cons gt_name gts_nil)), by simp, et_yes, fun _ => ev_tup (by walk_at "ea") h2s⟩) (congrArg PyData.list e2))) (on_addL (by rw [List.length_map, List.length_map, sizeLine_eq]; omega))) (by rw [List.map_append])) ?_
      have hA := ask_app k1 k2
      have lA : (a1 ++ a2).length ≤ 200 := by rw [List.length_append]; omega
      generalize a1 ++ a2 = as at hA lA
      -- for k in range(len(names) if turn == 0 else 0)
      have hn1 : EV K (tIf (tTest (tOp (rEqU K) (tVar 2) (tC (.int 0)))) (tCB (rLen K) (tCons (tVar 5) tNil)) (tC (.int 0))) (([Sl.fr (.dict [(.none, .list (ns.map .int))]), .fr (.list (ps.map PyData.int)), .fr (.int (i : Nat)), .fr (schD rs qs), .fr (nearD rs qs), .fr (.list ((rs ++ sides4).map PyData.str)), .fr (.list ((qs.filter fun p => decide (p.1 ∈ rs)).map pqD)), s7, s8', s9, s10, s11, s12] : List Sl).set 9 (.ow (.list (as.map pqD)))) (.int (if (i : Int) = 0 then ((rs ++ sides4).length : Nat) else 0)) := by
        refine ev_is (ev_ite (by walk_at "et") (fun _ => by walk_at "ev") (fun _ => by walk_at "ev")) ?_
        rw [List.length_map]
        by_cases h : (i : Int) = 0
        · rw [if_pos (decide_eq_true h), if_pos h]
        · rw [if_neg (by simpa using h), if_neg h]
      refine q_for (ei_rng1 (ea_cons hn1 ea_nil) (by split <;> omega) (by split <;> omega)) (fun k ρ => ∃ (as : List (Str × Str)) (s12 : Sl), as.length ≤ 200 + 44 * k ∧ (∀ t ∈ as, AskOk rs t) ∧ ρ = [.fr (.dict [(.none, .list (ns.map .int))]), .fr (.list (ps.map PyData.int)), .fr (.int (i : Nat)), .fr (schD rs qs), .fr (nearD rs qs), .fr (.list ((rs ++ sides4).map PyData.str)), .fr (.list ((qs.filter fun p => decide (p.1 ∈ rs)).map pqD)), s7, s8', .ow (.list (as.map pqD)), s10, s11, s12]) ⟨as, _, by omega, hA, rfl⟩ ?_ ?_
      · rintro k ρ hk ⟨as, s12, lA, hA, rfl⟩
        have hk2 : k < (rs ++ sides4).length := by
          split at hk <;> omega
        refine ⟨_, _, gt_name, ?_⟩
        have ha : (rs ++ sides4).getD ((k : Nat) : Int).toNat Str.empty ∈ rs ++ sides4 := getD_mem hk2
        obtain ⟨b1, e1, l1, k1⟩ := lcD_ex (n := (rs ++ sides4).length) (Pr := AskOk rs) (h := pqD) (b := fun _ => true) (f := fun j => pqD ((rs ++ sides4).getD ((k : Nat) : Int).toNat Str.empty, (rs ++ sides4).getD j Str.empty)) fun j hj _ => ⟨_, ⟨ha, DL.getD_mem hj⟩, rfl⟩
        refine st_augO (ds := as.map pqD) (es := b1.map pqD) (by rfl) (ev_N (en_is (en_lc (b := fun _ => true) (f := fun j => pqD ((rs ++ sides4).getD ((k : Nat) : Int).toNat Str.empty, (rs ++ sides4).getD j Str.empty)) (ei_listS (zs := rs ++ sides4) (by walk_at "ev")) (by omega) fun j hj => ⟨_, _, gt_name, by simp, et_yes, fun _ => ev_tup (ea_cons (ev_op (by walk_at "ev") (by walk_at "ev") (od_ixL (atI_strs (by omega) (by omega)))) (ea_cons (by walk_at "ev") ea_nil)) h2s⟩) (congrArg PyData.list e1))) (by rw [List.length_map, List.length_map]; omega) ?_
        exact ⟨as ++ b1, _, by rw [List.length_append]; omega, ask_app hA k1, by rw [List.map_append (l₁ := as)]; rfl⟩
      rintro ρ ⟨as, s12', lA, hA, rfl⟩
      have lA : as.length ≤ 3000 := by
        split at lA <;> omega
      -- for k in range(40 if turn == 1 else 0)
      have hn2 : EV K (tIf (tTest (tOp (rEqU K) (tVar 2) (tC (.int 1)))) (tC (.int 40)) (tC (.int 0))) [.fr (.dict [(.none, .list (ns.map .int))]), .fr (.list (ps.map PyData.int)), .fr (.int (i : Nat)), .fr (schD rs qs), .fr (nearD rs qs), .fr (.list ((rs ++ sides4).map PyData.str)), .fr (.list ((qs.filter fun p => decide (p.1 ∈ rs)).map pqD)), s7, s8', .ow (.list (as.map pqD)), s10, s11, s12'] (.int (if (i : Int) = 1 then 40 else 0)) := by
        refine ev_is (ev_ite (by walk_at "et") (fun _ => by walk_at "ev") (fun _ => by walk_at "ev")) ?_
        by_cases h : (i : Int) = 1
        · rw [if_pos (decide_eq_true h), if_pos h]
        · rw [if_neg (by simpa using h), if_neg h]
      refine q_for (ei_rng1 (ea_cons hn2 ea_nil) (by split <;> omega) (by split <;> omega)) (fun k ρ => ∃ (as : List (Str × Str)) (s12 : Sl), as.length ≤ 3000 + k ∧ (∀ t ∈ as, AskOk rs t) ∧ ρ = [.fr (.dict [(.none, .list (ns.map .int))]), .fr (.list (ps.map PyData.int)), .fr (.int (i : Nat)), .fr (schD rs qs), .fr (nearD rs qs), .fr (.list ((rs ++ sides4).map PyData.str)), .fr (.list ((qs.filter fun p => decide (p.1 ∈ rs)).map pqD)), s7, s8', .ow (.list (as.map pqD)), s10, s11, s12]) ⟨as, _, by omega, hA, rfl⟩ ?_ ?_
      · rintro k ρ hk ⟨as, s12, lA, hA, rfl⟩
        have hk2 : (i : Int) = 1 ∧ k < 40 := by
          split at hk
          · rename_i h
            exact ⟨h, hk⟩
          · exact absurd hk (Nat.not_lt_zero _)
        have h40' := h40 (by omega)
        refine ⟨_, _, gt_name, ?_⟩
        have m1 : ∀ x : Int, 0 ≤ x % 44 ∧ x % 44 < 44 := fun x => ⟨Int.emod_nonneg _ (by decide), Int.emod_lt_of_pos _ (by decide)⟩
        have hroom : ∀ {ρ : List Sl} {te : TE} {j : Int}, ρ[5]? = some (.fr (.list ((rs ++ sides4).map PyData.str))) → EV K te ρ (.int j) → 0 ≤ j → j < 44 → EV K (tOp (rIx K) (tVar 5) te) ρ (.str ((rs ++ sides4).getD j.toNat Str.empty)) := fun h1 h2 h3 h4 => ev_op (ev_var h1) h2 (od_ixL (atI_strs h3 (by omega)))
        have hrm : ∀ {j : Int}, 0 ≤ j → j < 44 → (rs ++ sides4).getD j.toNat Str.empty ∈ rs ++ sides4 := fun h3 h4 => getD_mem (by omega)
        have hpool : ∀ {ρ : List Sl} {te : TE} {j : Int}, ρ[1]? = some (.fr (.list (ps.map PyData.int))) → EV K te ρ (.int j) → 0 ≤ j → j < 200 → EV K (tOp (rIx K) (tVar 1) te) ρ (.int (pI ps j)) := fun h1 h2 h3 h4 => ev_op (ev_var h1) h2 (od_ixL (pI_get h3 (by omega)))
        refine st_append (ds := as.map pqD) (d := pqD ((rs ++ sides4).getD (pI ps (140 + (k : Nat)) % 44).toNat Str.empty, (rs ++ sides4).getD (pI ps (140 + (k : Nat)) / 44 % 44).toNat Str.empty)) (by rfl) (ev_tup (ea_cons (hroom rfl (ev_op (hpool rfl (by walk_at "ev") (by omega) (by omega)) (by walk_at "ev") (od_mod (by decide))) (m1 _).1 (m1 _).2) (ea_cons (hroom rfl (ev_op (ev_op (hpool rfl (by walk_at "ev") (by omega) (by omega)) (by walk_at "ev") (od_div (by decide))) (by walk_at "ev") (od_mod (by decide))) (m1 _).1 (m1 _).2) ea_nil)) h2s) (by rw [List.length_map]; omega) ?_
        exact ⟨as ++ [((rs ++ sides4).getD (pI ps (140 + (k : Nat)) % 44).toNat Str.empty, (rs ++ sides4).getD (pI ps (140 + (k : Nat)) / 44 % 44).toNat Str.empty)], _, by rw [List.length_append, List.length_singleton]; omega, ask_app hA fun t h => by rw [List.mem_singleton.mp h]; exact ⟨hrm (m1 _).1 (m1 _).2, hrm (m1 _).1 (m1 _).2⟩, by rw [List.map_append (l₁ := as)]; rfl⟩
      rintro ρ ⟨as, s12'', lA, hA, rfl⟩
      have lA : as.length ≤ 4000 := by
        split at lA <;> omega
      -- asked += [..]
      have h0 : (rs ++ sides4).getD (0 : Int).toNat Str.empty ∈ rs ++ sides4 := getD_mem (by show 0 < _; omega)
      obtain ⟨n0, hn0⟩ : ∃ n0, n0 = (rs ++ sides4).getD (0 : Int).toNat Str.empty := ⟨_, rfl⟩
      have hv0 : EV K (tOp (rIx K) (tVar 5) (tC (.int 0))) [.fr (.dict [(.none, .list (ns.map .int))]), .fr (.list (ps.map PyData.int)), .fr (.int (i : Nat)), .fr (schD rs qs), .fr (nearD rs qs), .fr (.list ((rs ++ sides4).map PyData.str)), .fr (.list ((qs.filter fun p => decide (p.1 ∈ rs)).map pqD)), s7, s8', .ow (.list (as.map pqD)), s10, s11, s12''] (.str n0) := by
        rw [hn0]
        exact ev_op (by walk_at "ev") (by walk_at "ev") (od_ixL (atI_strs (by decide) (by omega)))
      rw [← hn0] at h0
      refine q_augO (ds := as.map pqD) (es := (more7 n0).map pqD) (by rfl) (ev_N (en_lst (ea_cons (ev_tup (by walk_at "ea") h2s) (ea_cons (ev_tup (by walk_at "ea") h2s) (ea_cons (ev_tup (by walk_at "ea") h2s) (ea_cons (ev_tup (by walk_at "ea") h2s) (ea_cons (ev_tup (by walk_at "ea") h2s) (ea_cons (ev_tup (ea_cons hv0 (by walk_at "ea")) h2s) (ea_cons (ev_tup (ea_cons ev_str (ea_cons hv0 ea_nil)) h2s) ea_nil))))))) (by show 7 ≤ sizeLine; rw [sizeLine_eq]; decide))) (by rw [List.length_map]; show _ + 7 ≤ _; omega) ?_
      have hA2 : ∀ t ∈ as ++ more7 n0, AskOk rs t := ask_app hA fun t h => by
        have hsd : ∀ z : Str, z ∈ sides4 → z ∈ rs ++ sides4 := fun z h => List.mem_append_right _ h
        unfold more7 at h
        simp only [List.mem_cons, List.not_mem_nil, or_false] at h
        rcases h with rfl | rfl | rfl | rfl | rfl | rfl | rfl
        · exact ⟨hsd _ (by decide +kernel), hsd _ (by decide +kernel)⟩
        · exact ⟨hsd _ (by decide +kernel), hsd _ (by decide +kernel)⟩
        · exact ⟨hsd _ (by decide +kernel), hsd _ (by decide +kernel)⟩
        · exact ⟨hsd _ (by decide +kernel), hsd _ (by decide +kernel)⟩
        · exact ⟨hsd _ (by decide +kernel), hsd _ (by decide +kernel)⟩
        · exact ⟨h0, hsd "N" (by decide +kernel)⟩
        · exact ⟨hsd "W" (by decide +kernel), h0⟩
      rw [← List.map_append]
      generalize as ++ more7 n0 = bs at hA2
      -- for one, other in asked
      refine st_frz (i := 9) rfl ?_
      refine st_for (ei_listQ (qs := bs) (by walk_at "ev")) (fun _ ρ => ∃ s10 s11 : Sl, ρ = [.fr (.dict [(.none, .list (ns.map .int))]), .fr (.list (ps.map PyData.int)), .fr (.int (i : Nat)), .fr (schD rs qs), .fr (nearD rs qs), .fr (.list ((rs ++ sides4).map PyData.str)), .fr (.list ((qs.filter fun p => decide (p.1 ∈ rs)).map pqD)), s7, s8', .fr (.list (bs.map pqD)), s10, s11, s12'']) ⟨_, _, rfl⟩ ?_ ?_
      · rintro j ρ hj ⟨s10, s11, rfl⟩
        obtain ⟨z1, z2⟩ := hA2 _ (getD_mem (z := (Str.empty, Str.empty)) hj)
        generalize bs.getD j (Str.empty, Str.empty) = p at z1 z2
        refine ⟨_, _, gt_tup rfl (gts_cons gt_name (gts_cons gt_name gts_nil)), ?_⟩
        exact DL.st_no (et_is (et_not (et_trB (ev_call (by walk_at "ea") ⟨rs, qs, p.1, p.2, rfl, W, z1, z2, rfl⟩))) (by rfl)) (st_next ⟨_, _, rfl⟩)
      · rintro ρ ⟨s10, s11, rfl⟩
        exact ⟨_, _, _, _, _, _, _, _, _, _, _, rfl⟩
    · rintro ρ ⟨s2, s3, s4, s5, s6, s7, s8, s9, s10, s11, s12, rfl⟩
      unfold sp_u_law_same sp_hanging_rooms sp_neighbours_of
      have h3s : 3 ≤ sizeLine := by rw [sizeLine_eq]; decide
      refine q_asg (d := schD rs1 ps1) (ev_tup (ds := [.tuple [.str "a", .str "b", .str "c"], .tuple [.tuple [.str "N", .str "b"], .tuple [.str "b", .str "c"]]]) (ea_cons (ev_tup (ds := [.str "a", .str "b", .str "c"]) (by walk_at "ea") h3s) (ea_cons (ev_tup (ds := [.tuple [.str "N", .str "b"], .tuple [.str "b", .str "c"]]) (ea_cons (ev_tup (ds := [.str "N", .str "b"]) (by walk_at "ea") h2s) (ea_cons (ev_tup (ds := [.str "b", .str "c"]) (by walk_at "ea") h2s) ea_nil)) h2s) ea_nil)) h2s) ?_
      refine st_ret (ev_andV (a := true) (b := true) (ev_call (ea_cons (ev_call (by walk_at "ea") ⟨rs1, ps1, rfl, ws1, rfl⟩) (ea_cons (ev_tup (ds := [.str "b", .str "c"]) (by walk_at "ea") h2s) ea_nil)) ⟨.tuple [.str "b", .str "c"], by rw [hang1]; rfl, by decide +kernel, rfl⟩) (fun _ => ev_call (ea_cons (ev_call (by walk_at "ea") ⟨rs1, ps1, "N", rfl, ws1, by decide +kernel, rfl⟩) (ea_cons (ev_tup (ds := [.str "E", .str "W", .str "b"]) (by walk_at "ea") h3s) ea_nil)) ⟨.tuple [.str "E", .str "W", .str "b"], by rw [near1]; rfl, by decide +kernel, rfl⟩)) (by rfl)

end
set_option maxHeartbeats 0
def d_direction_number : He.DefD := ⟨("direction_number", none), "direction_number", "direction_number", defArgs s_direction_number, defBody s_direction_number, defScope s_direction_number, [], []⟩
def d_direction_by : He.DefD := ⟨("direction_by", none), "direction_by", "direction_by", defArgs s_direction_by, defBody s_direction_by, defScope s_direction_by, [], []⟩
def d_beside_side : He.DefD := ⟨("beside_side", none), "beside_side", "beside_side", defArgs s_beside_side, defBody s_beside_side, defScope s_beside_side, [], []⟩
def d_is_side : He.DefD := ⟨("is_side", none), "is_side", "is_side", defArgs s_is_side, defBody s_is_side, defScope s_is_side, [], []⟩
def d_touch_table : He.DefD := ⟨("touch_table", none), "touch_table", "touch_table", defArgs s_touch_table, defBody s_touch_table, defScope s_touch_table, [], []⟩
def d_neighbours_of : He.DefD := ⟨("neighbours_of", none), "neighbours_of", "neighbours_of", defArgs s_neighbours_of, defBody s_neighbours_of, defScope s_neighbours_of, [], []⟩
def d_are_neighbours : He.DefD := ⟨("are_neighbours", none), "are_neighbours", "are_neighbours", defArgs s_are_neighbours, defBody s_are_neighbours, defScope s_are_neighbours, [], []⟩
def d_room_pairs : He.DefD := ⟨("room_pairs", none), "room_pairs", "room_pairs", defArgs s_room_pairs, defBody s_room_pairs, defScope s_room_pairs, [], []⟩
def d_common_neighbours : He.DefD := ⟨("common_neighbours", none), "common_neighbours", "common_neighbours", defArgs s_common_neighbours, defBody s_common_neighbours, defScope s_common_neighbours, [], []⟩
def d_hanging_rooms : He.DefD := ⟨("hanging_rooms", none), "hanging_rooms", "hanging_rooms", defArgs s_hanging_rooms, defBody s_hanging_rooms, defScope s_hanging_rooms, [], []⟩
def d_u_law_pool : He.DefD := ⟨("_law_pool", none), "_law_pool", "_law_pool", defArgs s_u_law_pool, defBody s_u_law_pool, defScope s_u_law_pool, [], []⟩
def d_u_law_names : He.DefD := ⟨("_law_names", none), "_law_names", "_law_names", defArgs s_u_law_names, defBody s_u_law_names, defScope s_u_law_names, [], []⟩
def d_u_law_scheme : He.DefD := ⟨("_law_scheme", none), "_law_scheme", "_law_scheme", defArgs s_u_law_scheme, defBody s_u_law_scheme, defScope s_u_law_scheme, [], []⟩
def d_u_law_small : He.DefD := ⟨("_law_small", none), "_law_small", "_law_small", defArgs s_u_law_small, defBody s_u_law_small, defScope s_u_law_small, [], []⟩
def d_u_law_wide : He.DefD := ⟨("_law_wide", none), "_law_wide", "_law_wide", defArgs s_u_law_wide, defBody s_u_law_wide, defScope s_u_law_wide, [], []⟩
def d_u_law_near : He.DefD := ⟨("_law_near", none), "_law_near", "_law_near", defArgs s_u_law_near, defBody s_u_law_near, defScope s_u_law_near, [], []⟩
def d_u_law_hangs : He.DefD := ⟨("_law_hangs", none), "_law_hangs", "_law_hangs", defArgs s_u_law_hangs, defBody s_u_law_hangs, defScope s_u_law_hangs, [], []⟩
def d_u_law_same : He.DefD := ⟨("_law_same", none), "_law_same", "_law_same", defArgs s_u_law_same, defBody s_u_law_same, defScope s_u_law_same, [], []⟩
def d_u_law_right : He.DefD := ⟨("_law_right", none), "_law_right", "_law_right", defArgs s_u_law_right, defBody s_u_law_right, defScope s_u_law_right, [], []⟩
def d_law : He.DefD := ⟨("law", none), "law", "law", defArgs s_law, defBody s_law, defScope s_law, [], []⟩
def fn0 : List He.DefD := [d_direction_number, d_direction_by, d_beside_side, d_is_side, d_touch_table, d_neighbours_of, d_are_neighbours, d_room_pairs, d_common_neighbours, d_hanging_rooms, d_u_law_pool, d_u_law_names, d_u_law_scheme, d_u_law_small, d_u_law_wide, d_u_law_near, d_u_law_hangs, d_u_law_same, d_u_law_right, d_law]
def fn : List He.DefD := fn0
def fa0 : List He.Fa := [.glo "direction_number", .glo "direction_by", .glo "beside_side", .glo "is_side", .glo "touch_table", .glo "neighbours_of", .glo "are_neighbours", .glo "room_pairs", .glo "common_neighbours", .glo "hanging_rooms", .glo "_law_pool", .glo "_law_names", .glo "_law_scheme", .glo "_law_small", .glo "_law_wide", .glo "_law_near", .glo "_law_hangs", .glo "_law_same", .glo "_law_right", .glo "law", .free "bool", .free "int", .free "isinstance", .free "len"]
def fa1 : List He.Fa := [.free "list", .free "range", .free "sorted", .free "str", .free "tuple", .str "DIRECTIONS" "ENWS", .glo "SIDES"]
def fa : List He.Fa := fa0 ++ fa1
def ex (K : PySem.W.Frag) : Bool := [He.tupB K "SIDES" [.str "E", .str "N", .str "W", .str "S"]].all id
def loose0 : List PySem.Str := ["__name__", "DIRECTIONS", "direction_number", "direction_by", "beside_side", "SIDES", "is_side", "touch_table", "neighbours_of", "are_neighbours", "room_pairs", "common_neighbours", "hanging_rooms", "_law_pool", "_law_names", "_law_scheme", "_law_small", "_law_wide", "_law_near", "_law_hangs", "_law_same", "_law_right"]
def loose : List PySem.Str := loose0
abbrev R : PySem.W.OpenRow := PySem.W.OpenLaw.row PySem.Challenge.rw_wallsaswished_k03_neighbours_of_schemes
abbrev hk : PySem.W.Hook := hookB 5 fa fn ex
def ob (s : PySem.W.SharedT) : AlB := obsBG 5 fa fn ex (HandSHeadRun.getT s)
theorem ob_eq (s : PySem.W.SharedT) : ob s = hk.obs s.abs := obsBG_eq (HandSHeadRun.getT_eq s)
theorem run (w : World) : HandSHeadRun.RunEq R (PySem.W.view R.prog [25]) hk ob 6000 loose w := by
  intro os
  kernel_rfl
theorem txt {K : PySem.W.Frag} {h : Heap} {mg : Str → Option Value} (X : K.In h) (G : h.Ns mainGlobals mg) (c : SaysB fa fn ex K) : Txt K mg where
  f_bool := He.free_ok X G (c.d.fact 20 (f := .free "bool") rfl)
  f_int := He.free_ok X G (c.d.fact 21 (f := .free "int") rfl)
  f_isinstance := He.free_ok X G (c.d.fact 22 (f := .free "isinstance") rfl)
  f_len := He.free_ok X G (c.d.fact 23 (f := .free "len") rfl)
  f_list := He.free_ok X G (c.d.fact 24 (f := .free "list") rfl)
  f_range := He.free_ok X G (c.d.fact 25 (f := .free "range") rfl)
  f_sorted := He.free_ok X G (c.d.fact 26 (f := .free "sorted") rfl)
  f_str := He.free_ok X G (c.d.fact 27 (f := .free "str") rfl)
  f_tuple := He.free_ok X G (c.d.fact 28 (f := .free "tuple") rfl)
  c_DIRECTIONS := He.str_ok X G (c.d.fact 29 (f := .str "DIRECTIONS" "ENWS") rfl)
  g_SIDES := He.glo_ok X G (c.d.fact 30 (f := .glo "SIDES") rfl)
  t_SIDES := He.tupB_ok (allB c.more 0 rfl)
theorem facts {P : Program} {w : World} {K : PySem.W.Frag} {h : Heap} {mg : Str → Option Value} (X : K.In h) (G : h.Ns mainGlobals mg) (c : SaysB fa fn ex K) {fd : FuncData} (F : FunD K "law" "law" (defArgs s_law) (defBody s_law) (defScope s_law) [] [] (He.ga K "law") fd) (base : Heap) : FnOk P w K mg base CX0 6 (He.ga K "law") fd ["script"] (sp_law K) := by
  have T := txt X G c
  have O_direction_number := ok_direction_number (P := P) (w := w) (base := base) T (c.d.def_ 0 (d := d_direction_number) rfl) (He.glo_ok X G (c.d.fact 0 (f := .glo "direction_number") rfl)) 
  have O_direction_by := ok_direction_by (P := P) (w := w) (base := base) T (c.d.def_ 1 (d := d_direction_by) rfl) (He.glo_ok X G (c.d.fact 1 (f := .glo "direction_by") rfl)) 
  have O_beside_side := ok_beside_side (P := P) (w := w) (base := base) T (c.d.def_ 2 (d := d_beside_side) rfl) (He.glo_ok X G (c.d.fact 2 (f := .glo "beside_side") rfl)) ‹_› ‹_›
  have O_is_side := ok_is_side (P := P) (w := w) (base := base) T (c.d.def_ 3 (d := d_is_side) rfl) (He.glo_ok X G (c.d.fact 3 (f := .glo "is_side") rfl)) 
  have O_touch_table := ok_touch_table (P := P) (w := w) (base := base) T (c.d.def_ 4 (d := d_touch_table) rfl) (He.glo_ok X G (c.d.fact 4 (f := .glo "touch_table") rfl)) ‹_›
  have O_neighbours_of := ok_neighbours_of (P := P) (w := w) (base := base) T (c.d.def_ 5 (d := d_neighbours_of) rfl) (He.glo_ok X G (c.d.fact 5 (f := .glo "neighbours_of") rfl)) ‹_›
  have O_are_neighbours := ok_are_neighbours (P := P) (w := w) (base := base) T (c.d.def_ 6 (d := d_are_neighbours) rfl) (He.glo_ok X G (c.d.fact 6 (f := .glo "are_neighbours") rfl)) ‹_›
  have O_room_pairs := ok_room_pairs (P := P) (w := w) (base := base) T (c.d.def_ 7 (d := d_room_pairs) rfl) (He.glo_ok X G (c.d.fact 7 (f := .glo "room_pairs") rfl)) ‹_›
  have O_common_neighbours := ok_common_neighbours (P := P) (w := w) (base := base) T (c.d.def_ 8 (d := d_common_neighbours) rfl) (He.glo_ok X G (c.d.fact 8 (f := .glo "common_neighbours") rfl)) ‹_›
  have O_hanging_rooms := ok_hanging_rooms (P := P) (w := w) (base := base) T (c.d.def_ 9 (d := d_hanging_rooms) rfl) (He.glo_ok X G (c.d.fact 9 (f := .glo "hanging_rooms") rfl)) ‹_›
  have O_u_law_pool := ok_u_law_pool (P := P) (w := w) (base := base) T (c.d.def_ 10 (d := d_u_law_pool) rfl) (He.glo_ok X G (c.d.fact 10 (f := .glo "_law_pool") rfl)) 
  have O_u_law_names := ok_u_law_names (P := P) (w := w) (base := base) T (c.d.def_ 11 (d := d_u_law_names) rfl) (He.glo_ok X G (c.d.fact 11 (f := .glo "_law_names") rfl)) 
  have O_u_law_scheme := ok_u_law_scheme (P := P) (w := w) (base := base) T (c.d.def_ 12 (d := d_u_law_scheme) rfl) (He.glo_ok X G (c.d.fact 12 (f := .glo "_law_scheme") rfl)) 
  have O_u_law_small := ok_u_law_small (P := P) (w := w) (base := base) T (c.d.def_ 13 (d := d_u_law_small) rfl) (He.glo_ok X G (c.d.fact 13 (f := .glo "_law_small") rfl)) ‹_› ‹_›
  have O_u_law_wide := ok_u_law_wide (P := P) (w := w) (base := base) T (c.d.def_ 14 (d := d_u_law_wide) rfl) (He.glo_ok X G (c.d.fact 14 (f := .glo "_law_wide") rfl)) ‹_› ‹_›
  have O_u_law_near := ok_u_law_near (P := P) (w := w) (base := base) T (c.d.def_ 15 (d := d_u_law_near) rfl) (He.glo_ok X G (c.d.fact 15 (f := .glo "_law_near") rfl)) 
  have O_u_law_hangs := ok_u_law_hangs (P := P) (w := w) (base := base) T (c.d.def_ 16 (d := d_u_law_hangs) rfl) (He.glo_ok X G (c.d.fact 16 (f := .glo "_law_hangs") rfl)) 
  have O_u_law_same := ok_u_law_same (P := P) (w := w) (base := base) T (c.d.def_ 17 (d := d_u_law_same) rfl) (He.glo_ok X G (c.d.fact 17 (f := .glo "_law_same") rfl)) 
  have O_u_law_right := ok_u_law_right (P := P) (w := w) (base := base) T (c.d.def_ 18 (d := d_u_law_right) rfl) (He.glo_ok X G (c.d.fact 18 (f := .glo "_law_right") rfl)) ‹_› ‹_› ‹_›
  exact ok_law T F ‹_› ‹_› ‹_› ‹_› ‹_› ‹_› ‹_› ‹_› ‹_› ‹_›
theorem fin {P : Program} {w : World} {K : PySem.W.Frag} {h : Heap} {mg : Str → Option Value} {f : Addr} (X : K.In h) (G : h.Ns mainGlobals mg) (c : SaysB fa fn ex K) (hm : mg ("law" : Str) = some (.ref f)) :
    ∃ (K : PySem.W.Frag) (fd : FuncData) (sp : Sp), K.In h ∧ (∀ (s : Shared) (u : Value), BindsTo s fd ⟨[u], []⟩ [(("script" : Str), u)]) ∧
      (∀ (H : Hp) (a : Addr) (ns : List Int), ns.length ≤ 63 → Only H → SqL K H a (ns.map V.int) → sp [.ref a] H (fun v _ => v = .bl true) fun _ _ _ => False) ∧
      ∀ base : Heap, K.In base → base.Ns mainGlobals mg → FnOk P w K mg base CX0 6 f fd ["script"] sp := by
  obtain ⟨fd, F⟩ := c.d.def_ 19 (d := d_law) rfl
  have e := hm.symm.trans (He.glo_ok X G (c.d.fact 19 (f := .glo "law") rfl))
  cases e
  have b := FunD.bindsA (ps := ["script"]) F fun _ _ _ _ _ _ us hl => match us, hl with | [_], _ => rfl
  refine ⟨K, fd, sp_law K, X, fun s v => b s [v] rfl, fun H a ns hl hO hS => ?_, fun base hK hG => facts X G c F base⟩
  exact ⟨H, _, _, GH.refl H, .cons (.scr hS) .nil, ⟨ns, rfl, hl, rfl⟩, fun v G' H' _ hv => by cases hv; rfl⟩
end K03

open PySem PySem.W PySem.Calls PyProof.Rows
theorem PySem.Challenge.cw_wallsaswished_k03_neighbours_of_schemes_holds : PySem.Challenge.rw_wallsaswished_k03_neighbours_of_schemes.Holds := by
  w_on
  o_law
  refine HandSHeadRun.head_any (r := K03.R) (q := view (OpenLaw.row PySem.Challenge.rw_wallsaswished_k03_neighbours_of_schemes).prog [25])
    (H := K03.hk) (ob := K03.ob) (M := 6000) (loose := K03.loose)
    (d := HandSHeadRun.topDef (OpenLaw.row PySem.Challenge.rw_wallsaswished_k03_neighbours_of_schemes).prog 25) (kwd := []) K03.ob_eq
    (by kernel_rfl) (fun s => by kernel_rfl) K03.run
    (by kernel_rfl) (by kernel_rfl) (by kernel_rfl) (by rfl) (by first | assumption | decide +kernel)
    (by decide +kernel) ⟨rfl, rfl, rfl, rfl, rfl, by decide +kernel⟩ ?hw ?hc
  case hw => w_witness2
  case hc =>
    refine L2.walk_ofE (l := PySem.Challenge.rw_wallsaswished_k03_neighbours_of_schemes) (n := 63) (k := 6) (x := "script") (CX := L2.CX0)
      rfl (by decide) (by kernel_rfl) ⟨rfl, by decide, by decide⟩ ?F (fun _ _ _ _ z => z)
    intro w mg fa h Y G hmg0
    obtain ⟨K, KX, c⟩ := Y
    have hn : (HandSHeadRun.topDef (OpenLaw.row PySem.Challenge.rw_wallsaswished_k03_neighbours_of_schemes).prog 25).name = ("law" : PySem.Str) := by kernel_rfl
    rw [hn] at hmg0
    exact K03.fin KX G c hmg0
