import PyProof.Rows.All
import Wide.All
import OpenK.AllK
import Wide.FinOn
import PySem.Challenge.RW_wallsaswished_k05_schemes_as_texts
import HandS.Base
import HandS.Call
import HandS.List
import HandS.Comp
import HandS.Dict
import HandS.Iter
import HandS.Walk
import HandS.Words
import HandS.Text
import HandS.TupAny
import HandS.Style
import HandS.IsInst
import HandS.More
import HandS.Flow
import HandS.Replace
import PyProof.StrOps2
import KE.GoesMore
import KE.GoesEnum
import HandS.Defaults
import HandS.Exc
import HandS.ExcOwn
import HandS.ExcInit
import HandS.ExcIs
import HandS.ExcField
import HandS.WordsExc
import KE.KStateDown
import HandS.Head0
import HandS.Head1
import HandS.Head2
import HandS.HeadEnd
import HandS.HeadHook1
import HandS.HeadHook2
import HandS.EndBits
import HandS.DictComp
import HandS.Conv
import KE.KSortTupAny
import HandS.SortOrd
import HandS.TupLe
import PyProof.FString5
import HandS.Zip
import KE.KDictWalk
import HandS.ExcInitHot
import HandS.TupSets
import HandS.SetBool
import HandS.SetTxt0
import HandS.SetFor
import PyProof.Rows.SortShellAny
import KE.KDictList
import HandS.NoneIn
import PyProof.TupleOfStr
import HandS.StrMore
set_option Elab.async false
set_option linter.all false
set_option maxRecDepth 100000
/-! DL1: data as values of the abstract heap: Dq, the frozen part G of a heap H, what a step may do (Ext), slots (En). -/
namespace DL
open PySem L2
abbrev D := PyData
def kD : Key → D
  | .inl i => .int i
  | .inr x => .str x
mutual
inductive Dq (K : PySem.W.Frag) (G : Hp) : V → D → Prop
  | non : Dq K G .non .none
  | bl (b : Bool) : Dq K G (.bl b) (.bool b)
  | int (i : Int) : Dq K G (.int i) (.int i)
  | str (x : Str) : Dq K G (.str x) (.str x)
  | lst {a : Addr} {xs : List V} {ds : List D} : G a = some (.lst xs) → DqA K G xs ds → Dq K G (.ref a) (.list ds)
  /-- the script: read alone -/
  | scr {a : Addr} {ns : List Int} : SqL K G a (ns.map V.int) → Dq K G (.ref a) (.dict [(.none, .list (ns.map PyData.int))])
  | tup {a : Addr} {xs : List V} {ds : List D} : SqT K G a xs → DqA K G xs ds → Dq K G (.ref a) (.tuple ds)
  | dK {a : Addr} {es : List (Key × V)} {kvs : List (D × D)} : Rd G a (.dK es) → DqK K G es kvs → Dq K G (.ref a) (.dict kvs)
  | dT {a : Addr} {es : List (List Key × V)} {kvs : List (D × D)} : Rd G a (.dT es) → DqT K G es kvs → Dq K G (.ref a) (.dict ((.none, .none) :: kvs))
  /-- a list [int, list of ints, int, int] that defs change; a list of ints that defs change: nobody tells what is in it -/
  | sta {l r : Addr} : G l = some (.own r) → G r = some (.rng 0 0) → Dq K G (.ref l) (.dict [(.bool true, .none)])
  | opq {a : Addr} {lo : Int} : G a = some (.rng lo 1) → Dq K G (.ref a) (.dict [(.bool false, .int ((a : Nat) : Int))])
  /-- an address, nothing is told of what stands there -/
  | raw (a : Addr) : Dq K G (.ref a) (.dict [(.bool true, .int ((a : Nat) : Int))])
inductive DqA (K : PySem.W.Frag) (G : Hp) : List V → List D → Prop
  | nil : DqA K G [] []
  | cons {v : V} {vs : List V} {d : D} {ds : List D} : Dq K G v d → DqA K G vs ds → DqA K G (v :: vs) (d :: ds)
inductive DqK (K : PySem.W.Frag) (G : Hp) : List (Key × V) → List (D × D) → Prop
  | nil : DqK K G [] []
  | cons {k : Key} {v : V} {es : List (Key × V)} {d : D} {kvs : List (D × D)} : Dq K G v d → DqK K G es kvs → DqK K G ((k, v) :: es) ((kD k, d) :: kvs)
inductive DqT (K : PySem.W.Frag) (G : Hp) : List (List Key × V) → List (D × D) → Prop
  | nil : DqT K G [] []
  | cons {k : List Key} {v : V} {es : List (List Key × V)} {d : D} {kvs : List (D × D)} : Dq K G v d → DqT K G es kvs → DqT K G ((k, v) :: es) ((.tuple (k.map kD), d) :: kvs)
end
/-- what stands in G stands in H (a dict may be locked there) -/
def isDic : HO → Bool
  | .dK _ => true
  | .dT _ => true
  | _ => false
/-- a list of ints, of which those from the place lo on are unlike and within 0 .. 10000 -/
def okL (lo : Int) (ns : List Int) : Prop := 0 ≤ lo ∧ lo ≤ 5000000 ∧ (ns.drop lo.toNat).Nodup ∧ ∀ n ∈ ns.drop lo.toNat, 0 ≤ n ∧ n ≤ 10000
/-- what a mark in the frozen part says of the heap -/
def stH (u : HO) (H : Hp) (a : Addr) : Prop := match u with
  | .own r => ∃ x y z : Int, H a = some (.lst [.int x, .ref r, .int y, .int z])
  | .rng lo hi => ∃ ns : List Int, H a = some (.lst (ns.map V.int)) ∧ (hi = 1 → okL lo ns)
  | _ => False
def isMk : HO → Bool
  | .own _ => true
  | .rng _ _ => true
  | _ => false
theorem stH.mk {u : HO} {H : Hp} {a : Addr} (h : stH u H a) : isMk u = true ∧ ∃ xs, H a = some (.lst xs) := by
  unfold stH at h
  split at h
  · obtain ⟨x, y, z, h⟩ := h
    exact ⟨rfl, _, h⟩
  · obtain ⟨ns, h, _⟩ := h
    exact ⟨rfl, _, h⟩
  · exact h.elim
theorem stH.eq {u : HO} {H H' : Hp} {a b : Addr} (e : H' b = H a) (h : stH u H a) : stH u H' b := by
  unfold stH at h ⊢
  split at h
  · obtain ⟨x, y, z, h⟩ := h
    exact ⟨x, y, z, e.trans h⟩
  · obtain ⟨ns, h, k⟩ := h
    exact ⟨ns, e.trans h, k⟩
  · exact h.elim
def GHat (u : HO) (H : Hp) (a : Addr) : Prop := (H a = some u ∧ isMk u = false) ∨ (isDic u = true ∧ ∃ o, H a = some (.frz o u)) ∨ stH u H a
theorem GHat.eq {u : HO} {H H' : Hp} {a : Addr} (h : GHat u H a) (e : H' a = H a) : GHat u H' a := by
  rcases h with h | ⟨d, o, h⟩ | h
  · exact .inl ⟨e.trans h.1, h.2⟩
  · exact .inr (.inl ⟨d, o, e.trans h⟩)
  · exact .inr (.inr (h.eq e))
def GH (G H : Hp) : Prop := ∀ a u, G a = some u → GHat u H a
theorem GHat.of {u : HO} {H : Hp} {a : Addr} (h : H a = some u) (nm : isMk u = false := by rfl) : GHat u H a := .inl ⟨h, nm⟩
theorem GH.refl {H : Hp} (nm : ∀ a u, H a = some u → isMk u = false) : GH H H := fun a u h => .of h (nm a u h)
/-- the frozen part grows -/
def Sub (A B : Hp) : Prop := ∀ a u, A a = some u → B a = some u
theorem Sub.of {A B : Hp} (x : ∀ a o, A a = some o → B a = some o) : Sub A B := x
theorem Sub.refl (A : Hp) : Sub A A := fun _ _ h => h
theorem Sub.trans {A B C : Hp} (x : Sub A B) (y : Sub B C) : Sub A C := fun a u h => y a u (x a u h)
theorem Sub.rd {A B : Hp} (x : Sub A B) {a : Addr} {u : HO} (h : Rd A a u) : Rd B a u := by
  rcases h with h | ⟨o, h⟩
  · exact .inl (x a u h)
  · exact .inr ⟨o, x a _ h⟩
theorem Sub.l {K : PySem.W.Frag} {A B : Hp} {a : Addr} {xs : List V} (x : Sub A B) (h : SqL K A a xs) : SqL K B a xs := by
  rcases h with h | h
  · exact .inl (x.rd h)
  · exact .inr h
theorem Sub.t {K : PySem.W.Frag} {A B : Hp} {a : Addr} {xs : List V} (x : Sub A B) (h : SqT K A a xs) : SqT K B a xs := by
  rcases h with h | h
  · exact .inl (x.rd h)
  · exact .inr h
theorem Sub.gh {A B C : Hp} (x : Sub A B) (y : GH B C) : GH A C := fun a u h => y a u (x a u h)
theorem GH.rd {A B : Hp} (x : GH A B) {a : Addr} {u : HO} (h : Rd A a u) (nm : isMk u = false := by rfl) : Rd B a u := by
  rcases h with h | ⟨o, h⟩
  · rcases x a u h with h | ⟨_, o, h⟩ | h
    · exact .inl h.1
    · exact .inr ⟨o, h⟩
    · rw [h.mk.1] at nm
      cases nm
  · rcases x a _ h with h | ⟨d, _⟩ | h
    · exact .inr ⟨o, h.1⟩
    · cases d
    · cases h.mk.1
theorem GH.lst {A B : Hp} (x : GH A B) {a : Addr} {xs : List V} (h : A a = some (.lst xs)) : B a = some (.lst xs) := by
  rcases x a _ h with h | ⟨d, _⟩ | h
  · exact h.1
  · cases d
  · cases h.mk.1
theorem GH.l {K : PySem.W.Frag} {A B : Hp} {a : Addr} {xs : List V} (x : GH A B) (h : SqL K A a xs) : SqL K B a xs := by
  rcases h with h | h
  · exact .inl (x.rd h)
  · exact .inr h
theorem GH.t {K : PySem.W.Frag} {A B : Hp} {a : Addr} {xs : List V} (x : GH A B) (h : SqT K A a xs) : SqT K B a xs := by
  rcases h with h | h
  · exact .inl (x.rd h)
  · exact .inr h
theorem GH.none {A B : Hp} {a : Addr} (x : GH A B) (h : B a = none) : A a = none := by
  cases e : A a with
  | none => rfl
  | some o =>
    rcases x a o e with ⟨q, _⟩ | ⟨_, _, q⟩ | q
    · rw [h] at q; cases q
    · rw [h] at q; cases q
    · obtain ⟨_, xs, q⟩ := q.mk
      rw [h] at q; cases q
mutual
theorem Dq.mono {K : PySem.W.Frag} {A B : Hp} (x : Sub A B) : ∀ {v : V} {d : D}, Dq K A v d → Dq K B v d
  | _, _, .non => .non
  | _, _, .bl b => .bl b
  | _, _, .int i => .int i
  | _, _, .str z => .str z
  | _, _, .lst h t => .lst (x _ _ h) (DqA.mono x t)
  | _, _, .scr h => .scr (x.l h)
  | _, _, .tup h t => .tup (x.t h) (DqA.mono x t)
  | _, _, .dK h t => .dK (x.rd h) (DqK.mono x t)
  | _, _, .dT h t => .dT (x.rd h) (DqT.mono x t)
  | _, _, .sta h t => .sta (x _ _ h) (x _ _ t)
  | _, _, .opq h => .opq (x _ _ h)
  | _, _, .raw a => .raw a
theorem DqA.mono {K : PySem.W.Frag} {A B : Hp} (x : Sub A B) : ∀ {vs : List V} {ds : List D}, DqA K A vs ds → DqA K B vs ds
  | _, _, .nil => .nil
  | _, _, .cons h t => .cons (Dq.mono x h) (DqA.mono x t)
theorem DqK.mono {K : PySem.W.Frag} {A B : Hp} (x : Sub A B) : ∀ {vs : List (Key × V)} {ds : List (D × D)}, DqK K A vs ds → DqK K B vs ds
  | _, _, .nil => .nil
  | _, _, .cons h t => .cons (Dq.mono x h) (DqK.mono x t)
theorem DqT.mono {K : PySem.W.Frag} {A B : Hp} (x : Sub A B) : ∀ {vs : List (List Key × V)} {ds : List (D × D)}, DqT K A vs ds → DqT K B vs ds
  | _, _, .nil => .nil
  | _, _, .cons h t => .cons (Dq.mono x h) (DqT.mono x t)
end
section
variable {K : PySem.W.Frag} {G : Hp}
theorem DqA.length : ∀ {ds : List D} {vs : List V}, DqA K G vs ds → vs.length = ds.length
  | [], _, h => by cases h; rfl
  | _ :: ds, _, h => by
    cases h with
    | cons _ t => exact congrArg Nat.succ (DqA.length t)
theorem DqA.get : ∀ {ds : List D} {vs : List V} {i : Nat} {d : D}, DqA K G vs ds → ds[i]? = some d → ∃ v, vs[i]? = some v ∧ Dq K G v d
  | [], _, _, _, _, e => by simp at e
  | _ :: ds, _, i, d, h, e => by
    cases h with
    | cons x t =>
      cases i with
      | zero => simp at e; subst e; exact ⟨_, rfl, x⟩
      | succ i =>
        obtain ⟨v, h1, h2⟩ := DqA.get (i := i) (d := d) t (by simpa using e)
        exact ⟨v, by simpa using h1, h2⟩
theorem DqA.got {ds : List D} {vs : List V} {i : Nat} {v : V} (h : DqA K G vs ds) (e : vs[i]? = some v) : ∃ d, ds[i]? = some d ∧ Dq K G v d := by
  have hl := h.length
  have hi : i < vs.length := (List.getElem?_eq_some_iff.mp e).1
  obtain ⟨u, h1, h2⟩ := h.get (i := i) (d := ds[i]'(by omega)) (by simp [show i < ds.length by omega])
  rw [e] at h1
  cases h1
  exact ⟨_, by simp [show i < ds.length by omega], h2⟩
theorem DqA.append : ∀ {ds es : List D} {vs us : List V}, DqA K G vs ds → DqA K G us es → DqA K G (vs ++ us) (ds ++ es)
  | [], _, _, _, h, t => by cases h; exact t
  | _ :: ds, _, _, _, h, t => by
    cases h with
    | cons x r => exact .cons x (DqA.append r t)
theorem DqA.take : ∀ {ds : List D} {vs : List V} (n : Nat), DqA K G vs ds → DqA K G (vs.take n) (ds.take n)
  | [], _, n, h => by cases h; simpa using DqA.nil
  | _ :: ds, _, 0, h => by simpa using DqA.nil
  | _ :: ds, _, n + 1, h => by
    cases h with
    | cons x r => exact .cons x (DqA.take n r)
theorem DqA.drop : ∀ {ds : List D} {vs : List V} (n : Nat), DqA K G vs ds → DqA K G (vs.drop n) (ds.drop n)
  | [], _, n, h => by cases h; simpa using DqA.nil
  | _ :: ds, _, 0, h => h
  | _ :: ds, _, n + 1, h => by
    cases h with
    | cons x r => exact DqA.drop n r
theorem DqA.set : ∀ {ds : List D} {vs : List V} (i : Nat) {v : V} {d : D}, DqA K G vs ds → Dq K G v d → DqA K G (vs.set i v) (ds.set i d)
  | [], _, i, _, _, h, _ => by cases h; simpa using DqA.nil
  | _ :: ds, _, 0, _, _, h, x => by
    cases h with
    | cons _ r => exact .cons x r
  | _ :: ds, _, i + 1, _, _, h, x => by
    cases h with
    | cons y r => exact .cons y (DqA.set i r x)
theorem DqA.one {v : V} {d : D} (h : Dq K G v d) : DqA K G [v] [d] := .cons h .nil
theorem DqA.rev : ∀ {ds : List D} {vs : List V}, DqA K G vs ds → DqA K G vs.reverse ds.reverse
  | [], _, h => by cases h; exact .nil
  | _ :: ds, _, h => by
    cases h with
    | cons x r =>
      rw [List.reverse_cons, List.reverse_cons]
      exact (DqA.rev r).append (.one x)
end
def noTup : HO → Bool
  | .tup _ => false
  | _ => true
/-- a is one of the lists that defs change -/
def mkd (G : Hp) (a : Addr) : Prop := ∃ u, G a = some u ∧ isMk u = true
/-- from (G, H) to (G', H'): nothing that stood was changed, but what is marked; what was owned stays out of the frozen part -/
structure Ext (G H G' H' : Hp) : Prop where
  gg : ∀ a o, G a = some o → G' a = some o
  hh : ∀ a o, H a = some o → H' a = some o ∨ mkd G a
  gh : GH G' H'
  own : ∀ a o, H a = some o → noTup o = true → G a = none → G' a = none
theorem Ext.refl {G H : Hp} (g : GH G H) : Ext G H G H := ⟨fun _ _ h => h, fun _ _ h => .inl h, g, fun _ _ _ _ h => h⟩
theorem Ext.at {G H G' H' : Hp} (x : Ext G H G' H') {a : Addr} {o : HO} (hG : G a = none) (h : H a = some o) : H' a = some o := by
  rcases x.hh a o h with h | ⟨u, h, _⟩
  · exact h
  · rw [hG] at h
    cases h
theorem Ext.gone {G H G' H' : Hp} (x : Ext G H G' H') {a : Addr} (h : H' a = none) : H a = none := by
  cases e : H a with
  | none => rfl
  | some o =>
    rcases x.hh a o e with q | ⟨u, q, _⟩
    · rw [h] at q
      cases q
    · have := x.gh.none h
      rw [x.gg a u q] at this
      cases this
theorem Ext.ownT {G H G1 H1 G2 H2 : Hp} (x : Ext G H G1 H1) (y : Ext G1 H1 G2 H2) {a : Addr} {o : HO} (h : H a = some o) (t : noTup o = true) (n : G a = none) : G2 a = none :=
  y.own a o (x.at n h) t (x.own a o h t n)
theorem mkd.mono {G G' : Hp} (g : ∀ a o, G a = some o → G' a = some o) {a : Addr} (m : mkd G a) : mkd G' a := m.imp fun u h => ⟨g a u h.1, h.2⟩
theorem Ext.mark {G H G1 H1 : Hp} (x : Ext G H G1 H1) {a : Addr} {o : HO} (h : H a = some o) (m : mkd G1 a) : mkd G a := by
  rcases x.hh a o h with h1 | m'
  · obtain ⟨u, m, mu⟩ := m
    cases e : G a with
    | some v =>
      have := x.gg a v e
      rw [m] at this
      cases this
      exact ⟨u, e, mu⟩
    | none =>
      cases t : noTup o with
      | true =>
        rw [x.own a o h t e] at m
        cases m
      | false =>
        rcases x.gh a u m with ⟨_, q⟩ | ⟨d, _⟩ | q
        · rw [mu] at q
          cases q
        · cases u <;> first | (cases mu; done) | (cases d; done)
        · obtain ⟨_, xs, q⟩ := q.mk
          rw [h1] at q
          cases q
          cases t
  · exact m'
theorem Ext.trans {G H G1 H1 G2 H2 : Hp} (x : Ext G H G1 H1) (y : Ext G1 H1 G2 H2) : Ext G H G2 H2 := by
  refine ⟨fun a o h => y.gg a o (x.gg a o h), fun a o h => ?_, y.gh, fun a o h t n => x.ownT y h t n⟩
  rcases x.hh a o h with h1 | m
  · exact (y.hh a o h1).imp id (x.mark h)
  · exact .inr m
theorem Ext.g {G H G' H' : Hp} (x : Ext G H G' H') : Sub G G' := x.gg
/-- a new object is laid and frozen -/
theorem Ext.new {G H : Hp} {p : Addr} {o : HO} (g : GH G H) (h : H p = none) (nm : isMk o = false := by rfl) : Ext G H (upd G p o) (upd H p o) := by
  refine ⟨fun a u e => ?_, fun a u e => .inl ?_, fun a u r => ?_, fun a u e _ n => ?_⟩
  · rw [upd_ne (ne_of_none e (g.none h))]; exact e
  · rw [upd_ne (ne_of_none e h)]; exact e
  · by_cases ha : a = p
    · subst ha
      rw [upd_same] at r
      cases r
      exact .of upd_same nm
    · rw [upd_ne ha] at r
      exact (g a u r).eq (upd_ne ha)
  · rw [upd_ne (ne_of_none e h)]; exact n
/-- a new object is laid and owned -/
theorem Ext.fresh {G H : Hp} {p : Addr} {o : HO} (g : GH G H) (h : H p = none) : Ext G H G (upd H p o) := by
  refine ⟨fun a u e => e, fun a u e => .inl ?_, fun a u r => ?_, fun a u e _ n => n⟩
  · rw [upd_ne (ne_of_none e h)]; exact e
  · have hp : a ≠ p := by
      rintro rfl
      rw [g.none h] at r; cases r
    exact (g a u r).eq (upd_ne hp)
/-- a slot: not told, a frozen datum, an owned one -/
inductive Sl where
  | no
  | fr (d : D)
  | ow (d : D)
  /-- a caught exception at a, its dict at dd -/
  | ex (a dd : Addr) (fl : List (Str × D))
  /-- a dict of owned lists -/
  | ne (kls : List (Key × List D))
/-- the fields of an exception -/
def DqF (K : PySem.W.Frag) (G : Hp) (fs : List (Str × V)) (fl : List (Str × D)) : Prop := fs.map (·.1) = fl.map (·.1) ∧ DqA K G (fs.map (·.2)) (fl.map (·.2))
theorem DqF.mono {K : PySem.W.Frag} {A B : Hp} (x : Sub A B) {fs : List (Str × V)} {fl : List (Str × D)} (h : DqF K A fs fl) : DqF K B fs fl := ⟨h.1, h.2.mono x⟩
theorem DqF.get {K : PySem.W.Frag} {G : Hp} {f : Str} {d : D} : ∀ {fl : List (Str × D)} {fs : List (Str × V)}, DqF K G fs fl → fl.lookup f = some d → ∃ v, fs.lookup f = some v ∧ Dq K G v d
  | [], _, _, e => by simp at e
  | (g, d') :: fl, [], h, _ => by
    have := h.1
    simp at this
  | (g, d') :: fl, (g', v') :: fs, h, e => by
    obtain ⟨h1, h2⟩ := h
    simp only [List.map_cons] at h1 h2
    injection h1 with e1 h1
    cases h2 with
    | cons a b =>
      subst e1
      by_cases q : f = g'
      · subst q
        rw [List.lookup_cons_self] at e
        cases e
        exact ⟨v', List.lookup_cons_self, a⟩
      · have q2 : (f == g') = false := by simpa using q
        rw [List.lookup_cons, q2] at e
        rw [List.lookup_cons, q2]
        exact DqF.get ⟨h1, b⟩ e
/-- what stands at an owned address -/
inductive OwnC (K : PySem.W.Frag) (G H : Hp) (l : Addr) : D → Prop
  | lst {vs : List V} {ds : List D} : H l = some (.lst vs) → DqA K G vs ds → OwnC K G H l (.list ds)
  | dK {es : List (Key × V)} {kvs : List (D × D)} : H l = some (.dK es) → DqK K G es kvs → OwnC K G H l (.dict kvs)
  | dT {es : List (List Key × V)} {kvs : List (D × D)} : H l = some (.dT es) → DqT K G es kvs → OwnC K G H l (.dict ((.none, .none) :: kvs))
theorem OwnC.there {K : PySem.W.Frag} {G H : Hp} {l : Addr} {d : D} (x : OwnC K G H l d) : ∃ o, H l = some o ∧ noTup o = true := by
  cases x with
  | lst h _ => exact ⟨_, h, rfl⟩
  | dK h _ => exact ⟨_, h, rfl⟩
  | dT h _ => exact ⟨_, h, rfl⟩
theorem OwnC.there2 {K : PySem.W.Frag} {G H : Hp} {l : Addr} {d : D} (x : OwnC K G H l d) : ∃ o, H l = some o ∧ noTup o = true ∧ isMk o = false := by
  cases x with
  | lst h _ => exact ⟨_, h, rfl, rfl⟩
  | dK h _ => exact ⟨_, h, rfl, rfl⟩
  | dT h _ => exact ⟨_, h, rfl, rfl⟩
theorem OwnC.ext {K : PySem.W.Frag} {G H G' H' : Hp} {l : Addr} {d : D} (x : OwnC K G H l d) (g : Sub G G') (h : H' l = H l) : OwnC K G' H' l d := by
  cases x with
  | lst e r => exact .lst (h.trans e) (r.mono g)
  | dK e r => exact .dK (h.trans e) (r.mono g)
  | dT e r => exact .dT (h.trans e) (r.mono g)
/-- an owned object read as a frozen one, over the whole heap -/
theorem OwnC.dq {K : PySem.W.Frag} {G H B : Hp} {l : Addr} {d : D} (x : OwnC K G H l d) (g : Sub G B) (h : ∀ o, H l = some o → B l = some o) : Dq K B (.ref l) d := by
  cases x with
  | lst e r => exact .lst (h _ e) (r.mono g)
  | dK e r => exact .dK (.inl (h _ e)) (r.mono g)
  | dT e r => exact .dT (.inl (h _ e)) (r.mono g)
/-- the lists at these addresses -/
inductive NeL (K : PySem.W.Frag) (G H : Hp) : List (Key × V) → List Addr → List (Key × List D) → Prop
  | nil : NeL K G H [] [] []
  | cons {k : Key} {a : Addr} {vs : List V} {ds : List D} {es : List (Key × V)} {as : List Addr} {kls : List (Key × List D)} : H a = some (.lst vs) → DqA K G vs ds → NeL K G H es as kls → NeL K G H ((k, .ref a) :: es) (a :: as) ((k, ds) :: kls)
theorem NeL.go {K : PySem.W.Frag} {G H G' H' : Hp} (g : Sub G G') : ∀ {es : List (Key × V)} {as : List Addr} {kls : List (Key × List D)}, NeL K G H es as kls → (∀ a ∈ as, H' a = H a) → NeL K G' H' es as kls
  | _, _, _, .nil, _ => .nil
  | _, _, _, .cons h r t, e => .cons ((e _ (List.mem_cons_self ..)).trans h) (r.mono g) (NeL.go g t fun a ha => e a (List.mem_cons_of_mem _ ha))
theorem NeL.there {K : PySem.W.Frag} {G H : Hp} {es : List (Key × V)} {as : List Addr} {kls : List (Key × List D)} (x : NeL K G H es as kls) : ∀ a ∈ as, ∃ vs, H a = some (.lst vs) := by
  induction x with
  | nil =>
    intro a ha
    cases ha
  | cons h _ _ ih =>
    intro a ha
    rcases List.mem_cons.mp ha with rfl | ha
    · exact ⟨_, h⟩
    · exact ih a ha
theorem NeL.det {K : PySem.W.Frag} {G H G' H' : Hp} : ∀ {es : List (Key × V)} {as bs : List Addr} {kls lls : List (Key × List D)}, NeL K G H es as kls → NeL K G' H' es bs lls → as = bs
  | _, _, _, _, _, .nil, .nil => rfl
  | _, _, _, _, _, .cons _ _ t, .cons _ _ u => congrArg _ (NeL.det t u)
def NeC (K : PySem.W.Frag) (G H : Hp) (l : Addr) (as : List Addr) (kls : List (Key × List D)) : Prop := (∃ es, H l = some (.dK es) ∧ NeL K G H es as kls) ∧ (l :: as).Nodup
theorem NeC.there {K : PySem.W.Frag} {G H : Hp} {l : Addr} {as : List Addr} {kls : List (Key × List D)} (x : NeC K G H l as kls) : ∀ a ∈ l :: as, ∃ o, H a = some o ∧ noTup o = true := fun a ha => by
  obtain ⟨⟨es, h1, h2⟩, _⟩ := x
  rcases List.mem_cons.mp ha with rfl | ha
  · exact ⟨_, h1, rfl⟩
  · obtain ⟨vs, h⟩ := h2.there a ha
    exact ⟨_, h, rfl⟩
theorem NeC.there2 {K : PySem.W.Frag} {G H : Hp} {l : Addr} {as : List Addr} {kls : List (Key × List D)} (x : NeC K G H l as kls) {a : Addr} {u : HO} (ha : a ∈ l :: as) (r : H a = some u) : isMk u = false := by
  obtain ⟨⟨es, h1, h2⟩, _⟩ := x
  rcases List.mem_cons.mp ha with rfl | ha
  · rw [h1] at r
    cases r
    rfl
  · obtain ⟨vs, h⟩ := h2.there a ha
    rw [h] at r
    cases r
    rfl
theorem NeC.go {K : PySem.W.Frag} {G H G' H' : Hp} {l : Addr} {as : List Addr} {kls : List (Key × List D)} (x : NeC K G H l as kls) (g : Sub G G') (e : ∀ a ∈ l :: as, H' a = H a) : NeC K G' H' l as kls := by
  obtain ⟨⟨es, h1, h2⟩, n⟩ := x
  exact ⟨⟨es, (e l (List.mem_cons_self ..)).trans h1, h2.go g fun a ha => e a (List.mem_cons_of_mem _ ha)⟩, n⟩
structure En (K : PySem.W.Frag) (G0 H0 G H : Hp) (σ : St) (ρ : List Sl) : Prop where
  len : σ.length = ρ.length
  ext : Ext G0 H0 G H
  fr : ∀ (i : Nat) (d : D), ρ[i]? = some (Sl.fr d) → ∃ v, σ[i]? = some (some v) ∧ Dq K G v d
  ow : ∀ (i : Nat) (d : D), ρ[i]? = some (Sl.ow d) → ∃ l, σ[i]? = some (some (V.ref l)) ∧ H0 l = none ∧ G l = none ∧ OwnC K G H l d
  ex : ∀ (i : Nat) (a dd : Addr) (fl : List (Str × D)), ρ[i]? = some (Sl.ex a dd fl) → σ[i]? = some (some (V.ref a)) ∧ ∃ fs, G dd = some (.xd fs) ∧ DqF K G fs fl
  dis : ∀ (i j : Nat) (d e : D) (l : Addr), ρ[i]? = some (Sl.ow d) → ρ[j]? = some (Sl.ow e) → σ[i]? = some (some (V.ref l)) → σ[j]? = some (some (V.ref l)) → i = j
  ne : ∀ (i : Nat) (kls : List (Key × List D)), ρ[i]? = some (Sl.ne kls) → ∃ l as, σ[i]? = some (some (V.ref l)) ∧ NeC K G H l as kls ∧ ∀ a ∈ l :: as, H0 a = none ∧ G a = none ∧ ∀ (j : Nat) (e : D), ρ[j]? = some (Sl.ow e) → σ[j]? ≠ some (some (V.ref a))
  ned : ∀ (i j : Nat) (x y : List (Key × List D)), ρ[i]? = some (Sl.ne x) → ρ[j]? = some (Sl.ne y) → i = j
section
variable {K : PySem.W.Frag} {G0 H0 G H G' H' : Hp} {σ : St} {ρ : List Sl}
theorem En.go (E : En K G0 H0 G H σ ρ) (x : Ext G H G' H') : En K G0 H0 G' H' σ ρ := by
  refine ⟨E.len, E.ext.trans x, fun i d e => ?_, fun i d e => ?_, fun i a dd fl e => ?_, E.dis, fun i kls e => ?_, E.ned⟩
  · obtain ⟨v, h1, h2⟩ := E.fr i d e
    exact ⟨v, h1, h2.mono x.g⟩
  · obtain ⟨l, h1, h2, h3, h4⟩ := E.ow i d e
    obtain ⟨o, ho, ht⟩ := h4.there
    exact ⟨l, h1, h2, x.own l o ho ht h3, h4.ext x.g ((x.at h3 ho).trans ho.symm)⟩
  · obtain ⟨h1, fs, h2, h3⟩ := E.ex i a dd fl e
    exact ⟨h1, fs, x.gg _ _ h2, h3.mono x.g⟩
  · obtain ⟨l, as, h1, h2, h3⟩ := E.ne i kls e
    refine ⟨l, as, h1, h2.go x.g fun a ha => ?_, fun a ha => ?_⟩
    · obtain ⟨o, ho, _⟩ := h2.there a ha
      exact (x.at (h3 a ha).2.1 ho).trans ho.symm
    · obtain ⟨o, ho, ht⟩ := h2.there a ha
      obtain ⟨b1, b2, b3⟩ := h3 a ha
      exact ⟨b1, x.own a o ho ht b2, b3⟩
theorem En.gh (E : En K G0 H0 G H σ ρ) : GH G H := E.ext.gh
theorem set_get? {α : Type} {xs : List α} {i j : Nat} {a b : α} (h : (xs.set i a)[j]? = some b) : (j = i ∧ i < xs.length ∧ a = b) ∨ (j ≠ i ∧ xs[j]? = some b) := by
  by_cases e : j = i
  · subst e
    have hi : j < (xs.set j a).length := (List.getElem?_eq_some_iff.mp h).1
    rw [List.length_set] at hi
    rw [List.getElem?_set_self hi] at h
    exact .inl ⟨rfl, hi, Option.some.inj h⟩
  · rw [List.getElem?_set_ne (Ne.symm e)] at h
    exact .inr ⟨e, h⟩
theorem En.ne_set (E : En K G0 H0 G H σ ρ) {i : Nat} {v : Option V} {s : Sl} (hs : ∀ kls, s ≠ Sl.ne kls) (ho : ∀ d, s ≠ Sl.ow d) (j : Nat) (kls : List (Key × List D)) (q : (ρ.set i s)[j]? = some (Sl.ne kls)) :
    ∃ l as, (σ.set i v)[j]? = some (some (V.ref l)) ∧ NeC K G H l as kls ∧ ∀ a ∈ l :: as, H0 a = none ∧ G a = none ∧ ∀ (k : Nat) (e : D), (ρ.set i s)[k]? = some (Sl.ow e) → (σ.set i v)[k]? ≠ some (some (V.ref a)) := by
  rcases set_get? q with ⟨_, _, x⟩ | ⟨nj, q⟩
  · exact absurd x (hs _)
  · obtain ⟨l, as, h1, h2, h3⟩ := E.ne j kls q
    refine ⟨l, as, by rw [List.getElem?_set_ne (Ne.symm nj)]; exact h1, h2, fun a ha => ?_⟩
    obtain ⟨b1, b2, b3⟩ := h3 a ha
    refine ⟨b1, b2, fun k e z => ?_⟩
    rcases set_get? z with ⟨_, _, x⟩ | ⟨nk, z⟩
    · exact absurd x (ho _)
    · rw [List.getElem?_set_ne (Ne.symm nk)]
      exact b3 k e z
theorem En.ned_set (E : En K G0 H0 G H σ ρ) {i : Nat} {s : Sl} (hs : ∀ kls, s ≠ Sl.ne kls) (j k : Nat) (x y : List (Key × List D)) (q : (ρ.set i s)[j]? = some (Sl.ne x)) (q' : (ρ.set i s)[k]? = some (Sl.ne y)) : j = k := by
  rcases set_get? q with ⟨_, _, z⟩ | ⟨_, q⟩
  · exact absurd z (hs _)
  · rcases set_get? q' with ⟨_, _, z⟩ | ⟨_, q'⟩
    · exact absurd z (hs _)
    · exact E.ned j k x y q q'
theorem En.setF (E : En K G0 H0 G H σ ρ) {v : V} {d : D} (i : Nat) (h : Dq K G v d) : En K G0 H0 G H (σ.set i (some v)) (ρ.set i (Sl.fr d)) := by
  refine ⟨by rw [List.length_set, List.length_set, E.len], E.ext, fun j e q => ?_, fun j e q => ?_, fun j a dd fl q => ?_, fun j k e e' l q q' r r' => ?_, E.ne_set (fun _ z => nomatch z) (fun _ z => nomatch z), E.ned_set (fun _ z => nomatch z)⟩
  · rcases set_get? q with ⟨rfl, hi, x⟩ | ⟨ne, q⟩
    · cases x
      exact ⟨v, by rw [List.getElem?_set_self (by rw [E.len]; exact hi)], h⟩
    · obtain ⟨u, h1, h2⟩ := E.fr j e q
      exact ⟨u, by rw [List.getElem?_set_ne (Ne.symm ne)]; exact h1, h2⟩
  · rcases set_get? q with ⟨_, _, x⟩ | ⟨ne, q⟩
    · cases x
    · obtain ⟨l, h1, h2⟩ := E.ow j e q
      exact ⟨l, by rw [List.getElem?_set_ne (Ne.symm ne)]; exact h1, h2⟩
  · rcases set_get? q with ⟨_, _, x⟩ | ⟨ne, q⟩
    · cases x
    · obtain ⟨h1, h2⟩ := E.ex j a dd fl q
      exact ⟨by rw [List.getElem?_set_ne (Ne.symm ne)]; exact h1, h2⟩
  · rcases set_get? q with ⟨_, _, x⟩ | ⟨ne, q⟩
    · cases x
    · rcases set_get? q' with ⟨_, _, x⟩ | ⟨ne', q'⟩
      · cases x
      · rw [List.getElem?_set_ne (Ne.symm ne)] at r
        rw [List.getElem?_set_ne (Ne.symm ne')] at r'
        exact E.dis j k e e' l q q' r r'
/-- an owned object comes into slot i -/
theorem En.setO (E : En K G0 H0 G H σ ρ) {l : Addr} {d : D} (i : Nat) (h0 : H0 l = none) (hG : G l = none) (h : OwnC K G H l d) (hd : ∀ (j : Nat) (e : D), j ≠ i → ρ[j]? = some (Sl.ow e) → σ[j]? ≠ some (some (V.ref l))) (hn : ∀ (j : Nat) (kls : List (Key × List D)) (l' : Addr) (as : List Addr), ρ[j]? = some (Sl.ne kls) → σ[j]? = some (some (V.ref l')) → NeC K G H l' as kls → l ∉ l' :: as) :
    En K G0 H0 G H (σ.set i (some (.ref l))) (ρ.set i (Sl.ow d)) := by
  refine ⟨by rw [List.length_set, List.length_set, E.len], E.ext, fun j e q => ?_, fun j e q => ?_, fun j a dd fl q => ?_, fun j k e e' a q q' r r' => ?_, fun j kls q => ?_, E.ned_set (fun _ z => nomatch z)⟩
  · rcases set_get? q with ⟨_, _, x⟩ | ⟨ne, q⟩
    · cases x
    · obtain ⟨u, h1, h2⟩ := E.fr j e q
      exact ⟨u, by rw [List.getElem?_set_ne (Ne.symm ne)]; exact h1, h2⟩
  · rcases set_get? q with ⟨rfl, hi, x⟩ | ⟨ne, q⟩
    · cases x
      exact ⟨l, by rw [List.getElem?_set_self (by rw [E.len]; exact hi)], h0, hG, h⟩
    · obtain ⟨l, h1, h2⟩ := E.ow j e q
      exact ⟨l, by rw [List.getElem?_set_ne (Ne.symm ne)]; exact h1, h2⟩
  · rcases set_get? q with ⟨_, _, x⟩ | ⟨ne, q⟩
    · cases x
    · obtain ⟨h1, h2⟩ := E.ex j a dd fl q
      exact ⟨by rw [List.getElem?_set_ne (Ne.symm ne)]; exact h1, h2⟩
  · rcases set_get? q with ⟨rfl, hi, x⟩ | ⟨ne, q⟩
    · rcases set_get? q' with ⟨rfl, _, x⟩ | ⟨ne', q'⟩
      · rfl
      · rw [List.getElem?_set_self (by rw [E.len]; exact hi)] at r
        rw [List.getElem?_set_ne (Ne.symm ne')] at r'
        cases r
        exact absurd r' (hd k e' ne' q')
    · rcases set_get? q' with ⟨rfl, hi, x⟩ | ⟨ne', q'⟩
      · rw [List.getElem?_set_self (by rw [E.len]; exact hi)] at r'
        rw [List.getElem?_set_ne (Ne.symm ne)] at r
        cases r'
        exact absurd r (hd j e ne (by assumption))
      · rw [List.getElem?_set_ne (Ne.symm ne)] at r
        rw [List.getElem?_set_ne (Ne.symm ne')] at r'
        exact E.dis j k e e' a q q' r r'
  · rcases set_get? q with ⟨_, _, x⟩ | ⟨nj, q⟩
    · cases x
    · obtain ⟨l', as, h1, h2, h3⟩ := E.ne j kls q
      have hln := hn j kls l' as q h1 h2
      refine ⟨l', as, by rw [List.getElem?_set_ne (Ne.symm nj)]; exact h1, h2, fun a ha => ?_⟩
      obtain ⟨b1, b2, b3⟩ := h3 a ha
      refine ⟨b1, b2, fun k e z => ?_⟩
      rcases set_get? z with ⟨rfl, hi, _⟩ | ⟨nk, z⟩
      · rw [List.getElem?_set_self (by rw [E.len]; exact hi)]
        intro y
        injection y with y
        injection y with y
        injection y with y
        subst y
        exact hln ha
      · rw [List.getElem?_set_ne (Ne.symm nk)]
        exact b3 k e z
/-- a new owned object -/
theorem En.setN (E : En K G0 H0 G H σ ρ) {l : Addr} {d : D} (i : Nat) (x : Ext G H G' H') (hH : H l = none) (hG : G' l = none) (h : OwnC K G' H' l d) : En K G0 H0 G' H' (σ.set i (some (.ref l))) (ρ.set i (Sl.ow d)) := by
  refine (E.go x).setO i ?_ hG h (fun j e ne q r => ?_) fun j kls l' as q r c hm => ?_
  · exact E.ext.gone hH
  · obtain ⟨l', h1, _, _, h4⟩ := E.ow j e q
    obtain ⟨o, ho, ht⟩ := h4.there
    rw [h1] at r
    cases r
    rw [hH] at ho; cases ho
  · obtain ⟨l0, as0, h1, h2, h2'⟩ := E.ne j kls q
    rw [h1] at r
    cases r
    obtain ⟨⟨es, e1, e2⟩, nd⟩ := h2
    obtain ⟨⟨es', e3, e4⟩, _⟩ := c
    have e5 := x.at (h2' _ (List.mem_cons_self ..)).2.1 e1
    rw [e5] at e3
    cases e3
    have e6 := e2.det e4
    subst e6
    obtain ⟨o, ho, _⟩ := (show NeC K G H l' as0 kls from ⟨⟨es, e1, e2⟩, nd⟩).there l hm
    rw [hH] at ho
    cases ho
/-- an owned object is frozen from now on -/
theorem En.frzAs (E : En K G0 H0 G H σ ρ) {i : Nat} {d d' : D} {l : Addr} {o : HO} (hi : ρ[i]? = some (Sl.ow d)) (h1 : σ[i]? = some (some (V.ref l))) (ho : GHat o H l) (hd : (∀ a u, G a = some u → upd G l o a = some u) → Dq K (upd G l o) (.ref l) d') : En K G0 H0 (upd G l o) H σ (ρ.set i (Sl.fr d')) := by
  obtain ⟨l', h1', h2, h3, h4⟩ := E.ow i d hi
  rw [h1] at h1'
  injection h1' with h1'
  injection h1' with h1'
  injection h1' with h1'
  subst h1'
  have gg : ∀ a u, G a = some u → upd G l o a = some u := fun a u e => by
    rw [upd_ne (ne_of_none e h3)]; exact e
  have gh' : GH (upd G l o) H := fun a u r => by
    by_cases ha : a = l
    · subst ha
      rw [upd_same] at r
      cases r
      exact ho
    · rw [upd_ne ha] at r
      exact E.gh a u r
  have hil : i < ρ.length := (List.getElem?_eq_some_iff.mp hi).1
  refine ⟨by rw [List.length_set, E.len], ⟨fun a u e => gg a u (E.ext.gg a u e), E.ext.hh, gh', fun a u e t n => ?_⟩, fun j e q => ?_, fun j e q => ?_, fun j a dd fl q => ?_, fun j k e e' a q q' r r' => ?_, fun j kls q => ?_, E.ned_set (fun _ z => nomatch z)⟩
  · rw [upd_ne (ne_of_none e h2)]; exact E.ext.own a u e t n
  · rcases set_get? q with ⟨rfl, _, x⟩ | ⟨ne, q⟩
    · cases x
      exact ⟨_, h1, hd gg⟩
    · obtain ⟨v, a1, a2⟩ := E.fr j e q
      exact ⟨v, a1, a2.mono (Sub.of gg)⟩
  · rcases set_get? q with ⟨_, _, x⟩ | ⟨ne, q⟩
    · cases x
    · obtain ⟨b, a1, a2, a3, a4⟩ := E.ow j e q
      have hb : b ≠ l := by
        rintro rfl
        exact ne (E.dis j i e d b q hi a1 h1)
      exact ⟨b, a1, a2, by rw [upd_ne hb]; exact a3, a4.ext (Sub.of gg) rfl⟩
  · rcases set_get? q with ⟨_, _, x⟩ | ⟨ne, q⟩
    · cases x
    · obtain ⟨a1, fs, a2, a3⟩ := E.ex j a dd fl q
      exact ⟨a1, fs, gg _ _ a2, a3.mono (Sub.of gg)⟩
  · rcases set_get? q with ⟨_, _, x⟩ | ⟨ne, q⟩
    · cases x
    · rcases set_get? q' with ⟨_, _, x⟩ | ⟨ne', q'⟩
      · cases x
      · exact E.dis j k e e' a q q' r r'
  · rcases set_get? q with ⟨_, _, x⟩ | ⟨nj, q⟩
    · cases x
    · obtain ⟨l', as, c1, c2, c3⟩ := E.ne j kls q
      refine ⟨l', as, c1, c2.go (Sub.of gg) fun _ _ => rfl, fun a ha => ?_⟩
      obtain ⟨b1, b2, b3⟩ := c3 a ha
      have hal : a ≠ l := fun z => b3 i d hi (by rw [z]; exact h1)
      refine ⟨b1, by rw [upd_ne hal]; exact b2, fun k e z => ?_⟩
      rcases set_get? z with ⟨_, _, x⟩ | ⟨_, z⟩
      · cases x
      · exact b3 k e z
theorem En.freeze (E : En K G0 H0 G H σ ρ) {i : Nat} {d : D} (hi : ρ[i]? = some (Sl.ow d)) : ∃ G', En K G0 H0 G' H σ (ρ.set i (Sl.fr d)) := by
  obtain ⟨l, h1, h2, h3, h4⟩ := E.ow i d hi
  obtain ⟨o, ho, ht, hm⟩ := h4.there2
  exact ⟨_, E.frzAs hi h1 (.of ho hm) fun gg => h4.dq (Sub.of gg) fun u hu => by rw [upd_same]; rw [ho] at hu; exact hu⟩
/-- the owned object of slot i is changed -/
theorem En.write (E : En K G0 H0 G H σ ρ) {i : Nat} {d d' : D} {l : Addr} {o : HO} (hi : ρ[i]? = some (Sl.ow d)) (hl : σ[i]? = some (some (V.ref l))) (h : OwnC K G (upd H l o) l d') : En K G0 H0 G (upd H l o) σ (ρ.set i (Sl.ow d')) := by
  obtain ⟨l', h1, h2, h3, h4⟩ := E.ow i d hi
  rw [hl] at h1
  cases h1
  have hil : i < ρ.length := (List.getElem?_eq_some_iff.mp hi).1
  have ghn : GH G (upd H l o) := fun a u r => by
    have ne : a ≠ l := by
      rintro rfl
      rw [h3] at r; cases r
    exact (E.gh a u r).eq (upd_ne ne)
  refine ⟨by rw [List.length_set, E.len], ⟨E.ext.gg, fun a u e => by rw [upd_ne (ne_of_none e h2)]; exact E.ext.hh a u e, ghn, E.ext.own⟩, fun j e q => ?_, fun j e q => ?_, fun j a dd fl q => ?_, fun j k e e' a q q' r r' => ?_, fun j kls q => ?_, E.ned_set (fun _ z => nomatch z)⟩
  · rcases set_get? q with ⟨_, _, x⟩ | ⟨ne, q⟩
    · cases x
    · exact E.fr j e q
  · rcases set_get? q with ⟨rfl, _, x⟩ | ⟨ne, q⟩
    · cases x
      exact ⟨l, hl, h2, h3, h⟩
    · obtain ⟨b, a1, a2, a3, a4⟩ := E.ow j e q
      have hb : b ≠ l := by
        rintro rfl
        exact ne (E.dis j i e d b q hi a1 hl)
      exact ⟨b, a1, a2, a3, a4.ext (Sub.refl G) (upd_ne hb)⟩
  · rcases set_get? q with ⟨_, _, x⟩ | ⟨ne, q⟩
    · cases x
    · exact E.ex j a dd fl q
  · have hx : ∀ {j : Nat} {e : D}, (ρ.set i (Sl.ow d'))[j]? = some (Sl.ow e) → ∃ e', ρ[j]? = some (Sl.ow e') := fun {j e} z => by
      rcases set_get? z with ⟨rfl, _, x⟩ | ⟨ne, z⟩
      · exact ⟨d, hi⟩
      · exact ⟨e, z⟩
    obtain ⟨f, q⟩ := hx q
    obtain ⟨f', q'⟩ := hx q'
    exact E.dis j k f f' a q q' r r'
  · rcases set_get? q with ⟨_, _, x⟩ | ⟨nj, q⟩
    · cases x
    · obtain ⟨l', as, c1, c2, c3⟩ := E.ne j kls q
      refine ⟨l', as, c1, c2.go (Sub.refl G) fun a ha => ?_, fun a ha => ?_⟩
      · have hal : a ≠ l := fun z => (c3 a ha).2.2 i d hi (by rw [z]; exact hl)
        exact upd_ne hal
      · obtain ⟨b1, b2, b3⟩ := c3 a ha
        refine ⟨b1, b2, fun k e z => ?_⟩
        rcases set_get? z with ⟨rfl, _, _⟩ | ⟨_, z⟩
        · exact b3 k d hi
        · exact b3 k e z
/-- a slot is forgotten -/
theorem En.drop (E : En K G0 H0 G H σ ρ) {ρ' : List Sl} (hl : ρ'.length = ρ.length) (h : ∀ (i : Nat) (s : Sl), ρ'[i]? = some s → s = Sl.no ∨ ρ[i]? = some s) : En K G0 H0 G H σ ρ' := by
  have hf : ∀ i d, ρ'[i]? = some (Sl.fr d) → ρ[i]? = some (Sl.fr d) := fun i d e => (h i _ e).elim (fun z => nomatch z) id
  have ho : ∀ i d, ρ'[i]? = some (Sl.ow d) → ρ[i]? = some (Sl.ow d) := fun i d e => (h i _ e).elim (fun z => nomatch z) id
  have hx : ∀ (i : Nat) (a dd : Addr) (fl : List (Str × D)), ρ'[i]? = some (Sl.ex a dd fl) → ρ[i]? = some (Sl.ex a dd fl) := fun i a dd fl e => (h i _ e).elim (fun z => nomatch z) id
  have hk : ∀ (i : Nat) (kls : List (Key × List D)), ρ'[i]? = some (Sl.ne kls) → ρ[i]? = some (Sl.ne kls) := fun i kls e => (h i _ e).elim (fun z => nomatch z) id
  exact ⟨E.len.trans hl.symm, E.ext, fun i d e => E.fr i d (hf i d e), fun i d e => E.ow i d (ho i d e), fun i a dd fl e => E.ex i a dd fl (hx i a dd fl e), fun i j d e l q q' => E.dis i j d e l (ho i d q) (ho j e q'), fun i kls e => (E.ne i kls (hk i kls e)).imp fun l z => z.imp fun as z => ⟨z.1, z.2.1, fun a ha => ⟨(z.2.2 a ha).1, (z.2.2 a ha).2.1, fun j e q => (z.2.2 a ha).2.2 j e (ho j e q)⟩⟩, fun i j x y q q' => E.ned i j x y (hk i x q) (hk j y q')⟩
/-- a slot that is written over without a word -/
theorem En.setX (E : En K G0 H0 G H σ ρ) (i : Nat) (v : Option V) : En K G0 H0 G H (σ.set i v) (ρ.set i Sl.no) := by
  refine ⟨by rw [List.length_set, List.length_set, E.len], E.ext, fun j e q => ?_, fun j e q => ?_, fun j a dd fl q => ?_, fun j k e e' l q q' r r' => ?_, E.ne_set (fun _ z => nomatch z) (fun _ z => nomatch z), E.ned_set (fun _ z => nomatch z)⟩
  · rcases set_get? q with ⟨_, _, x⟩ | ⟨ne, q⟩
    · cases x
    · obtain ⟨u, h1, h2⟩ := E.fr j e q
      exact ⟨u, by rw [List.getElem?_set_ne (Ne.symm ne)]; exact h1, h2⟩
  · rcases set_get? q with ⟨_, _, x⟩ | ⟨ne, q⟩
    · cases x
    · obtain ⟨l, h1, h2⟩ := E.ow j e q
      exact ⟨l, by rw [List.getElem?_set_ne (Ne.symm ne)]; exact h1, h2⟩
  · rcases set_get? q with ⟨_, _, x⟩ | ⟨ne, q⟩
    · cases x
    · obtain ⟨h1, h2⟩ := E.ex j a dd fl q
      exact ⟨by rw [List.getElem?_set_ne (Ne.symm ne)]; exact h1, h2⟩
  · rcases set_get? q with ⟨_, _, x⟩ | ⟨ne, q⟩
    · cases x
    · rcases set_get? q' with ⟨_, _, x⟩ | ⟨ne', q'⟩
      · cases x
      · rw [List.getElem?_set_ne (Ne.symm ne)] at r
        rw [List.getElem?_set_ne (Ne.symm ne')] at r'
        exact E.dis j k e e' l q q' r r'
/-- a caught exception comes into slot i -/
theorem En.setE (E : En K G0 H0 G H σ ρ) {a dd : Addr} {fs : List (Str × V)} {fl : List (Str × D)} (i : Nat) (h : G dd = some (.xd fs)) (hf : DqF K G fs fl) : En K G0 H0 G H (σ.set i (some (.ref a))) (ρ.set i (Sl.ex a dd fl)) := by
  have X := E.setX i (some (.ref a))
  refine ⟨by rw [List.length_set, List.length_set, E.len], E.ext, fun j e q => ?_, fun j e q => ?_, fun j b db gl q => ?_, fun j k e e' l q q' r r' => ?_, E.ne_set (fun _ z => nomatch z) (fun _ z => nomatch z), E.ned_set (fun _ z => nomatch z)⟩
  · rcases set_get? q with ⟨_, _, x⟩ | ⟨ne, q⟩
    · cases x
    · exact X.fr j e (by rw [List.getElem?_set_ne (Ne.symm ne)]; exact q)
  · rcases set_get? q with ⟨_, _, x⟩ | ⟨ne, q⟩
    · cases x
    · exact X.ow j e (by rw [List.getElem?_set_ne (Ne.symm ne)]; exact q)
  · rcases set_get? q with ⟨rfl, hi, x⟩ | ⟨ne, q⟩
    · cases x
      exact ⟨by rw [List.getElem?_set_self (by rw [E.len]; exact hi)], fs, h, hf⟩
    · exact X.ex j b db gl (by rw [List.getElem?_set_ne (Ne.symm ne)]; exact q)
  · rcases set_get? q with ⟨_, _, x⟩ | ⟨ne, q⟩
    · cases x
    · rcases set_get? q' with ⟨_, _, x⟩ | ⟨ne', q'⟩
      · cases x
      · exact X.dis j k e e' l (by rw [List.getElem?_set_ne (Ne.symm ne)]; exact q) (by rw [List.getElem?_set_ne (Ne.symm ne')]; exact q') r r'
end
end DL
/-! DL2: what a reading evaluates to, by data (EV, EVN, ET, EA), what a statement does by data (ST), loops, comprehensions, calls. -/
namespace DL
open PySem L2
theorem En.re {K : PySem.W.Frag} {G0 H0 G H : Hp} {σ : St} {ρ : List Sl} (E : En K G0 H0 G H σ ρ) : En K G H0 G H σ ρ :=
  ⟨E.len, ⟨fun _ _ h => h, fun a o h => (E.ext.hh a o h).imp id (mkd.mono E.ext.gg), E.ext.gh, fun _ _ _ _ h => h⟩, E.fr, E.ow, E.ex, E.dis, E.ne, E.ned⟩
theorem Ext.back {G0 H0 G1 H1 G2 H2 : Hp} (x : Ext G0 H0 G1 H1) (y : Ext G1 H0 G2 H2) : Ext G0 H0 G2 H2 :=
  ⟨fun a o h => y.gg a o (x.gg a o h), fun a o h => (y.hh a o h).imp id (x.mark h), y.gh, fun a o h t n => y.own a o h t (x.own a o h t n)⟩
theorem En.back {K : PySem.W.Frag} {G0 H0 G1 H1 G H : Hp} {σ : St} {ρ : List Sl} (x : Ext G0 H0 G1 H1) (E : En K G1 H0 G H σ ρ) : En K G0 H0 G H σ ρ :=
  ⟨E.len, x.back E.ext, E.fr, E.ow, E.ex, E.dis, E.ne, E.ned⟩
section
variable (K : PySem.W.Frag)
def EV (te : TE) (ρ : List Sl) (d : D) : Prop := ∀ (G0 H0 G H : Hp) (σ : St) (Q : VK), En K G0 H0 G H σ ρ → (∀ v G' H', Ext G H G' H' → Dq K G' v d → Q v H') → te σ H Q
def EVN (te : TE) (ρ : List Sl) (d : D) : Prop := ∀ (G0 H0 G H : Hp) (σ : St) (Q : VK), En K G0 H0 G H σ ρ → (∀ l G' H', Ext G H G' H' → H l = none → G' l = none → OwnC K G' H' l d → Q (.ref l) H') → te σ H Q
def ET (tt : TT) (ρ : List Sl) (b : Bool) : Prop := ∀ (G0 H0 G H : Hp) (σ : St) (Q : Bool → Hp → Prop), En K G0 H0 G H σ ρ → (∀ G' H', Ext G H G' H' → Q b H') → tt σ H Q
def EA (ta : TA) (ρ : List Sl) (ds : List D) : Prop := ∀ (G0 H0 G H : Hp) (σ : St) (Q : List V → Hp → Prop), En K G0 H0 G H σ ρ → (∀ vs G' H', Ext G H G' H' → DqA K G' vs ds → Q vs H') → ta σ H Q
def EO (to : TO) (ρ : List Sl) (o : Option Int) : Prop := ∀ (G0 H0 G H : Hp) (σ : St) (Q : Option Int → Hp → Prop), En K G0 H0 G H σ ρ → (∀ G' H', Ext G H G' H' → Q o H') → to σ H Q
/-- a two-place operation on data; its answer an old or frozen thing | a new object -/
def OD (r : R2) (a b d : D) : Prop := ∀ (x y : V) (G H : Hp) (Q : VK), GH G H → Dq K G x a → Dq K G y b → (∀ v G' H', Ext G H G' H' → Dq K G' v d → Q v H') → r x y H Q
def ON (r : R2) (a b d : D) : Prop := ∀ (x y : V) (G H : Hp) (Q : VK), GH G H → Dq K G x a → Dq K G y b → (∀ l G' H', Ext G H G' H' → H l = none → G' l = none → OwnC K G' H' l d → Q (.ref l) H') → r x y H Q
/-- a call by values -/
def CD (r : List V → Hp → VK → Prop) (ds : List D) (d : D) : Prop := ∀ (xs : List V) (G H : Hp) (Q : VK), GH G H → DqA K G xs ds → (∀ v G' H', Ext G H G' H' → Dq K G' v d → Q v H') → r xs H Q
def CN (r : List V → Hp → VK → Prop) (ds : List D) (d : D) : Prop := ∀ (xs : List V) (G H : Hp) (Q : VK), GH G H → DqA K G xs ds → (∀ l G' H', Ext G H G' H' → H l = none → G' l = none → OwnC K G' H' l d → Q (.ref l) H') → r xs H Q
end
section
variable {K : PySem.W.Frag} {ρ : List Sl} {ta tb te : TE} {tt tu : TT} {d d1 d2 : D}
/-- a new object is frozen at once -/
theorem own_frz {G H G' H' : Hp} {l : Addr} (x : Ext G H G' H') (hH : H l = none) (hG : G' l = none) (h : OwnC K G' H' l d) : ∃ G'', Ext G H G'' H' ∧ Dq K G'' (.ref l) d := by
  obtain ⟨o, ho, ht, hm⟩ := h.there2
  have gg : ∀ a u, G' a = some u → upd G' l o a = some u := fun a u e => by rw [upd_ne (ne_of_none e hG)]; exact e
  refine ⟨upd G' l o, ⟨fun a u e => gg a u (x.gg a u e), x.hh, fun a u r => ?_, fun a u e t n => ?_⟩, h.dq (Sub.of gg) fun u hu => by rw [upd_same]; rw [ho] at hu; exact hu⟩
  · by_cases ha : a = l
    · subst ha
      rw [upd_same] at r
      cases r
      exact .of ho hm
    · rw [upd_ne ha] at r
      exact x.gh a u r
  · rw [upd_ne (ne_of_none e hH)]; exact x.own a u e t n
theorem ev_N (h : EVN K te ρ d) : EV K te ρ d := fun G0 H0 G H σ Q E q => h G0 H0 G H σ Q E fun l G' H' x hH hG ho => by
  obtain ⟨G'', x', hd⟩ := own_frz x hH hG ho
  exact q _ _ _ x' hd
theorem ev_var {i : Nat} (h : ρ[i]? = some (.fr d)) : EV K (tVar i) ρ d := fun G0 H0 G H σ Q E q => by
  obtain ⟨v, h1, h2⟩ := E.fr i d h
  exact ⟨v, h1, q v G H (.refl E.gh) h2⟩
theorem ev_int {i : Int} : EV K (tC (.int i)) ρ (.int i) := fun _ _ G H _ _ E q => q _ G H (.refl E.gh) (.int i)
theorem ev_str {x : Str} : EV K (tC (.str x)) ρ (.str x) := fun _ _ G H _ _ E q => q _ G H (.refl E.gh) (.str x)
theorem ev_bl {b : Bool} : EV K (tC (.bl b)) ρ (.bool b) := fun _ _ G H _ _ E q => q _ G H (.refl E.gh) (.bl b)
theorem ev_non : EV K (tC .non) ρ .none := fun _ _ G H _ _ E q => q _ G H (.refl E.gh) .non
/-- a constant of the module -/
theorem ev_glob {v : V} (h : ∀ G, Dq K G v d) : EV K (tC v) ρ d := fun _ _ G H _ _ E q => q _ G H (.refl E.gh) (h G)
theorem ev_op {r : R2} (ha : EV K ta ρ d1) (hb : EV K tb ρ d2) (ho : OD K r d1 d2 d) : EV K (tOp r ta tb) ρ d := fun G0 H0 G H σ Q E q =>
  ha G0 H0 G H σ _ E fun x G1 H1 e1 h1 => hb G0 H0 G1 H1 σ _ (E.go e1) fun y G2 H2 e2 h2 => ho x y G2 H2 Q e2.gh (h1.mono e2.g) h2 fun v G3 H3 e3 h3 => q v G3 H3 ((e1.trans e2).trans e3) h3
theorem en_op {r : R2} (ha : EV K ta ρ d1) (hb : EV K tb ρ d2) (ho : ON K r d1 d2 d) : EVN K (tOp r ta tb) ρ d := fun G0 H0 G H σ Q E q =>
  ha G0 H0 G H σ _ E fun x G1 H1 e1 h1 => hb G0 H0 G1 H1 σ _ (E.go e1) fun y G2 H2 e2 h2 => ho x y G2 H2 Q e2.gh (h1.mono e2.g) h2 fun l G3 H3 e3 hH hG h3 => by
    refine q l G3 H3 ((e1.trans e2).trans e3) ?_ hG h3
    exact e1.gone (e2.gone hH)
theorem ev_un {r : V → Hp → VK → Prop} (ha : EV K ta ρ d1) (ho : ∀ (x : V) (G H : Hp) (Q : VK), GH G H → Dq K G x d1 → (∀ v G' H', Ext G H G' H' → Dq K G' v d → Q v H') → r x H Q) : EV K (tUn r ta) ρ d := fun G0 H0 G H σ Q E q =>
  ha G0 H0 G H σ _ E fun x G1 H1 e1 h1 => ho x G1 H1 Q e1.gh h1 fun v G3 H3 e3 h3 => q v G3 H3 (e1.trans e3) h3
theorem ev_neg {i : Int} (ha : EV K ta ρ (.int i)) : EV K (tUn (rU fun i => .int (-i)) ta) ρ (.int (-i)) := ev_un ha fun x G H Q g hx q => by
  cases hx
  exact ⟨i, rfl, q _ G H (.refl g) (.int _)⟩
theorem ea_nil : EA K tNil ρ [] := fun _ _ G H _ _ E q => q [] G H (.refl E.gh) .nil
theorem ea_cons {tr : TA} {ds : List D} (h : EV K ta ρ d) (hr : EA K tr ρ ds) : EA K (tCons ta tr) ρ (d :: ds) := fun G0 H0 G H σ Q E q =>
  h G0 H0 G H σ _ E fun x G1 H1 e1 h1 => hr G0 H0 G1 H1 σ _ (E.go e1) fun xs G2 H2 e2 h2 => q _ G2 H2 (e1.trans e2) (.cons (h1.mono e2.g) h2)
theorem ev_cb {r : List V → Hp → VK → Prop} {t : TA} {ds : List D} (h : EA K t ρ ds) (hc : CD K r ds d) : EV K (tCB r t) ρ d := fun G0 H0 G H σ Q E q =>
  h G0 H0 G H σ _ E fun xs G1 H1 e1 h1 => hc xs G1 H1 Q e1.gh h1 fun v G2 H2 e2 h2 => q v G2 H2 (e1.trans e2) h2
theorem en_cb {r : List V → Hp → VK → Prop} {t : TA} {ds : List D} (h : EA K t ρ ds) (hc : CN K r ds d) : EVN K (tCB r t) ρ d := fun G0 H0 G H σ Q E q =>
  h G0 H0 G H σ _ E fun xs G1 H1 e1 h1 => hc xs G1 H1 Q e1.gh h1 fun l G2 H2 e2 hH hG h2 => by
    refine q l G2 H2 (e1.trans e2) ?_ hG h2
    exact e1.gone hH
theorem ev_tup {t : TA} {ds : List D} (h : EA K t ρ ds) (hl : ds.length ≤ sizeLine) : EV K (tTup t) ρ (.tuple ds) := fun G0 H0 G H σ Q E q =>
  h G0 H0 G H σ _ E fun xs G1 H1 e1 h1 => ⟨by rw [h1.length]; exact hl, fun p hp => by
    have x := Ext.new (o := .tup xs) e1.gh hp
    exact q _ _ _ (e1.trans x) (.tup (SqT.of upd_same) (h1.mono x.g))⟩
theorem en_lst {t : TA} {ds : List D} (h : EA K t ρ ds) (hl : ds.length ≤ sizeLine) : EVN K (tLst t) ρ (.list ds) := fun G0 H0 G H σ Q E q =>
  h G0 H0 G H σ _ E fun xs G1 H1 e1 h1 => ⟨by rw [h1.length]; exact hl, fun p hp => by
    have x := Ext.fresh (o := .lst xs) e1.gh hp
    refine q _ _ _ (e1.trans x) ?_ (e1.gh.none hp) (.lst upd_same h1)
    exact e1.gone hp⟩
/-! ### tests -/
theorem et_test {b : Bool} (h : EV K te ρ (.bool b)) : ET K (tTest te) ρ b := fun G0 H0 G H σ Q E q => h G0 H0 G H σ _ E fun v G1 H1 e1 h1 => by
  cases h1
  exact ⟨b, rfl, q G1 H1 e1⟩
theorem et_B {b : Bool} (h : EV K te ρ (.bool b)) : ET K (tB te) ρ b := fun G0 H0 G H σ Q E q => h G0 H0 G H σ _ E fun v G1 H1 e1 h1 => by
  cases h1
  exact ⟨b, rfl, q G1 H1 e1⟩
theorem et_not {b : Bool} (h : ET K tt ρ b) : ET K (tNot tt) ρ (!b) := fun G0 H0 G H σ Q E q => h G0 H0 G H σ _ E fun G1 H1 e1 => q G1 H1 e1
theorem et_and {a b : Bool} (h : ET K tt ρ a) (h2 : a = true → ET K tu ρ b) : ET K (tAnd tt tu) ρ (a && b) := fun G0 H0 G H σ Q E q => h G0 H0 G H σ _ E fun G1 H1 e1 => by
  cases a with
  | true => exact h2 rfl G0 H0 G1 H1 σ Q (E.go e1) fun G2 H2 e2 => q G2 H2 (e1.trans e2)
  | false => exact q G1 H1 e1
theorem et_or {a b : Bool} (h : ET K tt ρ a) (h2 : a = false → ET K tu ρ b) : ET K (tOr tt tu) ρ (a || b) := fun G0 H0 G H σ Q E q => h G0 H0 G H σ _ E fun G1 H1 e1 => by
  cases a with
  | false => exact h2 rfl G0 H0 G1 H1 σ Q (E.go e1) fun G2 H2 e2 => q G2 H2 (e1.trans e2)
  | true => exact q G1 H1 e1
theorem et_is {a b : Bool} (h : ET K tt ρ a) (e : a = b) : ET K tt ρ b := e ▸ h
theorem ev_is {e : D} (h : EV K te ρ d) (q : d = e) : EV K te ρ e := q ▸ h
theorem en_is {e : D} (h : EVN K te ρ d) (q : d = e) : EVN K te ρ e := q ▸ h
theorem ev_andV {a b : Bool} (h1 : EV K ta ρ (.bool a)) (h2 : a = true → EV K tb ρ (.bool b)) : EV K (tAndV ta tb) ρ (.bool (a && b)) := fun G0 H0 G H σ Q E q => h1 G0 H0 G H σ _ E fun v G1 H1 e1 z => by
  cases z
  refine ⟨a, rfl, ?_⟩
  cases a with
  | true => exact h2 rfl G0 H0 G1 H1 σ Q (E.go e1) fun v G2 H2 e2 => q v G2 H2 (e1.trans e2)
  | false => exact q _ G1 H1 e1 (.bl false)
theorem ev_orV {a b : Bool} (h1 : EV K ta ρ (.bool a)) (h2 : a = false → EV K tb ρ (.bool b)) : EV K (tOrV ta tb) ρ (.bool (a || b)) := fun G0 H0 G H σ Q E q => h1 G0 H0 G H σ _ E fun v G1 H1 e1 z => by
  cases z
  refine ⟨a, rfl, ?_⟩
  cases a with
  | false => exact h2 rfl G0 H0 G1 H1 σ Q (E.go e1) fun v G2 H2 e2 => q v G2 H2 (e1.trans e2)
  | true => exact q _ G1 H1 e1 (.bl true)
theorem ev_notV {a : Bool} (h1 : EV K ta ρ (.bool a)) : EV K (tNotV ta) ρ (.bool (!a)) := fun G0 H0 G H σ Q E q => h1 G0 H0 G H σ _ E fun v G1 H1 e1 z => by
  cases z
  exact ⟨a, rfl, q _ G1 H1 e1 (.bl _)⟩
theorem ev_if {b : Bool} (h : ET K tt ρ b) (h1 : b = true → EV K ta ρ d) (h2 : b = false → EV K tb ρ d) : EV K (tIf tt ta tb) ρ d := fun G0 H0 G H σ Q E q => h G0 H0 G H σ _ E fun G1 H1 e1 => by
  cases b with
  | true => exact h1 rfl G0 H0 G1 H1 σ Q (E.go e1) fun v G2 H2 e2 => q v G2 H2 (e1.trans e2)
  | false => exact h2 rfl G0 H0 G1 H1 σ Q (E.go e1) fun v G2 H2 e2 => q v G2 H2 (e1.trans e2)
/-- by cases, the answer told by the test -/
theorem ev_ite {b : Bool} (h : ET K tt ρ b) (h1 : b = true → EV K ta ρ d1) (h2 : b = false → EV K tb ρ d2) : EV K (tIf tt ta tb) ρ (if b = true then d1 else d2) := by
  cases b with
  | true => exact ev_if h (fun _ => h1 rfl) (fun z => nomatch z)
  | false => exact ev_if h (fun z => nomatch z) (fun _ => h2 rfl)
end
/-! ### statements -/
inductive Oc where
  | nx (ρ : List Sl)
  | rt (d : D)
  | bk (ρ : List Sl)
  | ct (ρ : List Sl)
  /-- an exception of the class at C leaves, with these fields -/
  | ex (C : Addr) (fl : List (Str × D))
/-- the ends keep P -/
structure Fin (K : PySem.W.Frag) (Ex : XK) (G0 H0 : Hp) (P : Oc → Prop) (D : Ends) : Prop where
  nx : ∀ ρ' σ' G' H', P (.nx ρ') → En K G0 H0 G' H' σ' ρ' → D.nx σ' H'
  rt : ∀ d v G' H', P (.rt d) → Ext G0 H0 G' H' → Dq K G' v d → D.rt v H'
  bk : ∀ ρ' σ' G' H', P (.bk ρ') → En K G0 H0 G' H' σ' ρ' → D.bk σ' H'
  ct : ∀ ρ' σ' G' H', P (.ct ρ') → En K G0 H0 G' H' σ' ρ' → D.ct σ' H'
  ex : ∀ C fl dd fs G' H', P (.ex C fl) → Ext G0 H0 G' H' → G' dd = some (.xd fs) → DqF K G' fs fl → Ex (.ref C) (some dd) H'
def ST (K : PySem.W.Frag) (Ex : XK) (ts : TS) (ρ : List Sl) (P : Oc → Prop) : Prop := ∀ (G0 H0 G H : Hp) (σ : St) (D : Ends), En K G0 H0 G H σ ρ → Fin K Ex G0 H0 P D → ts D σ H
section
variable {K : PySem.W.Frag} {Ex : XK} {ρ : List Sl} {ta tb te : TE} {tt tu : TT} {d d1 d2 : D} {t u : TS} {P P' : Oc → Prop}
theorem Fin.mono {G0 H0 : Hp} {D : Ends} (f : Fin K Ex G0 H0 P' D) (k : ∀ o, P o → P' o) : Fin K Ex G0 H0 P D :=
  ⟨fun _ _ _ _ p => f.nx _ _ _ _ (k _ p), fun _ _ _ _ p => f.rt _ _ _ _ (k _ p), fun _ _ _ _ p => f.bk _ _ _ _ (k _ p), fun _ _ _ _ p => f.ct _ _ _ _ (k _ p), fun _ _ _ _ _ _ p => f.ex _ _ _ _ _ _ (k _ p)⟩
theorem ST.mono (h : ST K Ex t ρ P) (k : ∀ o, P o → P' o) : ST K Ex t ρ P' := fun G0 H0 G H σ D E f => h G0 H0 G H σ D E (f.mono k)
def seqP (K : PySem.W.Frag) (Ex : XK) (u : TS) (P : Oc → Prop) : Oc → Prop
  | .nx ρ => ST K Ex u ρ P
  | o => P o
theorem st_seq (h : ST K Ex t ρ (seqP K Ex u P)) : ST K Ex (tSeq t u) ρ P := fun G0 H0 G H σ D E f =>
  h G0 H0 G H σ { D with nx := u D } E ⟨fun ρ' σ' G' H' p E' => p G0 H0 G' H' σ' D E' f, f.rt, f.bk, f.ct, f.ex⟩
theorem st_next (h : P (.nx ρ)) : ST K Ex tNext ρ P := fun G0 H0 G H σ D E f => f.nx ρ σ G H h E
theorem st_cont (h : P (.ct ρ)) : ST K Ex tCont ρ P := fun G0 H0 G H σ D E f => f.ct ρ σ G H h E
theorem st_asg {i : Nat} (h : EV K te ρ d) (q : P (.nx (ρ.set i (.fr d)))) : ST K Ex (tAsg te (gName i)) ρ P := fun G0 H0 G H σ D E f =>
  h G0 H0 G H σ _ E fun v G' H' x hd => f.nx _ _ G' H' q ((E.go x).setF i hd)
theorem st_asgN {i : Nat} (h : EVN K te ρ d) (q : P (.nx (ρ.set i (.ow d)))) : ST K Ex (tAsg te (gName i)) ρ P := fun G0 H0 G H σ D E f =>
  h G0 H0 G H σ _ E fun l G' H' x hH hG ho => f.nx _ _ G' H' q (E.setN i x hH hG ho)
theorem st_ret (h : EV K te ρ d) (q : P (.rt d)) : ST K Ex (tRet te) ρ P := fun G0 H0 G H σ D E f =>
  h G0 H0 G H σ _ E fun v G' H' x hd => f.rt d v G' H' q (E.go x).ext hd
theorem st_if {b : Bool} (h : ET K tt ρ b) (h1 : b = true → ST K Ex t ρ P) (h2 : b = false → ST K Ex u ρ P) : ST K Ex (tIfS tt t u) ρ P := fun G0 H0 G H σ D E f =>
  h G0 H0 G H σ _ E fun G' H' x => by
    cases b with
    | true => exact h1 rfl G0 H0 G' H' σ D (E.go x) f
    | false => exact h2 rfl G0 H0 G' H' σ D (E.go x) f
theorem st_yes (h : ET K tt ρ true) (h1 : ST K Ex t ρ P) : ST K Ex (tIfS tt t u) ρ P := st_if h (fun _ => h1) (fun z => nomatch z)
theorem st_no (h : ET K tt ρ false) (h1 : ST K Ex u ρ P) : ST K Ex (tIfS tt t u) ρ P := st_if h (fun z => nomatch z) (fun _ => h1)
/-- the owned list of slot i is frozen from here on -/
theorem st_frz {i : Nat} (hi : ρ[i]? = some (.ow d)) (h : ST K Ex t (ρ.set i (.fr d)) P) : ST K Ex t ρ P := fun G0 H0 G H σ D E f => by
  obtain ⟨G', E'⟩ := E.freeze hi
  exact h G0 H0 G' H σ D E' f
/-! ### targets -/
/-- the slots ts take what d is made of; ρ' behind it -/
def GT (K : PySem.W.Frag) (g : TG) (ρ : List Sl) (d : D) (ρ' : List Sl) (ts : List Nat) : Prop := ∀ (G0 H0 G H : Hp) (σ : St) (v : V) (Q : St → Hp → Prop), En K G0 H0 G H σ ρ → Dq K G v d →
  (∀ σ', En K G0 H0 G H σ' ρ' → σ'.length = σ.length → (∀ k, k ∉ ts → σ'[k]? = σ[k]?) → Q σ' H) → g v σ H Q
def GTs (K : PySem.W.Frag) (g : TGs) (ρ : List Sl) (ds : List D) (ρ' : List Sl) (ts : List Nat) : Prop := ∀ (G0 H0 G H : Hp) (σ : St) (vs : List V) (Q : St → Hp → Prop), En K G0 H0 G H σ ρ → DqA K G vs ds →
  (∀ σ', En K G0 H0 G H σ' ρ' → σ'.length = σ.length → (∀ k, k ∉ ts → σ'[k]? = σ[k]?) → Q σ' H) → g vs σ H Q
theorem gt_name {i : Nat} : GT K (gName i) ρ d (ρ.set i (.fr d)) [i] := fun G0 H0 G H σ v Q E hd q =>
  q _ (E.setF i hd) (by rw [List.length_set]) fun k hk => List.getElem?_set_ne (by simpa using fun e => hk (by simp [e]))
theorem gts_nil : GTs K gNil ρ [] ρ [] := fun G0 H0 G H σ vs Q E hd q => by
  cases hd
  exact ⟨rfl, q σ E rfl fun _ _ => rfl⟩
theorem gts_cons {g : TG} {gs : TGs} {ρ1 ρ2 : List Sl} {ds : List D} {ts us : List Nat} (h : GT K g ρ d ρ1 ts) (h2 : GTs K gs ρ1 ds ρ2 us) : GTs K (gCons g gs) ρ (d :: ds) ρ2 (ts ++ us) := fun G0 H0 G H σ vs Q E hd q => by
  cases hd with
  | cons a b => exact ⟨_, _, rfl, h G0 H0 G H σ _ _ E a fun σ1 E1 l1 k1 => h2 G0 H0 G H σ1 _ Q E1 b fun σ2 E2 l2 k2 => q σ2 E2 (l2.trans l1) fun k hk => (k2 k fun z => hk (List.mem_append_right _ z)).trans (k1 k fun z => hk (List.mem_append_left _ z))⟩
theorem gt_tup {gs : TGs} {ρ' : List Sl} {ds : List D} {ts : List Nat} {n : Nat} (hn : ds.length = n) (h : GTs K gs ρ ds ρ' ts) : GT K (gTup K n gs) ρ (.tuple ds) ρ' ts := fun G0 H0 G H σ v Q E hd q => by
  cases hd with
  | tup a b => exact ⟨_, _, rfl, E.gh.t a, b.length.trans hn, h G0 H0 G H σ _ Q E b q⟩
theorem st_asgG {g : TG} {ρ' : List Sl} {ts : List Nat} (h : EV K te ρ d) (hg : GT K g ρ d ρ' ts) (q : P (.nx ρ')) : ST K Ex (tAsg te g) ρ P := fun G0 H0 G H σ D E f =>
  h G0 H0 G H σ _ E fun v G' H' x hd => hg G0 H0 G' H' σ v _ (E.go x) hd fun σ' E' _ _ => f.nx _ _ G' H' q E'
/-! ### what is walked -/
def EI (K : PySem.W.Frag) (wi : TI) (ρ : List Sl) (n : Nat) (item : Nat → D) : Prop := ∀ (G0 H0 G H : Hp) (σ : St) (R : It → Hp → Prop), En K G0 H0 G H σ ρ →
  (∀ J G' H' Gd Y, Ext G H G' H' → Walk J n Gd Y → (∀ G2 H2, (∀ a o, G' a = some o → G2 a = some o) → GH G2 H2 → Gd H2) →
    (∀ i G2 H2 x H3, i < n → (∀ a o, G' a = some o → G2 a = some o) → GH G2 H2 → Y i H2 x H3 → ∃ G3, Ext G2 H2 G3 H3 ∧ Dq K G3 x (item i)) → R J H') → wi σ H R
/-- the ends of a loop's turn -/
def loopP (Q : List Sl → Prop) (P : Oc → Prop) : Oc → Prop
  | .nx ρ => Q ρ
  | .ct ρ => Q ρ
  | .bk ρ => P (.nx ρ)
  | .rt d => P (.rt d)
  | .ex C fl => P (.ex C fl)
theorem st_for {wi : TI} {g : TG} {n : Nat} {item : Nat → D} (hi : EI K wi ρ n item) (I : Nat → List Sl → Prop) (h0 : I 0 ρ)
    (hs : ∀ i ρ1, i < n → I i ρ1 → ∃ ρ2 ts, GT K g ρ1 (item i) ρ2 ts ∧ ST K Ex t ρ2 (loopP (I (i + 1)) P))
    (hd : ∀ ρ1, I n ρ1 → P (.nx ρ1)) : ST K Ex (tFor wi g t) ρ P := fun G0 H0 G H σ D E f =>
  hi G0 H0 G H σ _ E fun J G1 H1 Gd Y x w hG hY => by
    have E1 := E.go x
    refine for_it w (fun i σ' H' => ∃ G' ρ', En K G1 H0 G' H' σ' ρ' ∧ I i ρ') ⟨G1, ρ, E1.re, h0⟩ (fun i σ' H' _ ⟨G', ρ', E', _⟩ => hG G' H' E'.ext.gg E'.gh) (fun i y σ' H' H3 hi ⟨G', ρ', E', p⟩ hy => ?_) (fun σ' H' ⟨G', ρ', E', p⟩ => f.nx ρ' σ' G' H' (hd ρ' p) (E'.back E1.ext))
    obtain ⟨G3, x3, hdq⟩ := hY i G' H' y H3 hi E'.ext.gg E'.gh hy
    obtain ⟨ρ2, ts, hg, hb⟩ := hs i ρ' hi p
    exact hg G1 H0 G3 H3 σ' y _ (E'.go x3) hdq fun σ2 E2 _ _ => hb G1 H0 G3 H3 σ2 _ E2 ⟨fun ρ4 σ4 G4 H4 p4 E4 => ⟨G4, ρ4, E4, p4⟩,
      fun d v G4 H4 p4 x4 hd4 => f.rt d v G4 H4 p4 (E1.ext.back x4) hd4, fun ρ4 σ4 G4 H4 p4 E4 => f.nx ρ4 σ4 G4 H4 p4 (E4.back E1.ext), fun ρ4 σ4 G4 H4 p4 E4 => ⟨G4, ρ4, E4, p4⟩,
      fun C fl dd fs G4 H4 p4 x4 h1 h2 => f.ex C fl dd fs G4 H4 p4 (E1.ext.back x4) h1 h2⟩
end
end DL
/-! DL3: operators, comparisons, subscripts, built-ins, by data. -/
namespace DL
open PySem L2
/-! ### + -/
def rAddU (K : PySem.W.Frag) : R2 := fun x y H Q => rI0 (fun i j => .int (i + j)) x y H Q ∨ (fun x y H Q => (∃ i j, x = .str i ∧ y = .str j ∧ i.length + j.length ≤ sizeLine ∧ Q (.str (i ++ j)) H) ∨ (fun x y H Q => rCat x y H Q ∨ rCatA K x y H Q) x y H Q) x y H Q
theorem op_addU {X : Cx} : OpR X (binaryOp .Add) (rAddU X.K) := op_add.or (op_add_str.or (op_cat.or op_catA))
section
variable {K : PySem.W.Frag} {ρ : List Sl} {ta tb te : TE} {i j : Int}
theorem od_addI : OD K (rAddU K) (.int i) (.int j) (.int (i + j)) := fun x y G H Q g hx hy q => by
  cases hx; cases hy
  exact .inl ⟨i, j, rfl, rfl, q _ G H (.refl g) (.int _)⟩
theorem od_addS {a b : Str} (h : a.length + b.length ≤ sizeLine) : OD K (rAddU K) (.str a) (.str b) (.str (a ++ b)) := fun x y G H Q g hx hy q => by
  cases hx; cases hy
  exact .inr (.inl ⟨a, b, rfl, rfl, h, q _ G H (.refl g) (.str _)⟩)
theorem on_addL {a b : List D} (h : a.length + b.length ≤ sizeLine) : ON K (rAddU K) (.list a) (.list b) (.list (a ++ b)) := fun x y G H Q g hx hy q => by
  cases hx with
  | lst ha ra => cases hy with
    | lst hb rb =>
      refine .inr (.inr (.inl ⟨_, _, _, _, rfl, rfl, g.lst ha, g.lst hb, by rw [ra.length, rb.length]; exact h, fun p hp => ?_⟩))
      exact q p G _ (.fresh g hp) hp (g.none hp) (.lst upd_same (ra.append rb))
theorem od_addT {a b : List D} (h : a.length + b.length ≤ sizeLine) : OD K (rAddU K) (.tuple a) (.tuple b) (.tuple (a ++ b)) := fun x y G H Q g hx hy q => by
  cases hx with
  | tup ha ra => cases hy with
    | tup hb rb =>
      refine .inr (.inr (.inr ⟨_, _, _, _, rfl, rfl, g.t ha, g.t hb, by rw [ra.length, rb.length]; exact h, fun e => ?_, fun n e => ?_, fun n1 n2 p hp => ?_⟩))
      · subst e
        cases ra
        exact q _ G H (.refl g) (.tup hb rb)
      · subst e
        cases rb
        rw [List.append_nil] at q
        exact q _ G H (.refl g) (.tup ha ra)
      · have rr := ra.append rb
        exact q _ _ _ (Ext.new g hp) (.tup (SqT.of upd_same) (rr.mono (Ext.new g hp).g))
/-! ### -, *, //, %, ** -/
abbrev rSubU : R2 := rI0 fun i j => .int (i - j)
theorem od_sub : OD K rSubU (.int i) (.int j) (.int (i - j)) := fun x y G H Q g hx hy q => by
  cases hx; cases hy
  exact ⟨i, j, rfl, rfl, q _ G H (.refl g) (.int _)⟩
abbrev rModU : R2 := rI (fun _ j => 0 < j) fun i j => .int (i % j)
theorem od_mod (h : 0 < j) : OD K rModU (.int i) (.int j) (.int (i % j)) := fun x y G H Q g hx hy q => by
  cases hx; cases hy
  exact ⟨i, j, rfl, rfl, h, q _ G H (.refl g) (.int _)⟩
abbrev rDivU : R2 := rI CDiv fun i j => .int (i / j)
theorem od_div (h : 0 < j ∧ j < 1073741824) : OD K rDivU (.int i) (.int j) (.int (i / j)) := fun x y G H Q g hx hy q => by
  cases hx; cases hy
  exact ⟨i, j, rfl, rfl, h, q _ G H (.refl g) (.int _)⟩
abbrev rPowU : R2 := rI CPow fun i j => .int (i ^ j.toNat)
theorem od_pow (h : 0 ≤ j ∧ j ≤ 1000000 ∧ i.natAbs < 2 ^ 64) : OD K rPowU (.int i) (.int j) (.int (i ^ j.toNat)) := fun x y G H Q g hx hy q => by
  cases hx; cases hy
  exact ⟨i, j, rfl, rfl, h, q _ G H (.refl g) (.int _)⟩
/-- k times the text -/
def repS (z : Str) (k : Int) : Str := ⟨(List.replicate k.toNat z.cps.toList).flatten.toArray⟩
theorem foldl_reps (a : List Nat) : ∀ (m : Nat) (b : List Nat), List.foldl (fun x1 x2 => x1 ++ x2) b.toArray (List.replicate m a.toArray) = (b ++ (List.replicate m a).flatten).toArray
  | 0, b => by simp
  | m + 1, b => by
    rw [List.replicate_succ, List.foldl_cons]
    have e : b.toArray ++ a.toArray = (b ++ a).toArray := by simp
    rw [e, foldl_reps a m (b ++ a), List.replicate_succ, List.flatten_cons, List.append_assoc]
def rMulS : R2 := fun x y H Q => ∃ z k, x = .str z ∧ y = .int k ∧ -(2 ^ 63) ≤ k ∧ k < 2 ^ 63 ∧ z.length * k.toNat ≤ sizeLine ∧ Q (.str (repS z k)) H
theorem op_mulS {X : Cx} : OpR X (binaryOp .Mult) rMulS := by
  intro pins s σ H x y v u Q I rx ry h
  obtain ⟨z, k, rfl, rfl, h1, h2, h3, q⟩ := h
  obtain ⟨t, rfl⟩ := rx
  obtain ⟨t', rfl⟩ := ry
  have hs : (sizeLine : Nat) = 16777216 := sizeLine_eq
  refine PySem.P.mul_str ?_ ?_ ?_ ?_
  · rw [decide_eq_false (by omega), decide_eq_false (by omega)]; rfl
  · intro a b c
    have hk : 1 ≤ k := by omega
    have hz : z.length ≠ 0 := by
      intro e
      rw [e] at b
      simp at b
    have h4 : (z.length : Int) * k ≤ 16777216 := by
      have : ((z.length * k.toNat : Nat) : Int) ≤ 16777216 := by omega
      rw [Int.natCast_mul] at this
      have e : ((k.toNat : Nat) : Int) = k := by omega
      rw [e] at this
      exact this
    have h5 : (z.length : Int) ≤ (2 ^ 63 - 1) / k := by
      rw [Int.le_ediv_iff_mul_le (by omega)]
      omega
    omega
  · intro a b
    unfold PySem.Builtin.Str.tooLong
    rw [sizeLine_eq] at h3
    simp only [decide_eq_false_iff_not, gt_iff_lt, Nat.not_lt, sizeLine_eq]
    omega
  · by_cases a : k < 1
    · rw [if_pos a]
      have e : repS z k = Str.empty := by
        unfold repS
        have : k.toNat = 0 := by omega
        rw [this]
        rfl
      rw [e] at q
      exact ⟨by decide, .str _, H, I.tok _, ⟨_, rfl⟩, q⟩
    · rw [if_neg a]
      by_cases b : (k == 1 || z.length == 0) = true
      · rw [if_pos b]
        have e : repS z k = z := by
          unfold repS
          cases z with
          | mk cps =>
          rcases Bool.or_eq_true_iff.mp b with b | b
          · have : k.toNat = 1 := by
              have := eq_of_beq b
              omega
            rw [this]
            simp
          · have e : cps.size = 0 := eq_of_beq b
            have e2 : cps = #[] := Array.eq_empty_of_size_eq_zero e
            subst e2
            simp
        rw [e] at q
        exact ⟨.str z, H, I, ⟨_, rfl⟩, q⟩
      · rw [if_neg b]
        have e : repS z k = ⟨(List.replicate k.toNat z.cps).foldl (· ++ ·) #[]⟩ := by
          unfold repS
          congr 1
          have := foldl_reps z.cps.toList k.toNat []
          rw [List.nil_append] at this
          rw [← this]
        rw [e] at q
        refine ⟨?_, .str _, H, I.tok _, ⟨_, rfl⟩, q⟩
        have : (repS z k).length ≤ sizeLine := by
          unfold repS Str.length
          rw [List.size_toArray]
          have : ∀ m : Nat, ((List.replicate m z.cps.toList).flatten).length = m * z.cps.toList.length := fun m => by
            induction m with
            | zero => simp
            | succ m ih => rw [List.replicate_succ, List.flatten_cons, List.length_append, ih, Nat.succ_mul]; omega
          rw [this, Nat.mul_comm]
          exact h3
        rw [e] at this
        exact this
end
end DL
/-! DL4: *, comparisons, in, subscripts, slices, len, isinstance, join, index, int, iteration, comprehensions. -/
namespace DL
open PySem L2
def rMulU : R2 := fun x y H Q => rI CMul (fun i j => .int (i * j)) x y H Q ∨ (fun x y H Q => rMulS x y H Q ∨ rRep x y H Q) x y H Q
theorem op_mulU {X : Cx} : OpR X (binaryOp .Mult) rMulU := op_mul.or (op_mulS.or op_rep)
section
variable {K : PySem.W.Frag} {ρ : List Sl} {ta tb te : TE} {i j : Int} {d d1 d2 : D}
theorem od_mulI (h : CMul i j) : OD K rMulU (.int i) (.int j) (.int (i * j)) := fun x y G H Q g hx hy q => by
  cases hx; cases hy
  exact .inl ⟨i, j, rfl, rfl, h, q _ G H (.refl g) (.int _)⟩
theorem od_mulS {z : Str} (h1 : -(2 ^ 63) ≤ j) (h2 : j < 2 ^ 63) (h : z.length * j.toNat ≤ sizeLine) : OD K rMulU (.str z) (.int j) (.str (repS z j)) := fun x y G H Q g hx hy q => by
  cases hx; cases hy
  exact .inr (.inl ⟨z, j, rfl, rfl, h1, h2, h, q _ G H (.refl g) (.str _)⟩)
theorem DqA.rep {G : Hp} {vs : List V} {ds : List D} (h : DqA K G vs ds) : ∀ m : Nat, DqA K G (List.replicate m vs).flatten (List.replicate m ds).flatten
  | 0 => .nil
  | m + 1 => by
    rw [List.replicate_succ, List.replicate_succ, List.flatten_cons, List.flatten_cons]
    exact h.append (DqA.rep h m)
theorem on_mulL {ds : List D} (h1 : -(2 ^ 63) ≤ j) (h2 : j < 2 ^ 63) (h : ds.length * j.toNat ≤ sizeLine) : ON K rMulU (.list ds) (.int j) (.list (List.replicate j.toNat ds).flatten) := fun x y G H Q g hx hy q => by
  cases hy
  cases hx with
  | lst ha ra =>
    refine .inr (.inr ⟨_, _, _, rfl, rfl, g.lst ha, h1, h2, by rw [ra.length]; exact h, fun p hp => ?_⟩)
    exact q p G _ (.fresh g hp) hp (g.none hp) (.lst upd_same (ra.rep _))
/-! ### comparisons -/
def rCmpU (p : Int → Int → Bool) (s : List Nat → List Nat → Bool) : R2 := fun x y H Q => rI0 (fun i j => .bl (p i j)) x y H Q ∨ (∃ a b, x = .str a ∧ y = .str b ∧ Q (.bl (s a.cps.toList b.cps.toList)) H)
abbrev rLtU : R2 := rCmpU (fun i j => decide (i < j)) fun a b => decide (a < b)
abbrev rLeU : R2 := rCmpU (fun i j => decide (i ≤ j)) fun a b => !decide (b < a)
abbrev rGtU : R2 := rCmpU (fun i j => decide (j < i)) fun a b => decide (b < a)
abbrev rGeU : R2 := rCmpU (fun i j => decide (j ≤ i)) fun a b => !decide (a < b)
theorem op_ltU {X : Cx} : OpR X (compareOp .Lt) rLtU := op_lt.or op_lt_str
theorem op_leU {X : Cx} : OpR X (compareOp .LtE) rLeU := op_le.or op_le_str
theorem op_gtU {X : Cx} : OpR X (compareOp .Gt) rGtU := op_gt.or op_gt_str
theorem op_geU {X : Cx} : OpR X (compareOp .GtE) rGeU := op_ge.or op_ge_str
theorem od_cmpI {p : Int → Int → Bool} {s : List Nat → List Nat → Bool} : OD K (rCmpU p s) (.int i) (.int j) (.bool (p i j)) := fun x y G H Q g hx hy q => by
  cases hx; cases hy
  exact .inl ⟨i, j, rfl, rfl, q _ G H (.refl g) (.bl _)⟩
theorem od_cmpS {p : Int → Int → Bool} {s : List Nat → List Nat → Bool} {a b : Str} : OD K (rCmpU p s) (.str a) (.str b) (.bool (s a.cps.toList b.cps.toList)) := fun x y G H Q g hx hy q => by
  cases hx; cases hy
  exact .inr ⟨a, b, rfl, rfl, q _ G H (.refl g) (.bl _)⟩
/-! data without dicts, as the library's == reads it -/
mutual
theorem canLay_dp {K : PySem.W.Frag} {G H : Hp} (g : GH G H) : ∀ (d : D) (v : V), d.canLay0 = true → Dq K G v d → Dp K H v d
  | .none, _, _, h => by cases h; exact .non
  | .bool b, _, _, h => by cases h; exact .bl b
  | .int i, _, _, h => by cases h; exact .int i
  | .str s, _, _, h => by cases h; exact .str s
  | .list ds, _, c, h => by cases h with | lst a b => exact .lst (SqL.of (g.lst a)) (canLayA_dp g ds _ (by simpa only [PyData.canLay0] using c) b)
  | .tuple ds, _, c, h => by cases h with | tup a b => exact .tup (g.t a) (canLayA_dp g ds _ (by simpa only [PyData.canLay0] using c) b)
  | .dict kvs, _, c, h => by simp [PyData.canLay0] at c
theorem canLayA_dp {K : PySem.W.Frag} {G H : Hp} (g : GH G H) : ∀ (ds : List D) (vs : List V), PyData.canLayAll0 ds = true → DqA K G vs ds → DpAll K H vs ds
  | [], _, _, h => by cases h; exact .nil
  | d :: ds, _, c, h => by
    rw [PyData.canLayAll0, Bool.and_eq_true] at c
    cases h with
    | cons a b => exact .cons (canLay_dp g d _ c.1 a) (canLayA_dp g ds _ c.2 b)
end
def rEqU (K : PySem.W.Frag) : R2 := fun x y H Q => rEq x y H Q ∨ rEqD K x y H Q
def rNeU (K : PySem.W.Frag) : R2 := fun x y H Q => rNe x y H Q ∨ rNeD K x y H Q
theorem op_eqU {X : Cx} (hu : X.A.units + 64 < cLine) : OpR X (compareOp .Eq) (rEqU X.K) := op_eq.or (op_eqD hu)
theorem op_neU {X : Cx} (hu : X.A.units + 64 < cLine) : OpR X (compareOp .NotEq) (rNeU X.K) := op_ne.or (op_neD hu)
theorem od_eqI : OD K (rEqU K) (.int i) (.int j) (.bool (decide (i = j))) := fun x y G H Q g hx hy q => by
  cases hx; cases hy
  refine .inl ⟨rfl, ?_⟩
  have e : decide (V.int i = V.int j) = decide (i = j) := by simp
  rw [e]
  exact q _ G H (.refl g) (.bl _)
theorem od_eqS {a b : Str} : OD K (rEqU K) (.str a) (.str b) (.bool (decide (a = b))) := fun x y G H Q g hx hy q => by
  cases hx; cases hy
  refine .inl ⟨rfl, ?_⟩
  have e : decide (V.str a = V.str b) = decide (a = b) := by simp
  rw [e]
  exact q _ G H (.refl g) (.bl _)
theorem od_eqB {a b : Bool} : OD K (rEqU K) (.bool a) (.bool b) (.bool (decide (a = b))) := fun x y G H Q g hx hy q => by
  cases hx; cases hy
  refine .inl ⟨rfl, ?_⟩
  have e : decide (V.bl a = V.bl b) = decide (a = b) := by simp
  rw [e]
  exact q _ G H (.refl g) (.bl _)
theorem od_neI : OD K (rNeU K) (.int i) (.int j) (.bool (!decide (i = j))) := fun x y G H Q g hx hy q => by
  cases hx; cases hy
  refine .inl ⟨rfl, ?_⟩
  have e : decide (V.int i = V.int j) = decide (i = j) := by simp
  rw [e]
  exact q _ G H (.refl g) (.bl _)
theorem od_neS {a b : Str} : OD K (rNeU K) (.str a) (.str b) (.bool (!decide (a = b))) := fun x y G H Q g hx hy q => by
  cases hx; cases hy
  refine .inl ⟨rfl, ?_⟩
  have e : decide (V.str a = V.str b) = decide (a = b) := by simp
  rw [e]
  exact q _ G H (.refl g) (.bl _)
theorem od_neB {a b : Bool} : OD K (rNeU K) (.bool a) (.bool b) (.bool (!decide (a = b))) := fun x y G H Q g hx hy q => by
  cases hx; cases hy
  refine .inl ⟨rfl, ?_⟩
  have e : decide (V.bl a = V.bl b) = decide (a = b) := by simp
  rw [e]
  exact q _ G H (.refl g) (.bl _)
theorem od_neD {a b : D} (ha : SeqAt.shaped a = true) (hb : SeqAt.shaped b = true) : OD K (rNeU K) a b (.bool (!PyData.eqv a b)) := fun x y G H Q g hx hy q =>
  .inr ⟨a, b, canLay_dp g a x (SeqAt.canLay_of_shaped ha) hx, canLay_dp g b y (SeqAt.canLay_of_shaped hb) hy, ha, hb, q _ G H (.refl g) (.bl _)⟩
def isNoneD : D → Bool
  | .none => true
  | _ => false
theorem isNone_dq {G : Hp} {v : V} {d : D} (h : Dq K G v d) : decide (v = .non) = isNoneD d := by cases h <;> rfl
theorem ev_isN (h : EV K ta ρ d) : EV K (tIsN ta) ρ (.bool (isNoneD d)) := fun G0 H0 G H σ Q E q => h G0 H0 G H σ _ E fun v G1 H1 e1 h1 => by
  rw [isNone_dq h1]
  exact q _ G1 H1 e1 (.bl _)
theorem ev_notN (h : EV K ta ρ d) : EV K (tNotN ta) ρ (.bool (!isNoneD d)) := fun G0 H0 G H σ Q E q => h G0 H0 G H σ _ E fun v G1 H1 e1 h1 => by
  rw [isNone_dq h1]
  exact q _ G1 H1 e1 (.bl _)
theorem od_isB {a b : Bool} : OD K rIsB (.bool a) (.bool b) (.bool (decide (a = b))) := fun x y G H Q g hx hy q => by
  cases hx; cases hy
  exact ⟨a, b, rfl, rfl, q _ G H (.refl g) (.bl _)⟩
theorem od_notB {a b : Bool} : OD K rNotB (.bool a) (.bool b) (.bool (!decide (a = b))) := fun x y G H Q g hx hy q => by
  cases hx; cases hy
  exact ⟨a, b, rfl, rfl, q _ G H (.refl g) (.bl _)⟩
/-- a < b < c -/
theorem ev_chain {r r' : R2} {tc : TE} {d3 : D} {b1 b2 : Bool} (ha : EV K ta ρ d1) (hb : EV K tb ρ d2) (ho : OD K r d1 d2 (.bool b1)) (hc : b1 = true → EV K tc ρ d3) (ho' : b1 = true → OD K r' d2 d3 (.bool b2)) : EV K (tChain r r' ta tb tc) ρ (.bool (b1 && b2)) := fun G0 H0 G H σ Q E q =>
  ha G0 H0 G H σ _ E fun x G1 H1 e1 h1 => hb G0 H0 G1 H1 σ _ (E.go e1) fun y G2 H2 e2 h2 => ho x y G2 H2 _ e2.gh (h1.mono e2.g) h2 fun z G3 H3 e3 h3 => by
    cases h3
    refine ⟨b1, rfl, ?_⟩
    cases b1 with
    | false => exact q _ G3 H3 ((e1.trans e2).trans e3) (.bl false)
    | true => exact hc rfl G0 H0 G3 H3 σ _ (((E.go e1).go e2).go e3) fun w G4 H4 e4 h4 => ho' rfl y w G4 H4 Q e4.gh ((h2.mono e3.g).mono e4.g) h4 fun v G5 H5 e5 h5 => q v G5 H5 ((((e1.trans e2).trans e3).trans e4).trans e5) h5
/-! ### in -/
def flatD : D → Bool
  | .none | .bool _ | .int _ | .str _ => true
  | _ => false
def inD (d : D) (ds : List D) : Bool := ds.any fun e => PyData.eqv e d
theorem flat_dq {G : Hp} {v : V} {d : D} (h : Dq K G v d) (f : flatD d = true) : flatV v = true := by cases h <;> first | rfl | exact absurd f Bool.false_ne_true
theorem flatA_dq {G : Hp} : ∀ {ds : List D} {vs : List V}, DqA K G vs ds → ds.all flatD = true → vs.all flatV = true
  | [], _, h, _ => by cases h; rfl
  | d :: ds, _, h, f => by
    cases h with
    | cons a b =>
      rw [List.all_cons, Bool.and_eq_true] at f
      rw [List.all_cons, flat_dq a f.1, flatA_dq b f.2]
      rfl
theorem eq_dq {G : Hp} {v u : V} {d e : D} (h : Dq K G v d) (h' : Dq K G u e) (f : flatD d = true) (f' : flatD e = true) : eqV v u = PyData.eqv d e := by
  cases h <;> cases h' <;> first | rfl | exact absurd f Bool.false_ne_true | exact absurd f' Bool.false_ne_true | simp [eqV, PyData.eqv]
theorem in_dq {G : Hp} {v : V} {d : D} (h : Dq K G v d) (f : flatD d = true) : ∀ {ds : List D} {vs : List V}, DqA K G vs ds → ds.all flatD = true → inV v vs = inD d ds
  | [], _, h, _ => by cases h; rfl
  | e :: ds, _, h2, f2 => by
    cases h2 with
    | cons a b =>
      rw [List.all_cons, Bool.and_eq_true] at f2
      unfold inV inD
      rw [List.any_cons, List.any_cons, eq_dq a h f2.1 f]
      congr 1
      exact in_dq h f b f2.2
def rInU (K : PySem.W.Frag) : R2 := fun x y H Q => rIn K false x y H Q ∨ (fun x y H Q => (∃ (c : Nat) (z : Str), x = .str ⟨#[c]⟩ ∧ y = .str z ∧ Q (.bl (decide (c ∈ z.cps.toList))) H) ∨ (∃ i j, x = .str i ∧ y = .str j ∧ Q (.bl (!(Builtin.Str.occurrences j i 0 j.length 1).isEmpty)) H)) x y H Q
def rNinU (K : PySem.W.Frag) : R2 := fun x y H Q => rIn K true x y H Q ∨ (fun x y H Q => (∃ (c : Nat) (z : Str), x = .str ⟨#[c]⟩ ∧ y = .str z ∧ Q (.bl (!decide (c ∈ z.cps.toList))) H) ∨ (∃ i j, x = .str i ∧ y = .str j ∧ Q (.bl (!(!(Builtin.Str.occurrences j i 0 j.length 1).isEmpty))) H)) x y H Q
theorem op_inU {X : Cx} : OpR X (compareOp .In) (rInU X.K) := op_in_seq.or (op_in_sign.or op_in_str)
theorem op_ninU {X : Cx} : OpR X (compareOp .NotIn) (rNinU X.K) := op_notIn_seq.or (op_notIn_sign.or op_notin_str)
theorem od_inC {c : Nat} {z : Str} : OD K (rInU K) (.str ⟨#[c]⟩) (.str z) (.bool (decide (c ∈ z.cps.toList))) := fun x y G H Q g hx hy q => by
  cases hx; cases hy
  exact .inr (.inl ⟨c, z, rfl, rfl, q _ G H (.refl g) (.bl _)⟩)
theorem od_ninC {c : Nat} {z : Str} : OD K (rNinU K) (.str ⟨#[c]⟩) (.str z) (.bool (!decide (c ∈ z.cps.toList))) := fun x y G H Q g hx hy q => by
  cases hx; cases hy
  exact .inr (.inl ⟨c, z, rfl, rfl, q _ G H (.refl g) (.bl _)⟩)
theorem od_inT {ds : List D} (f : flatD d = true) (fs : ds.all flatD = true) : OD K (rInU K) d (.tuple ds) (.bool (inD d ds)) := fun x y G H Q g hx hy q => by
  cases hy with
  | tup a b => exact .inl ⟨_, _, rfl, .inr (g.t a), flat_dq hx f, flatA_dq b fs, by rw [in_dq hx f b fs]; exact q _ G H (.refl g) (.bl _)⟩
theorem od_ninT {ds : List D} (f : flatD d = true) (fs : ds.all flatD = true) : OD K (rNinU K) d (.tuple ds) (.bool (!inD d ds)) := fun x y G H Q g hx hy q => by
  cases hy with
  | tup a b => exact .inl ⟨_, _, rfl, .inr (g.t a), flat_dq hx f, flatA_dq b fs, by rw [in_dq hx f b fs]; exact q _ G H (.refl g) (.bl _)⟩
theorem od_inL {ds : List D} (f : flatD d = true) (fs : ds.all flatD = true) : OD K (rInU K) d (.list ds) (.bool (inD d ds)) := fun x y G H Q g hx hy q => by
  cases hy with
  | lst a b => exact .inl ⟨_, _, rfl, .inl (SqL.of (g.lst a)), flat_dq hx f, flatA_dq b fs, by rw [in_dq hx f b fs]; exact q _ G H (.refl g) (.bl _)⟩
theorem od_ninL {ds : List D} (f : flatD d = true) (fs : ds.all flatD = true) : OD K (rNinU K) d (.list ds) (.bool (!inD d ds)) := fun x y G H Q g hx hy q => by
  cases hy with
  | lst a b => exact .inl ⟨_, _, rfl, .inl (SqL.of (g.lst a)), flat_dq hx f, flatA_dq b fs, by rw [in_dq hx f b fs]; exact q _ G H (.refl g) (.bl _)⟩
/-! ### an owned list, looked at -/
theorem own_look {G0 H0 G H : Hp} {σ : St} {n : Nat} {ds : List D} (E : En K G0 H0 G H σ ρ) (hi : ρ[n]? = some (.ow (.list ds))) : ∃ l vs, σ[n]? = some (some (.ref l)) ∧ H l = some (.lst vs) ∧ DqA K G vs ds := by
  obtain ⟨l, h1, _, _, h4⟩ := E.ow n _ hi
  cases h4 with
  | lst a b => exact ⟨l, _, h1, a, b⟩
theorem own_lookG {G0 H0 G H : Hp} {σ : St} {n : Nat} {ds : List D} (E : En K G0 H0 G H σ ρ) (hi : ρ[n]? = some (.ow (.list ds))) : ∃ l vs, σ[n]? = some (some (.ref l)) ∧ H l = some (.lst vs) ∧ DqA K G vs ds ∧ G l = none := by
  obtain ⟨l, h1, _, h0, h4⟩ := E.ow n _ hi
  cases h4 with
  | lst a b => exact ⟨l, _, h1, a, b, h0⟩
theorem ev_inO {n : Nat} {ds : List D} (ha : EV K ta ρ d) (hi : ρ[n]? = some (.ow (.list ds))) (f : flatD d = true) (fs : ds.all flatD = true) : EV K (tOp (rInU K) ta (tVar n)) ρ (.bool (inD d ds)) := fun G0 H0 G H σ Q E q =>
  ha G0 H0 G H σ _ E fun x G1 H1 e1 hx => by
    obtain ⟨l, vs, h1, h2, h3⟩ := own_look (E.go e1) hi
    exact ⟨_, h1, .inl ⟨_, _, rfl, .inl (SqL.of h2), flat_dq hx f, flatA_dq h3 fs, by rw [in_dq hx f h3 fs]; exact q _ G1 H1 e1 (.bl _)⟩⟩
theorem ev_ninO {n : Nat} {ds : List D} (ha : EV K ta ρ d) (hi : ρ[n]? = some (.ow (.list ds))) (f : flatD d = true) (fs : ds.all flatD = true) : EV K (tOp (rNinU K) ta (tVar n)) ρ (.bool (!inD d ds)) := fun G0 H0 G H σ Q E q =>
  ha G0 H0 G H σ _ E fun x G1 H1 e1 hx => by
    obtain ⟨l, vs, h1, h2, h3⟩ := own_look (E.go e1) hi
    exact ⟨_, h1, .inl ⟨_, _, rfl, .inl (SqL.of h2), flat_dq hx f, flatA_dq h3 fs, by rw [in_dq hx f h3 fs]; exact q _ G1 H1 e1 (.bl _)⟩⟩
theorem atI_dq {G : Hp} {vs : List V} {ds : List D} (h : DqA K G vs ds) {i : Int} {d : D} (e : atI ds i = some d) : ∃ v, atI vs i = some v ∧ Dq K G v d := by
  unfold atI at e ⊢
  rw [h.length]
  cases q : ixN ds.length i with
  | none => rw [q] at e; cases e
  | some k =>
    rw [q] at e
    obtain ⟨v, h1, h2⟩ := h.get (i := k) (d := d) e
    exact ⟨v, h1, h2⟩
theorem od_ixL {ds : List D} (e : atI ds i = some d) : OD K (rIx K) (.list ds) (.int i) d := fun x y G H Q g hx hy q => by
  cases hy
  cases hx with
  | lst a b =>
    obtain ⟨v, h1, h2⟩ := atI_dq b e
    exact .inl ⟨_, _, i, v, rfl, rfl, SqL.of (g.lst a), h1, q v G H (.refl g) h2⟩
theorem od_ixT {ds : List D} (e : atI ds i = some d) : OD K (rIx K) (.tuple ds) (.int i) d := fun x y G H Q g hx hy q => by
  cases hy
  cases hx with
  | tup a b =>
    obtain ⟨v, h1, h2⟩ := atI_dq b e
    exact .inr (.inl ⟨_, _, i, v, rfl, rfl, g.t a, h1, q v G H (.refl g) h2⟩)
theorem od_ixS {z : Str} {c : Nat} (hz : z.length ≤ sizeLine) (e : atI z.cps.toList i = some c) : OD K (rIx K) (.str z) (.int i) (.str ⟨#[c]⟩) := fun x y G H Q g hx hy q => by
  cases hy
  cases hx
  exact .inr (.inr ⟨z, i, c, rfl, rfl, hz, e, q _ G H (.refl g) (.str _)⟩)
theorem ev_ixO {n : Nat} {ds : List D} (hi : ρ[n]? = some (.ow (.list ds))) (hb : EV K tb ρ (.int i)) (e : atI ds i = some d) : EV K (tOp (rIx K) (tVar n) tb) ρ d := fun G0 H0 G H σ Q E q => by
  obtain ⟨l, vs, h1, h2, h3, h0⟩ := own_lookG E hi
  refine ⟨_, h1, hb G0 H0 G H σ _ E fun y G1 H1 e1 hy => ?_⟩
  cases hy
  obtain ⟨v, a1, a2⟩ := atI_dq h3 e
  exact .inl ⟨_, _, i, v, rfl, rfl, SqL.of (e1.at h0 h2), a1, q v G1 H1 e1 (a2.mono e1.g)⟩
/-! ### slices -/
theorem eo_none : EO K tNoPart ρ none := fun _ _ G H _ _ E q => q G H (.refl E.gh)
theorem eo_some (h : EV K te ρ (.int i)) : EO K (tPart te) ρ (some i) := fun G0 H0 G H σ Q E q => h G0 H0 G H σ _ E fun v G1 H1 e1 h1 => by
  cases h1
  exact ⟨i, rfl, q G1 H1 e1⟩
def rSlU (K : PySem.W.Frag) : V → Option Int → Option Int → Hp → VK → Prop := fun x lo hi H Q => rSlL K x lo hi H Q ∨ (fun x lo hi H Q => rSlA K x lo hi H Q ∨ rSlS x lo hi H Q) x lo hi H Q
theorem sl_U {X : Cx} : SlR X (rSlU X.K) := sl_list.or (sl_tupA.or sl_str)
def cutDs (ds : List D) (lo hi : Option Int) : List D := (ds.drop (HT.sIx ds.length 0 lo)).take (HT.sIx ds.length ds.length hi - HT.sIx ds.length 0 lo)
theorem cut_dq {G : Hp} {vs : List V} {ds : List D} (h : DqA K G vs ds) (lo hi : Option Int) : DqA K G (cutV vs lo hi) (cutDs ds lo hi) := by
  unfold cutV cutDs
  rw [h.length]
  exact (h.drop _).take _
theorem sl_step {r : V → Option Int → Option Int → Hp → VK → Prop} {tl th : TO} {lo hi : Option Int} {G0 H0 G H : Hp} {σ : St} {Q : VK} (E : En K G0 H0 G H σ ρ) (h : EV K te ρ d) (hl : EO K tl ρ lo) (hh : EO K th ρ hi)
    (q : ∀ x G' H', Ext G H G' H' → Dq K G' x d → r x lo hi H' Q) : tSl r te tl th σ H Q :=
  h G0 H0 G H σ _ E fun x G1 H1 e1 h1 => hl G0 H0 G1 H1 σ _ (E.go e1) fun G2 H2 e2 => hh G0 H0 G2 H2 σ _ ((E.go e1).go e2) fun G3 H3 e3 => q x G3 H3 ((e1.trans e2).trans e3) ((h1.mono e2.g).mono e3.g)
theorem en_slL {tl th : TO} {lo hi : Option Int} {ds : List D} (h : EV K te ρ (.list ds)) (hl : EO K tl ρ lo) (hh : EO K th ρ hi) : EVN K (tSl (rSlU K) te tl th) ρ (.list (cutDs ds lo hi)) := fun G0 H0 G H σ Q E q =>
  sl_step E h hl hh fun x G' H' e hx => by
    cases hx with
    | lst a b =>
      refine .inl ⟨_, _, rfl, SqL.of (e.gh.lst a), fun p hp => ?_⟩
      refine q p G' _ (e.trans (.fresh e.gh hp)) ?_ (e.gh.none hp) (.lst upd_same (cut_dq b lo hi))
      exact e.gone hp
/-- a slice of the script -/
theorem en_slScr {tl th : TO} {lo hi : Option Int} {ns : List Int} (h : EV K te ρ (.dict [(.none, .list (ns.map PyData.int))])) (hl : EO K tl ρ lo) (hh : EO K th ρ hi) : EVN K (tSl (rSlU K) te tl th) ρ (.list (cutDs (ns.map PyData.int) lo hi)) := fun G0 H0 G H σ Q E q =>
  sl_step E h hl hh fun x G' H' e hx => by
    generalize hk : [((PyData.none : D), (PyData.list (ns.map PyData.int) : D))] = kvs at hx
    cases hx with
    | dK a b => cases b with
      | nil => cases hk
      | @cons k => cases k <;> cases hk
    | dT a b => cases hk
    | sta _ _ => cases hk
    | opq _ => cases hk
    | raw _ => cases hk
    | @scr a ms sq =>
      have e2 : ms.map PyData.int = ns.map PyData.int := by
        injection hk with h1 h2
        injection h1 with h1 h2
        injection h2 with h2
        exact h2.symm
      have e3 : DqA K G' (ms.map V.int) (ns.map PyData.int) := by
        rw [← e2]
        clear hk e2 sq
        induction ms with
        | nil => exact .nil
        | cons m ms ih => exact .cons (.int m) ih
      refine .inl ⟨_, _, rfl, e.gh.l sq, fun p hp => ?_⟩
      refine q p G' _ (e.trans (.fresh e.gh hp)) ?_ (e.gh.none hp) (.lst upd_same (cut_dq e3 lo hi))
      exact e.gone hp
theorem ev_slS {tl th : TO} {lo hi : Option Int} {z : Str} (h : EV K te ρ (.str z)) (hz : z.length ≤ sizeLine) (hl : EO K tl ρ lo) (hh : EO K th ρ hi) : EV K (tSl (rSlU K) te tl th) ρ (.str (cutS z lo hi)) := fun G0 H0 G H σ Q E q =>
  sl_step E h hl hh fun x G' H' e hx => by
    cases hx
    exact .inr (.inr ⟨z, rfl, hz, q _ G' H' e (.str _)⟩)
theorem ev_slT {tl th : TO} {lo hi : Option Int} {ds : List D} (h : EV K te ρ (.tuple ds)) (hl : EO K tl ρ lo) (hh : EO K th ρ hi) : EV K (tSl (rSlU K) te tl th) ρ (.tuple (cutDs ds lo hi)) := fun G0 H0 G H σ Q E q =>
  sl_step E h hl hh fun x G' H' e hx => by
    cases hx with
    | tup a b =>
      refine .inr (.inl ⟨_, _, rfl, e.gh.t a, fun w => ?_, fun _ p hp => ?_⟩)
      · have z : cutDs ds lo hi = ds := by
          unfold cutDs
          rw [← b.length, w.1, w.2, List.drop_zero, Nat.sub_zero, b.length, List.take_length]
        rw [z] at q
        exact q _ G' H' e (.tup a b)
      · have rr := cut_dq b lo hi
        exact q _ _ _ (e.trans (.new e.gh hp)) (.tup (SqT.of upd_same) (rr.mono (Ext.new e.gh hp).g))
end
end DL
set_option maxHeartbeats 1000000
/-! DL5: enumerate over a tuple, a text; iteration of any sequence. -/
namespace DL
open PySem L2 PySem.Spec PyProof.Rows
theorem meets_enumerate_newB1 {v : Value} {o : Obj} {H : Heap → Prop} (B : Begins v o H) :
    Meets (Builtin.«enumerate.__new__» ⟨[.type "enumerate", v], []⟩) (fun _ R s => H s.heap ∧
      R (.ok (.ret (.ref (s.heap.push o).objs.size))) { s with heap := (s.heap.push o).push { cls := .type "enumerate", data := .fields #[.none, .bool false, .ref s.heap.objs.size, rawInt 0, .none, .none] } }) :=
  .of_wp fun prog w A R s h => by
    obtain ⟨hp, g, d, tk, os⟩ := s; obtain ⟨h1, h⟩ := h
    have hsub := sub_enumerate
    have q1 : ∀ {A' : Around} {E : Value → Shared → Prop} {Q : Value → Shared → Prop}, Q (.ref hp.objs.size) ⟨hp.push o, g, d, tk, os⟩ → wpAny (model prog w) A' (pyIter v) Q E ⟨hp, g, d, tk, os⟩ :=
      fun q => B.iter prog w _ _ ⟨hp, g, d, tk, os⟩ _ h1 q
    wp_walk using q1
    refine wpAny_stack_any fun st => wpAny_pure ?_
    split
    · rename_i c _ _ _ _ _
      cases (c == Value.type "enumerate")
      · wp_walk using q1
        exact ⟨_, rfl, h⟩
      · wp_walk using q1
        exact ⟨_, rfl, h⟩
    · wp_walk using q1
      exact ⟨_, rfl, h⟩
section
variable {prog : Program} {w : World} {A : Around} {E : Value → Shared → Prop} {s : Shared}
theorem enum_begins1 {v : Value} {o : Obj} {H : Heap → Prop} {Q : Value → Shared → Prop} (B : Begins v o H) (h1 : H s.heap)
    (h : ∀ h', IsEnum h' (s.heap.objs.size + 1) s.heap.objs.size 0 .none → h'.get? s.heap.objs.size = some o → h'.objs.size = s.heap.objs.size + 2 →
      (∀ b o, s.heap.get? b = some o → h'.get? b = some o) → Q (.ref (s.heap.objs.size + 1)) { s with heap := h' }) :
    wpAny (model prog w) A (call (.type "enumerate") [v]) Q E s := by
  refine callType_new F.called_enumerate (by decide) (F.typeCall_enumerate_1 _) (F.newCall_enumerate_1 _) (fun obj => F.args_object_init_2 obj _) F.entry_enumerate_new
    (meets_enumerate_newB1 B) ⟨h1, ?_⟩
  have hz : (s.heap.push o).objs.size = s.heap.objs.size + 1 := Heap.size_push ..
  show _ ∧ _
  rw [hz]
  have he : IsEnum ((s.heap.push o).push { cls := .type "enumerate", data := .fields #[.none, .bool false, .ref s.heap.objs.size, rawInt 0, .none, .none] }) (s.heap.objs.size + 1) s.heap.objs.size 0 .none := by
    have := Heap.get?_push_size (s.heap.push o) (o := { cls := .type "enumerate", data := .fields #[.none, .bool false, .ref s.heap.objs.size, rawInt 0, .none, .none] }) rfl
    rw [hz] at this; exact this
  refine ⟨⟨_, he, rfl⟩, h _ he (Heap.get?_push_of_some _ (Heap.get?_push_size _ B.free)) (by rw [Heap.size_push, hz]) fun b o x => Heap.get?_push_of_some _ (Heap.get?_push_of_some _ x)⟩
end
/-- one turn of enumerate, told by what its iterator draws -/
theorem enum_item {X : Cx} {pins : List (Addr × Obj)} {σ : L2.St} {H : Hp} {s : Shared} {E : Value → Shared → Prop} {e it : Addr} {fp : List Addr} {n i : Nat} {Pv : Nat → Value → Prop} {Sv : Nat → Heap → Prop} {old : Value} {C : V → Prop} {elts : List Expr} {kk : Nat} {tpos : Pos}
    (I : Inv X pins σ H s) (hf : ∀ b ∈ [e, it], FpOk X pins H b) (D : Draws X.prog X.w X.A.in1 it fp n Pv Sv) (he : IsEnum s.heap e it ((i : Nat) : Int) old) (hst : Sv i s.heap) (hlt : i < n) (hne : e ≠ it) (hef : e ∉ fp) (hc : ∀ u, Pv i u → ∃ x, RelV x u ∧ C x) :
    wpAny (model X.prog X.w) X.A (pyNext (.ref e)) (fun r s1 => ∃ u, r = some u ∧
      wpAny (model X.prog X.w) X.A (letOwnedTupleGo (.Tuple elts kk tpos) (.ref e) u) (fun _ s2 => ∃ T x, u = .ref T ∧ Inv X pins σ (upd H T (.tup [.int (i : Nat), x])) s2 ∧ H T = none ∧ C x ∧ (∃ old, IsEnum s2.heap e it (((i + 1 : Nat)) : Int) old) ∧ Sv (i + 1) s2.heap ∧
        ∀ b ∈ [e, it], upd H T (.tup [.int (i : Nat), x]) b = none) E s1) E s := by
  have hel : e < s.heap.objs.size := Heap.lt_size he
  have hil : it < s.heap.objs.size := by obtain ⟨o, q⟩ := D.live i _ hst; exact Heap.lt_size q
  refine wpAny_pyNext_enum_itemD D he hst hlt hne hef fun u h' tk hP ho hst' hT hsz hk => ?_
  obtain ⟨x, ru, hx⟩ := hc u hP
  refine ⟨_, rfl, wpAny_letOwnedTupleGo_enum (s := { s with heap := h', toks := tk + 1 }) ho fun h'' he' sb => ?_⟩
  have hT2 : h''.get? s.heap.objs.size = some { cls := .type "tuple", data := .seq #[.int i tk, u] } := (sb.2 _ (Nat.ne_of_gt hel)).trans hT
  have new : ObjOk X.prog X.w (upd H s.heap.objs.size (.tup [.int (i : Nat), x])) h'' s.heap.objs.size (.tup [.int (i : Nat), x]) :=
    ⟨by show 2 ≤ sizeLine; decide, [.int i tk, u], .cons ⟨_, rfl⟩ (.cons ru .nil), ⟨_, hT2, rfl, _, rfl⟩⟩
  have I1 : Inv X pins σ (upd H s.heap.objs.size (.tup [.int (i : Nat), x])) { s with heap := h'', toks := tk + 1 } :=
    I.turnedNew (ch := [e, it]) (fun b ob hb q => (sb.2 b (fun z => hb (by simp [z]))).trans (hk b ob (fun z => hb (by simp [z])) (fun z => hb (by simp [z])) q)) hf (Nat.le_refl _) new
  refine ⟨s.heap.objs.size, x, rfl, I1, I.hok.fresh (Nat.le_refl _), hx, ⟨u, ?_⟩, D.frame _ _ _ hst' (fun b hb o q => (sb.2 b (fun z => hef (z ▸ hb))).trans q), fun b hb => ?_⟩
  · have e1 : ((i + 1 : Nat) : Int) = (i : Int) + 1 := by omega
    rw [e1]; exact he'
  · have hb' : b < s.heap.objs.size := by
      have e' : b = e ∨ b = it := by simpa using hb
      rcases e' with z | z
      · rw [z]; exact hel
      · rw [z]; exact hil
    rw [upd_ne (Nat.ne_of_lt hb')]
    exact (hf b hb).1
def IteT (K : PySem.W.Frag) (a : Addr) : It :=
  ⟨fun i H => ∃ (xs : List V) (x : V), SqT K H a xs ∧ xs[i]? = some x, fun i H v H' => ∃ T x, v = .ref T ∧ H T = none ∧ H' = upd H T (.tup [.int (i : Nat), x]) ∧ ∀ xs, SqT K H a xs → xs[i]? = some x, fun i H => ∃ xs : List V, SqT K H a xs ∧ xs.length ≤ i⟩
def IteS (z : Str) : It :=
  ⟨fun i _ => i < z.cps.size, fun i H v H' => ∃ T c, v = .ref T ∧ H T = none ∧ H' = upd H T (.tup [.int (i : Nat), .str ⟨#[c]⟩]) ∧ z.cps[i]? = some c, fun i _ => z.cps.size ≤ i⟩
theorem enum_ne_tup {h : Heap} {e it a : Addr} {i : Int} {old : Value} {its : Array Value} (he : IsEnum h e it i old) (ht : IsTup h a its) : e ≠ a := by
  rintro rfl
  obtain ⟨o, ho, hc, _⟩ := ht
  have q : h.get? e = some _ := he
  rw [q] at ho
  cases ho
  have z : Value.type "enumerate" = Value.type "tuple" := hc
  injection z with z
  exact absurd z (by decide)
theorem turn_enumT {P : Program} {w : World} {K : PySem.W.Frag} {elts : List Expr} {kk : Nat} {tpos : Pos} (a e it : Addr) :
    Turn P w K (.Tuple elts kk tpos) (IteT K a) [e, it] e (fun i h => (∃ old, IsEnum h e it ((i : Nat) : Int) old) ∧ h.IsTupleIter it a i ∧ e ≠ it) where
  mem := by simp
  obj := fun i h st b hb => by
    obtain ⟨⟨old, he⟩, ⟨o, ho, hc, hd⟩, _⟩ := st
    have e' : b = e ∨ b = it := by simpa using hb
    rcases e' with z | z
    · rw [z]; exact ⟨_, he, fun v q => nomatch q⟩
    · rw [z]; exact ⟨o, ho, fun v q => by rw [hd] at q; cases q⟩
  keep := fun i h h' st k => let ⟨⟨old, he⟩, hi, hne⟩ := st; ⟨⟨old, k e (by simp) _ he⟩, hi.at fun o q => k it (by simp) o q, hne⟩
  item := by
    intro X hP hw hK hc i pins s σ H E I hf st hg
    subst hP hw hK
    obtain ⟨⟨old, he⟩, hit, hne⟩ := st
    obtain ⟨xs, x, hq, hx⟩ := hg
    obtain ⟨its, rv, p, hz⟩ := I.tuple hq
    obtain ⟨u, hu, ru⟩ := rv.get hx
    have hi : i < its.toArray.size := by
      rw [List.size_toArray]
      exact (List.getElem?_eq_some_iff.mp hu).1
    have hta : a ≠ it := by
      rintro rfl
      obtain ⟨o, ho, hc', _⟩ := id p
      obtain ⟨o2, ho2, hc2, _⟩ := id hit
      rw [ho] at ho2; cases ho2
      rw [hc'] at hc2
      injection hc2 with z
      exact absurd z (by decide)
    refine thn (enum_item (C := fun y => y = x) I hf (Draws.tuple (A := X.A.in1) (show X.A.in1.handled = none from I.ok.hd hc) it a hta its.toArray) he ⟨hit, p⟩ hi hne (by simpa using ⟨hne, enum_ne_tup he p⟩) fun u' q => ?_) fun r s1 ⟨v, er, h2⟩ => ⟨v, er, thn h2 fun _ s2 ⟨T, y, ev, I1, hT, ey, he2, hs2, hb⟩ => ?_⟩
    · rw [show its.toArray[i]? = some u from by simpa using hu] at q
      cases q
      exact ⟨x, ru, rfl⟩
    · subst ey
      subst ev
      exact ⟨.ref T, _, I1, rfl, ⟨T, y, rfl, hT, rfl, fun ys hy => by rw [I.tuple_inj hy hq]; exact hx⟩, ⟨he2, hs2.1, hne⟩, hb⟩
  done := by
    intro X hP hw hK hc i pins s σ H E I hf st hg
    subst hP hw hK
    obtain ⟨⟨old, he⟩, hit, hne⟩ := st
    obtain ⟨xs, hq, hx⟩ := hg
    obtain ⟨its, rv, p, hz⟩ := I.tuple hq
    obtain ⟨f0, f1, f2, f3, f4, f5⟩ := hf it (by simp)
    have hl := rv.length
    have hta : a ≠ it := by
      rintro rfl
      obtain ⟨o, ho, hc', _⟩ := id p
      obtain ⟨o2, ho2, hc2, _⟩ := id hit
      rw [ho] at ho2; cases ho2
      rw [hc'] at hc2
      injection hc2 with z
      exact absurd z (by decide)
    by_cases hi : i = its.toArray.size
    · subst hi
      exact wpAny_pyNext_enum_endD (Draws.tuple (A := X.A.in1) (show X.A.in1.handled = none from I.ok.hd hc) it a hta its.toArray) he ⟨hit, p⟩ fun h' eb => ⟨rfl, I.turned (t' := s.toks) (fun b o hb q => eb b o hb q) f0 f1 f3 f4 f5⟩
    · have D : Draws X.prog X.w X.A.in1 it [it, a] i (fun _ _ => True) (fun j h => h.IsTupleIter it a j ∧ h.IsTuple a its.toArray ∧ its.toArray.size ≤ j ∧ j = i) := {
        live := fun _ _ st => let ⟨o, ho, _⟩ := st.1; ⟨o, ho⟩
        frame := fun _ _ _ st hk => ⟨st.1.at fun o e => hk it (by simp) o e, st.2.1.at fun o e => hk a (by simp) o e, st.2.2⟩
        item := fun j s Q E hj st hQ => by have := st.2.2.2; omega
        done := fun s Q E st hE => wpAny_nextOf_tuple_end (show X.A.in1.handled = none from I.ok.hd hc) st.1 st.2.1 (by simpa using st.2.2.1) hE }
      exact wpAny_pyNext_enum_endD D he ⟨hit, p, by rw [List.size_toArray]; omega, rfl⟩ fun h' eb => ⟨rfl, I.turned (t' := s.toks) (fun b o hb q => eb b o hb q) f0 f1 f3 f4 f5⟩
  self := fun A i s Q E st h => let ⟨⟨_, he⟩, _⟩ := st; wpAny_pyIter_enum he h
theorem turn_enumS {P : Program} {w : World} {K : PySem.W.Frag} {elts : List Expr} {kk : Nat} {tpos : Pos} (z : Str) (t : Tok) (e it : Addr) :
    Turn P w K (.Tuple elts kk tpos) (IteS z) [e, it] e (fun i h => (∃ old, IsEnum h e it ((i : Nat) : Int) old) ∧ h.IsStrIter it (strIterType z) z t i ∧ e ≠ it) where
  mem := by simp
  obj := fun i h st b hb => by
    obtain ⟨⟨old, he⟩, ⟨o, ho, hc, hd⟩, _⟩ := st
    have e' : b = e ∨ b = it := by simpa using hb
    rcases e' with z | z
    · rw [z]; exact ⟨_, he, fun v q => nomatch q⟩
    · rw [z]; exact ⟨o, ho, fun v q => by rw [hd] at q; cases q⟩
  keep := fun i h h' st k => let ⟨⟨old, he⟩, ⟨o, ho, r⟩, hne⟩ := st; ⟨⟨old, k e (by simp) _ he⟩, ⟨o, k it (by simp) o ho, r⟩, hne⟩
  item := by
    intro X hP hw hK hc i pins s σ H E I hf st hg
    subst hP hw hK
    obtain ⟨⟨old, he⟩, hit, hne⟩ := st
    refine thn (enum_item (C := fun y => ∃ c, z.cps[i]? = some c ∧ y = .str ⟨#[c]⟩) I hf (Draws.text (A := X.A.in1) (show X.A.in1.handled = none from I.ok.hd hc) it z t) he hit hg hne (by simpa using hne) fun u' q => ?_) fun r s1 ⟨v, er, h2⟩ => ⟨v, er, thn h2 fun _ s2 ⟨T, y, ev, I1, hT, ey, he2, hs2, hb⟩ => ?_⟩
    · obtain ⟨c, u, h1, rfl⟩ := q
      exact ⟨.str ⟨#[c]⟩, ⟨u, rfl⟩, c, h1, rfl⟩
    · obtain ⟨c, hcx, rfl⟩ := ey
      subst ev
      exact ⟨.ref T, _, I1, rfl, ⟨T, c, rfl, hT, rfl, hcx⟩, ⟨he2, hs2, hne⟩, hb⟩
  done := by
    intro X hP hw hK hc i pins s σ H E I hf st hg
    subst hP hw hK
    obtain ⟨⟨old, he⟩, hit, hne⟩ := st
    obtain ⟨f0, f1, f2, f3, f4, f5⟩ := hf it (by simp)
    have hx : z.cps[i]? = none := Array.getElem?_eq_none hg
    have D : Draws X.prog X.w X.A.in1 it [it] i (fun _ _ => True) (fun j h => h.IsStrIter it (strIterType z) z t j ∧ j = i) := {
      live := fun _ _ st => let ⟨o, ho, _⟩ := st.1; ⟨o, ho⟩
      frame := fun _ _ _ st hk => let ⟨⟨o, ho, r⟩, e⟩ := st; ⟨⟨o, hk it (by simp) o ho, r⟩, e⟩
      item := fun j s Q E hj st hQ => by have := st.2; omega
      done := fun s Q E st hE => by
        obtain ⟨st, _⟩ := st
        cases ha : z.cps.all (· < 128)
        · simp only [strIterType, ha, Bool.false_eq_true, if_false] at st
          exact wpAny_nextOf_wide_end (show X.A.in1.handled = none from I.ok.hd hc) st hx hE
        · simp only [strIterType, ha, if_true] at st
          exact wpAny_nextOf_ascii_end (show X.A.in1.handled = none from I.ok.hd hc) st hx hE }
    exact wpAny_pyNext_enum_endD D he ⟨hit, rfl⟩ fun h' eb => ⟨rfl, I.turned (t' := s.toks) (fun b o hb q => eb b o hb q) f0 f1 f3 f4 f5⟩
  self := fun A i s Q E st h => let ⟨⟨_, he⟩, _⟩ := st; wpAny_pyIter_enum he h
/-- enumerate of a list, a tuple, a text -/
def iEnumU (K : PySem.W.Frag) (ta : TA) : TI := fun σ H R => ta σ H fun vs H1 => (∃ a xs, vs = [.ref a] ∧ SqL K H1 a xs ∧ R (Ite K a) H1) ∨ (∃ a xs, vs = [.ref a] ∧ SqT K H1 a xs ∧ R (IteT K a) H1) ∨ (∃ z, vs = [.str z] ∧ R (IteS z) H1)
theorem pi_enumU {X : Cx} {e : Expr} {ta : TA} {p pos tpos : Pos} {elts : List Expr} {kk : Nat} (hg : Gl X "enumerate") (hm : X.mg "enumerate" = none) (ha : PA X [e] ta) (hs : starEach [e] X.env = [(false, eval e X.env)] := by rfl) :
    PI X (.Tuple elts kk tpos) (.Call (.Name "enumerate" p) [e] [] pos) (iEnumU X.K ta) := by
  refine ⟨fun pins s σ H R I h => ?_⟩
  refine Call_ (ld_blt I hg hm boot_enumerate (PyProof.Rows.callWith_type1 (thn (ha.run pos pins s σ H _ I h) fun us s1 ⟨vs, H1, I1, r1, q1⟩ => ?_) hs rfl))
  have fp : ∀ b ∈ [s1.heap.objs.size + 1, s1.heap.objs.size], s1.heap.objs.size ≤ b := fun b hb => by
    have e' : b = s1.heap.objs.size + 1 ∨ b = s1.heap.objs.size := by simpa using hb
    rcases e' with z | z
    · rw [z]; exact Nat.le_add_right _ _
    · rw [z]; exact Nat.le_refl _
  rcases q1 with ⟨a, xs, ex, hq, q⟩ | ⟨a, xs, ex, hq, q⟩ | ⟨z, ex, q⟩
  · subst ex
    cases r1 with
    | cons r rr =>
      cases rr
      cases r
      obtain ⟨its, rv, p', hz⟩ := I1.list hq
      refine call_enumerate_list p'.isList fun h' he hit hsz hk => wpAny_pyIter_enum he ?_
      have I2 : Inv X pins σ H1 { s1 with heap := h' } := I1.kept (t' := s1.toks) hk
      exact ⟨s1.heap.objs.size + 1, [s1.heap.objs.size + 1, s1.heap.objs.size], _, _, H1, rfl, I2, turn_enum a (s1.heap.objs.size + 1) s1.heap.objs.size, ⟨⟨.none, he⟩, hit, Nat.succ_ne_self _⟩, fun b hb => I1.fpOk (fp b hb) (I1.hok.fresh (fp b hb)), q⟩
  · subst ex
    cases r1 with
    | cons r rr =>
      cases rr
      cases r
      obtain ⟨its, rv, p', hz⟩ := I1.tuple hq
      refine enum_begins1 (begins_tuple a its.toArray) p' fun h' he hit hsz hk => wpAny_pyIter_enum he ?_
      have I2 : Inv X pins σ H1 { s1 with heap := h' } := I1.kept (t' := s1.toks) hk
      exact ⟨s1.heap.objs.size + 1, [s1.heap.objs.size + 1, s1.heap.objs.size], _, _, H1, rfl, I2, turn_enumT a (s1.heap.objs.size + 1) s1.heap.objs.size, ⟨⟨.none, he⟩, ⟨_, hit, rfl, rfl⟩, Nat.succ_ne_self _⟩, fun b hb => I1.fpOk (fp b hb) (I1.hok.fresh (fp b hb)), q⟩
  · subst ex
    cases r1 with
    | cons r rr =>
      cases rr
      obtain ⟨t, rfl⟩ := r
      refine enum_begins1 (begins_text z t) trivial fun h' he hit hsz hk => wpAny_pyIter_enum he ?_
      have I2 : Inv X pins σ H1 { s1 with heap := h' } := I1.kept (t' := s1.toks) hk
      exact ⟨s1.heap.objs.size + 1, [s1.heap.objs.size + 1, s1.heap.objs.size], _, _, H1, rfl, I2, turn_enumS z t (s1.heap.objs.size + 1) s1.heap.objs.size, ⟨⟨.none, he⟩, ⟨_, hit, rfl, rfl⟩, Nat.succ_ne_self _⟩, fun b hb => I1.fpOk (fp b hb) (I1.hok.fresh (fp b hb)), q⟩
/-- a list, a tuple, a text, walked -/
def iSeqU (K : PySem.W.Frag) (te : TE) : TI := fun σ H R => te σ H fun x H1 => (∃ a xs, x = .ref a ∧ SqL K H1 a xs ∧ R (Itl K a) H1) ∨ (∃ a xs, x = .ref a ∧ SqT K H1 a xs ∧ R (Itt K a) H1) ∨ (∃ z, x = .str z ∧ R (Its z) H1)
theorem pi_seqU {X : Cx} {tg l : Expr} {tl : TE} (hl : PE X l tl) : PI X tg l (iSeqU X.K tl) := by
  refine ⟨fun pins s σ H R I h => ?_⟩
  refine thn (hl.run pins s σ H _ I h) fun v s1 ⟨x, H1, I1, r1, q1⟩ => ?_
  rcases q1 with ⟨a, xs, ex, hq, q⟩ | ⟨a, xs, ex, hq, q⟩ | ⟨z, ex, q⟩
  · subst ex
    cases r1
    obtain ⟨its, rv, p, hz⟩ := I1.list hq
    refine wpAny_pyIter_list p.isList ?_
    refine ⟨s1.heap.objs.size, [s1.heap.objs.size], _, _, H1, rfl, I1.kept (t' := s1.toks) fun b o e => Heap.get?_push_of_some _ e, turn_list a _, ⟨_, Heap.get?_push_size _ rfl, rfl, rfl⟩, fun b hb => ?_, q⟩
    have e : b = s1.heap.objs.size := by simpa using hb
    subst e
    exact I1.fpOk (Nat.le_refl _) (I1.hok.fresh (Nat.le_refl _))
  · subst ex
    cases r1
    obtain ⟨its, rv, p, hz⟩ := I1.tuple hq
    refine wpAny_pyIter_tuple (show s1.heap.IsTuple a its.toArray from p) ?_
    refine ⟨s1.heap.objs.size, [s1.heap.objs.size], _, _, H1, rfl, I1.kept (t' := s1.toks) fun b o e => Heap.get?_push_of_some _ e, turn_tuple a _, ⟨_, Heap.get?_push_size _ rfl, rfl, rfl⟩, fun b hb => ?_, q⟩
    have e : b = s1.heap.objs.size := by simpa using hb
    subst e
    exact I1.fpOk (Nat.le_refl _) (I1.hok.fresh (Nat.le_refl _))
  · subst ex
    obtain ⟨t, rfl⟩ := r1
    cases ha : z.cps.all (· < 128)
    · exact wpAny_pyIter_wide ha (pi_one (tk := s1.toks) I1 _ (turn_str _ z t "str_iterator" (.inr rfl)) ⟨_, Heap.get?_push_size _ rfl, rfl, rfl⟩ q)
    · exact wpAny_pyIter_ascii ha (pi_one (tk := s1.toks) I1 _ (turn_str _ z t "str_ascii_iterator" (.inl rfl)) ⟨_, Heap.get?_push_size _ rfl, rfl, rfl⟩ q)
end DL
/-! DL6: what is walked, comprehensions, built-ins, lists that grow, calls of own defs, by data. -/
namespace DL
open PySem L2
section
variable {K : PySem.W.Frag} {ρ : List Sl} {ta tb te : TE} {tt : TT} {d d1 d2 : D} {P : Oc → Prop} {Ex : XK}
/-! ### what is walked -/
theorem ei_mono {wi : TI} {n : Nat} {f g : Nat → D} (h : EI K wi ρ n f) (e : ∀ i, i < n → f i = g i) : EI K wi ρ n g := fun G0 H0 G H σ R E q =>
  h G0 H0 G H σ R E fun J G' H' Gd Y x w hG hY => q J G' H' Gd Y x w hG fun i G2 H2 v H3 hi a b c => by
    rw [← e i hi]
    exact hY i G2 H2 v H3 hi a b c
theorem ei_rng1 {t : TA} {n : Int} (h : EA K t ρ [.int n]) (h1 : -(2 ^ 62) ≤ n) (h2 : n < 2 ^ 62) : EI K (iRng1 t) ρ n.toNat (fun i => .int (i : Nat)) := fun G0 H0 G H σ R E q =>
  h G0 H0 G H σ _ E fun vs G1 H1 e1 hv => by
    cases hv with
    | cons a b =>
      cases a
      cases b
      refine ⟨n, rfl, h1, h2, q _ G1 H1 _ _ e1 walk_range (fun _ _ _ _ => trivial) fun i G2 H2 x H3 hi hg gh hy => ?_⟩
      obtain ⟨rfl, rfl⟩ := hy
      refine ⟨G2, .refl gh, ?_⟩
      show Dq K G2 (.int (0 + (i : Nat))) (.int (i : Nat))
      rw [Int.zero_add]
      exact .int _
theorem getD_of {α : Type} {ds : List α} {i : Nat} {d z : α} (h : ds[i]? = some d) : ds.getD i z = d := by
  rw [List.getD_eq_getElem?_getD, h]
  rfl
theorem ei_list {ds : List D} (h : EV K te ρ (.list ds)) : EI K (iSeqU K te) ρ ds.length (fun i => ds.getD i .none) := fun G0 H0 G H σ R E q =>
  h G0 H0 G H σ _ E fun v G1 H1 e1 hv => by
    cases hv with
    | @lst a xs _ ha hr =>
      refine .inl ⟨a, xs, rfl, SqL.of (e1.gh.lst ha), ?_⟩
      rw [← hr.length] at q
      refine q _ G1 H1 _ _ e1 (walk_list (K := K) (a := a)) (fun G2 H2 hg gh => SqL.of (gh.lst (hg _ _ ha))) fun i G2 H2 x H3 hi hg gh hy => ?_
      obtain ⟨rfl, hx⟩ := hy
      obtain ⟨d, hd, hq⟩ := hr.got hx
      exact ⟨G2, .refl gh, by show Dq K G2 x (ds.getD i .none); rw [getD_of hd]; exact hq.mono (Sub.of hg)⟩
theorem ei_tup {ds : List D} (h : EV K te ρ (.tuple ds)) : EI K (iSeqU K te) ρ ds.length (fun i => ds.getD i .none) := fun G0 H0 G H σ R E q =>
  h G0 H0 G H σ _ E fun v G1 H1 e1 hv => by
    cases hv with
    | @tup a xs _ ha hr =>
      refine .inr (.inl ⟨a, xs, rfl, e1.gh.t ha, ?_⟩)
      rw [← hr.length] at q
      refine q _ G1 H1 _ _ e1 (walk_tup (K := K) (a := a)) (fun G2 H2 hg gh => gh.t ((Sub.of hg).t ha)) fun i G2 H2 x H3 hi hg gh hy => ?_
      obtain ⟨rfl, hx⟩ := hy
      obtain ⟨d, hd, hq⟩ := hr.got hx
      exact ⟨G2, .refl gh, by show Dq K G2 x (ds.getD i .none); rw [getD_of hd]; exact hq.mono (Sub.of hg)⟩
def chD (z : Str) (i : Nat) : D := .str ⟨#[z.cps.getD i 0]⟩
theorem ch_of {z : Str} {i c : Nat} (h : z.cps[i]? = some c) : chD z i = .str ⟨#[c]⟩ := by
  unfold chD
  rw [Array.getD_eq_getD_getElem?, h]
  rfl
theorem new_pair {G H : Hp} {T : Addr} {x y : V} {a b : D} (g : GH G H) (hT : H T = none) (hx : Dq K G x a) (hy : Dq K G y b) : ∃ G3, Ext G H G3 (upd H T (.tup [x, y])) ∧ Dq K G3 (.ref T) (.tuple [a, b]) :=
  ⟨_, .new g hT, .tup (SqT.of upd_same) (.cons (hx.mono (Ext.new g hT).g) (.cons (hy.mono (Ext.new g hT).g) .nil))⟩
theorem ei_enumL {t : TA} {ds : List D} (h : EA K t ρ [.list ds]) : EI K (iEnumU K t) ρ ds.length (fun i => .tuple [.int (i : Nat), ds.getD i .none]) := fun G0 H0 G H σ R E q =>
  h G0 H0 G H σ _ E fun v G1 H1 e1 hv => by
    cases hv with
    | cons a b =>
      cases b
      cases a with
      | @lst a xs _ ha hr =>
        refine .inl ⟨a, xs, rfl, SqL.of (e1.gh.lst ha), ?_⟩
        rw [← hr.length] at q
        refine q _ G1 H1 _ _ e1 (walk_enum (K := K) (a := a)) (fun G2 H2 hg gh => SqL.of (gh.lst (hg _ _ ha))) fun i G2 H2 x H3 hi hg gh hy => ?_
        obtain ⟨T, x1, y1, rfl, hT, rfl, h1, h2⟩ := hy
        cases h1
        obtain ⟨d, hd, hq⟩ := hr.got h2
        exact new_pair gh hT (.int _) (by rw [getD_of hd]; exact hq.mono (Sub.of hg))
theorem walk_enumS {z : Str} : Walk (IteS z) z.cps.size (fun _ => True) (fun i H v H' => ∃ T c, v = .ref T ∧ H T = none ∧ H' = upd H T (.tup [.int (i : Nat), .str ⟨#[c]⟩]) ∧ z.cps[i]? = some c) :=
  ⟨fun _ _ hi _ => hi, fun _ _ => Nat.le_refl _, fun _ _ _ _ _ _ y => y⟩
theorem ei_enumS {t : TA} {z : Str} (h : EA K t ρ [.str z]) : EI K (iEnumU K t) ρ z.cps.size (fun i => .tuple [.int (i : Nat), chD z i]) := fun G0 H0 G H σ R E q =>
  h G0 H0 G H σ _ E fun v G1 H1 e1 hv => by
    cases hv with
    | cons a b =>
      cases b
      cases a
      refine .inr (.inr ⟨z, rfl, q _ G1 H1 _ _ e1 walk_enumS (fun _ _ _ _ => trivial) fun i G2 H2 x H3 hi hg gh hy => ?_⟩)
      obtain ⟨T, c, rfl, hT, rfl, hc⟩ := hy
      exact new_pair gh hT (.int _) (by rw [ch_of hc]; exact .str _)
/-! ### a comprehension -/
def wipeS (ρ : List Sl) : List Nat → List Sl
  | [] => ρ
  | v :: vs => (wipeS ρ vs).set v .no
theorem En.wipe {G0 H0 G H : Hp} {σ : St} (E : En K G0 H0 G H σ ρ) : ∀ vs : List Nat, En K G0 H0 G H (L2.wipe σ vs) (wipeS ρ vs)
  | [] => E
  | v :: vs => (En.wipe E vs).setX v none
theorem wipe_get {σ : St} {k : Nat} : ∀ {vs : List Nat}, (L2.wipe σ vs)[k]? = if k ∈ vs ∧ k < σ.length then some none else σ[k]?
  | [] => by simp [L2.wipe]
  | v :: vs => by
    unfold L2.wipe
    by_cases e : v = k
    · subst e
      by_cases h : v < σ.length
      · rw [List.getElem?_set_self (by rw [wipe_length]; exact h), if_pos ⟨List.mem_cons_self, h⟩]
      · rw [if_neg (fun z => h z.2), List.getElem?_eq_none (by rw [List.length_set, wipe_length]; omega), List.getElem?_eq_none (by omega)]
    · rw [List.getElem?_set_ne e, wipe_get (vs := vs)]
      by_cases h : k ∈ vs ∧ k < σ.length
      · rw [if_pos h, if_pos ⟨List.mem_cons_of_mem _ h.1, h.2⟩]
      · rw [if_neg h, if_neg fun z => h ⟨(List.mem_cons.mp z.1).resolve_left (Ne.symm e), z.2⟩]
theorem wipe_eq {σ σ' : St} {vs ts : List Nat} (hl : σ'.length = σ.length) (hk : ∀ k, k ∉ ts → σ'[k]? = (L2.wipe σ vs)[k]?) (hs : ∀ t ∈ ts, t ∈ vs) : L2.wipe σ' vs = L2.wipe σ vs := by
  refine List.ext_getElem? fun k => ?_
  rw [wipe_get, hl]
  by_cases h : k ∈ vs ∧ k < σ.length
  · rw [if_pos h, wipe_get, if_pos h]
  · rw [if_neg h]
    by_cases hv : k ∈ vs
    · have : ¬ k < σ.length := fun z => h ⟨hv, z⟩
      rw [List.getElem?_eq_none (by omega), List.getElem?_eq_none (by rw [wipe_length]; omega)]
    · exact hk k fun z => hv (hs k z)
/-- what a comprehension gives: the value at each turn that passes -/
def lcD : Nat → (Nat → Bool) → (Nat → D) → List D
  | 0, _, _ => []
  | n + 1, b, f => if b n = true then lcD n b f ++ [f n] else lcD n b f
theorem lcD_len (b : Nat → Bool) (f : Nat → D) : ∀ n, (lcD n b f).length ≤ n
  | 0 => Nat.le_refl _
  | n + 1 => by
    unfold lcD
    have := lcD_len b f n
    split
    · rw [List.length_append]
      exact Nat.succ_le_succ this
    · omega
theorem en_lc {wi : TI} {g : TG} {vs : List Nat} {n : Nat} {item : Nat → D} {b : Nat → Bool} {f : Nat → D} (hi : EI K wi ρ n item) (hn : n ≤ 16000000)
    (hs : ∀ i, i < n → ∃ ρ2 ts, GT K g (wipeS ρ vs) (item i) ρ2 ts ∧ (∀ t ∈ ts, t ∈ vs) ∧ ET K tt ρ2 (b i) ∧ (b i = true → EV K te ρ2 (f i))) :
    EVN K (tLc wi g tt te vs) ρ (.list (lcD n b f)) := fun G0 H0 G H σ Q E q =>
  hi G0 H0 G H σ _ E fun J G1 H1 Gd Y x w hG hY Dl hD => by
    have E1 := E.go x
    have hH : H Dl = none := by
      exact x.gone hD
    have hG1 : G1 Dl = none := x.gh.none hD
    refine lc_it w (fun i H' => ∃ G' vl, Ext G1 H1 G' H' ∧ G' Dl = none ∧ H' Dl = some (.lst vl) ∧ DqA K G' vl (lcD i b f)) ⟨G1, [], .fresh x.gh hD, hG1, upd_same, .nil⟩ (fun i H' _ ⟨G', vl, e, _⟩ => hG G' H' e.gg e.gh) (fun i y H' H3 hlt ⟨G', vl, e, n1, h1, r1⟩ hy => ?_)
      (fun H' ⟨G', vl, e, n1, h1, r1⟩ => q Dl G' H' (x.trans e) hH n1 (.lst h1 r1))
    obtain ⟨G3, x3, hdq⟩ := hY i G' H' y H3 hlt e.gg e.gh hy
    obtain ⟨ρ2, ts, hg, hts, ht, he⟩ := hs i hlt
    have E3 : En K G0 H0 G3 H3 (L2.wipe σ vs) (wipeS ρ vs) := ((E1.go e).go x3).wipe vs
    have n3 : G3 Dl = none := x3.own _ _ h1 rfl n1
    refine hg G0 H0 G3 H3 _ y _ E3 hdq fun σ2 E2 hl hk => ⟨wipe_eq (by rw [hl, wipe_length]) hk hts, ?_⟩
    refine ht G0 H0 G3 H3 σ2 _ E2 fun G4 H4 x4 => ?_
    have h4 : H4 Dl = some (.lst vl) := x4.at n3 (x3.at n1 h1)
    have n4 : G4 Dl = none := x4.own _ _ (x3.at n1 h1) rfl n3
    have r4 : DqA K G4 vl (lcD i b f) := (r1.mono x3.g).mono x4.g
    have e4 : Ext G1 H1 G4 H4 := (e.trans x3).trans x4
    cases hb : b i with
    | false =>
      rw [if_neg Bool.false_ne_true]
      refine ⟨G4, vl, e4, n4, h4, ?_⟩
      unfold lcD
      rw [if_neg (by rw [hb]; exact Bool.false_ne_true)]
      exact r4
    | true =>
      rw [if_pos rfl]
      refine he hb G0 H0 G4 H4 σ2 _ (E2.go x4) fun u G5 H5 x5 hu => ?_
      have h5 := x5.at n4 h4
      have n5 := x5.own _ _ h4 rfl n4
      have hlen := lcD_len b f i
      have hl2 := r4.length
      refine ⟨vl, h5, by rw [hl2, sizeLine_eq]; omega, G5, vl ++ [u], ?_, n5, upd_same, ?_⟩
      · have e5 := e4.trans x5
        refine ⟨e5.gg, fun a o ha => ?_, fun a o ha => ?_, e5.own⟩
        · rw [upd_ne (ne_of_none ha hD)]; exact e5.hh a o ha
        · have ne : a ≠ Dl := ne_of_none ha n5
          exact (e5.gh a o ha).eq (upd_ne ne)
      · have hb' : lcD (i + 1) b f = lcD i b f ++ [f i] := by
          show (if b i = true then lcD i b f ++ [f i] else lcD i b f) = _
          rw [if_pos hb]
        rw [hb']
        exact (r4.mono x5.g).append (.one hu)
theorem et_yes : ET K tYes ρ true := fun _ _ G H _ _ E q => q G H (.refl E.gh)
/-! ### built-ins -/
theorem cd_lenS {z : Str} (h : z.length ≤ sizeLine) : CD K (rLen K) [.str z] (.int z.length) := fun xs G H Q g hx q => by
  cases hx with
  | cons a b =>
    cases a
    cases b
    exact ⟨_, z.length, rfl, ⟨h, rfl⟩, q _ G H (.refl g) (.int _)⟩
theorem cd_lenL {ds : List D} : CD K (rLen K) [.list ds] (.int ds.length) := fun xs G H Q g hx q => by
  cases hx with
  | cons a b =>
    cases b
    cases a with
    | @lst a xs _ ha hr => exact ⟨_, xs.length, rfl, .inl ⟨xs, SqL.of (g.lst ha), rfl⟩, by rw [hr.length]; exact q _ G H (.refl g) (.int _)⟩
theorem cd_lenT {ds : List D} : CD K (rLen K) [.tuple ds] (.int ds.length) := fun xs G H Q g hx q => by
  cases hx with
  | cons a b =>
    cases b
    cases a with
    | @tup a xs _ ha hr => exact ⟨_, xs.length, rfl, .inr ⟨xs, g.t ha, rfl⟩, by rw [hr.length]; exact q _ G H (.refl g) (.int _)⟩
theorem ev_lenO {n : Nat} {ds : List D} (hi : ρ[n]? = some (.ow (.list ds))) : EV K (tCB (rLen K) (tCons (tVar n) tNil)) ρ (.int ds.length) := fun G0 H0 G H σ Q E q => by
  obtain ⟨l, vs, h1, h2, h3⟩ := own_look E hi
  exact ⟨_, h1, _, vs.length, rfl, .inl ⟨vs, SqL.of h2, rfl⟩, by rw [h3.length]; exact q _ G H (.refl E.gh) (.int _)⟩
def rIntU : List V → Hp → VK → Prop := fun xs H Q => (∃ i, xs = [.int i] ∧ Q (.int i) H) ∨ ∃ k, xs = [.bl k] ∧ Q (.int (if k then 1 else 0)) H
theorem cd_int {i : Int} : CD K rIntU [.int i] (.int i) := fun xs G H Q g hx q => by
  cases hx with
  | cons a b =>
    cases a
    cases b
    exact .inl ⟨i, rfl, q _ G H (.refl g) (.int _)⟩
/-- a datum's type -/
def tyD : D → String
  | .none => "NoneType"
  | .bool _ => "bool"
  | .int _ => "int"
  | .str _ => "str"
  | .list _ => "list"
  | .tuple _ => "tuple"
  | .dict _ => "dict"
def isDicD : D → Bool
  | .dict _ => true
  | _ => false
theorem ty_dq {G H : Hp} {v : V} (g : GH G H) (h : Dq K G v d) (nd : isDicD d = false) : TyX K H v (.type (tyD d)) := by
  cases h with
  | non => exact .base .non
  | bl b => exact .base (.bl b)
  | int i => exact .base (.int i)
  | str x => exact .base (.str x)
  | lst a b => exact .base (.lst (g.lst a))
  | tup a b =>
    rcases g.t a with (h | ⟨o, h⟩) | ⟨o, its, n, h, c, _⟩
    · exact .base (.tup h)
    · exact .fTuple h
    · exact .kTuple h c
  | dK _ _ => cases nd
  | dT _ _ => cases nd
  | scr _ => cases nd
  | sta _ _ => cases nd
  | opq _ => cases nd
  | raw _ => cases nd
theorem ev_isi {T : String} {b : Bool} (h : EV K ta ρ d) (nd : isDicD d = false) (hk : kitB (tyD d) T = some b) : EV K (tCB (rIsi K) (tCons ta (tCons (tC (.ty T)) tNil))) ρ (.bool b) := fun G0 H0 G H σ Q E q =>
  h G0 H0 G H σ _ E fun v G1 H1 e1 h1 => ⟨v, .ty T, .type (tyD d), .type T, b, rfl, .ty T, ty_dq e1.gh h1 nd, kit_ty hk, q _ G1 H1 e1 (.bl b)⟩
/-- xs.append(e), xs the owned list of slot n -/
theorem st_append {n : Nat} {ds : List D} (hi : ρ[n]? = some (.ow (.list ds))) (h : EV K te ρ d) (hz : ds.length < 16000000) (q : P (.nx (ρ.set n (.ow (.list (ds ++ [d])))))) :
    ST K Ex (tDrop (tBM K "list" rAppend (tVar n) (tCons te tNil))) ρ P := fun G0 H0 G H σ D E f => by
  obtain ⟨l, vs, h1, h2, h3, h0⟩ := own_lookG E hi
  refine ⟨_, h1, .inl ⟨rfl, vs, SqL.of h2⟩, h G0 H0 G H σ _ E fun v G1 H1 e1 hv => ?_⟩
  have h4 := e1.at h0 h2
  have r4 := h3.mono e1.g
  exact ⟨l, vs, v, rfl, rfl, h4, by rw [h3.length, sizeLine_eq]; omega, f.nx _ _ _ _ q ((E.go e1).write hi h1 (.lst upd_same (r4.append (.one hv))))⟩
/-- xs[i] = e -/
theorem st_setL {n : Nat} {ds : List D} {i : Int} {j : Nat} (hi : ρ[n]? = some (.ow (.list ds))) (h : EV K te ρ d) (hb : EV K tb ρ (.int i)) (hj : ixN ds.length i = some j) (q : P (.nx (ρ.set n (.ow (.list (ds.set j d)))))) :
    ST K Ex (tAsg te (gSub (tVar n) tb rSetL)) ρ P := fun G0 H0 G H σ D E f =>
  h G0 H0 G H σ _ E fun v G1 H1 e1 hv => by
    obtain ⟨l, vs, h1, h2, h3, h0⟩ := own_lookG (E.go e1) hi
    refine ⟨_, h1, hb G0 H0 G1 H1 σ _ (E.go e1) fun y G2 H2 e2 hy => ?_⟩
    cases hy
    have h4 := e2.at h0 h2
    have r4 := h3.mono e2.g
    exact ⟨l, vs, i, j, rfl, rfl, h4, by rw [h3.length]; exact hj, f.nx _ _ _ _ q (((E.go e1).go e2).write hi h1 (.lst upd_same (r4.set j (hv.mono e2.g))))⟩
/-- x += e -/
def rIAddU : R2 := fun x y H Q => rI0 (fun i j => .int (i + j)) x y H Q ∨ (fun x y H Q => (∃ i j, x = .str i ∧ y = .str j ∧ i.length + j.length ≤ sizeLine ∧ Q (.str (i ++ j)) H) ∨ rExt2 x y H Q) x y H Q
theorem ip_addU {X : Cx} : PIp X .Add rIAddU := iop_add.or (iop_add_str.or iop_ext)
theorem st_augI {n : Nat} {a b : Int} (hi : ρ[n]? = some (.fr (.int a))) (h : EV K te ρ (.int b)) (q : P (.nx (ρ.set n (.fr (.int (a + b)))))) : ST K Ex (tAug n te rIAddU) ρ P := fun G0 H0 G H σ D E f => by
  obtain ⟨v, h1, h2⟩ := E.fr n _ hi
  cases h2
  refine ⟨_, h1, h G0 H0 G H σ _ E fun y G1 H1 e1 hy => ?_⟩
  cases hy
  exact .inl ⟨a, b, rfl, rfl, f.nx _ _ _ _ q ((E.go e1).setF n (.int _))⟩
theorem st_augO {n : Nat} {ds es : List D} (hi : ρ[n]? = some (.ow (.list ds))) (h : EV K te ρ (.list es)) (hz : ds.length + es.length ≤ 16000000) (q : P (.nx (ρ.set n (.ow (.list (ds ++ es)))))) :
    ST K Ex (tAug n te rIAddU) ρ P := fun G0 H0 G H σ D E f => by
  obtain ⟨l, vs, h1, h2, h3, h0⟩ := own_lookG E hi
  refine ⟨_, h1, h G0 H0 G H σ _ E fun y G1 H1 e1 hy => ?_⟩
  cases hy with
  | @lst b xs _ hb hr =>
    have h4 := e1.at h0 h2
    have r4 := h3.mono e1.g
    refine .inr (.inr ⟨l, b, vs, xs, rfl, rfl, h4, e1.gh.lst hb, by rw [h3.length, hr.length, sizeLine_eq]; omega, ?_⟩)
    have E2 := (E.go e1).write hi h1 (.lst (upd_same (H := H1) (a := l) (o := .lst (vs ++ xs))) (r4.append hr))
    have E3 := f.nx _ σ G1 _ q E2
    have : σ.set n (some (V.ref l)) = σ := by
      refine List.ext_getElem? fun k => ?_
      by_cases e : n = k
      · subst e
        rw [List.getElem?_set_self (List.getElem?_eq_some_iff.mp h1).1, h1]
      · rw [List.getElem?_set_ne e]
    show D.nx (σ.set n (some (V.ref l))) _
    rw [this]
    exact E3
/-! ### own defs -/
/-- what a def answers, by data -/
def PF (K : PySem.W.Frag) (R : List D → D → Prop) : Sp := fun vs H Q _ => ∃ G ds d, GH G H ∧ DqA K G vs ds ∧ R ds d ∧ ∀ v G' H', Ext G H G' H' → Dq K G' v d → Q v H'
theorem ev_call {R : List D → D → Prop} {t : TA} {ds : List D} (h : EA K t ρ ds) (hr : R ds d) : EV K (tCall (PF K R) [] Ex t) ρ d := fun G0 H0 G H σ Q E q =>
  h G0 H0 G H σ _ E fun vs G1 H1 e1 h1 => by
    rw [List.append_nil]
    exact ⟨G1, ds, d, e1.gh, h1, hr, fun v G2 H2 e2 h2 => q v G2 H2 (e1.trans e2) h2⟩
/-- the slots at a def's entry -/
def start0 (n : Nat) (ds : List D) : List Sl := ds.map Sl.fr ++ List.replicate (n - ds.length) Sl.no
theorem start0_get {n i : Nat} {ds : List D} {sl : Sl} (e : (start0 n ds)[i]? = some sl) : (∃ d, ds[i]? = some d ∧ sl = .fr d) ∨ sl = .no := by
  unfold start0 at e
  rw [List.getElem?_append] at e
  split at e
  · rw [List.getElem?_map] at e
    cases e2 : ds[i]? with
    | none => rw [e2] at e; cases e
    | some d' => rw [e2] at e; cases e; exact .inl ⟨d', rfl, rfl⟩
  · rw [List.getElem?_replicate] at e
    split at e
    · cases e; exact .inr rfl
    · cases e
theorem en_start {G H : Hp} {vs : List V} {ds : List D} {N : List Str} (g : GH G H) (h : DqA K G vs ds) : En K G H G H (L2.start N vs) (start0 N.length ds) := by
  have hl := h.length
  refine ⟨?_, .refl g, fun i d e => ?_, fun i d e => ?_, fun i a dd fl e => ?_, fun i j d e l q => ?_, fun i kls e => ?_, fun i j x y e => ?_⟩
  · unfold L2.start start0
    rw [List.length_append, List.length_append, List.length_map, List.length_map, List.length_replicate, List.length_replicate, hl]
  · rcases start0_get e with ⟨d', e2, e3⟩ | e3
    · cases e3
      obtain ⟨v, h1, h2⟩ := h.get e2
      refine ⟨v, ?_, h2⟩
      unfold L2.start
      rw [List.getElem?_append_left (by rw [List.length_map]; exact (List.getElem?_eq_some_iff.mp h1).1), List.getElem?_map, h1]
      rfl
    · cases e3
  · rcases start0_get e with ⟨d', e2, e3⟩ | e3 <;> cases e3
  · rcases start0_get e with ⟨d', e2, e3⟩ | e3 <;> cases e3
  · rcases start0_get q with ⟨d', e2, e3⟩ | e3 <;> cases e3
  · rcases start0_get e with ⟨d', e2, e3⟩ | e3 <;> cases e3
  · rcases start0_get e with ⟨d', e2, e3⟩ | e3 <;> cases e3
end
section
open PySem.Spec PyProof.Rows
variable {P : Program} {w : World} {K : PySem.W.Frag} {mg : Str → Option Value} {base : Heap}
/-- a def that raises nothing keeps its word, by its body's -/
theorem fn_pf {x qual : Str} {params : Arguments} {body : List Stmt} {scope : Scope} {f : Addr} {fd : FuncData} {N ps : List Str} {k : Nat} {R : List D → D → Prop} (F : FunD K x qual params body scope [] [] f fd) (S : FnScope N ps scope)
    (len : ∀ ds d, R ds d → ds.length = ps.length)
    (hb : ∀ (cdv : Value) (A : Around) (outer : List PySem.Env) (s : Shared) (H : Hp) (E : XK), Room k (A.deeper (envOfC qual scope s.heap.objs.size f cdv)) →
      ∃ t, PSs (cxOf CX0 P w K mg base N qual scope f cdv A outer s H E) body t ∧ ∀ ds d, R ds d → DL.ST K E0 t (start0 N.length ds) (fun o => o = .rt d ∨ (d = .none ∧ ∃ ρ, o = .nx ρ))) : FnOk P w K mg base CX0 (k + 1) f fd ps (PF K R) := by
  refine F.ok S (fun vs H Q E h => ?_) (fun cdv A outer s H vs Q E hr h => ?_)
  · obtain ⟨G, ds, d, g, ha, hR, q⟩ := h
    exact ha.length.trans (len ds d hR)
  · obtain ⟨t, h1, h2⟩ := hb cdv A outer s H E hr
    obtain ⟨G, ds, d, g, ha, hR, q⟩ := h
    refine ⟨t, h1, h2 ds d hR G H G H _ _ (en_start g ha) ⟨fun ρ' σ' G' H' p E' => ?_, fun d' v G' H' p x hv => ?_, fun ρ' σ' G' H' p E' => ?_, fun ρ' σ' G' H' p E' => ?_, fun C fl dd fs G' H' p => ?_⟩⟩
    · rcases p with p | ⟨rfl, _⟩
      · cases p
      · exact q _ G' H' E'.ext .non
    · rcases p with p | ⟨rfl, ρ, p⟩
      · cases p
        exact q v G' H' x hv
      · cases p
    · rcases p with p | ⟨_, _, p⟩ <;> cases p
    · rcases p with p | ⟨_, _, p⟩ <;> cases p
    · rcases p with p | ⟨_, _, p⟩ <;> cases p
end
end DL
set_option maxHeartbeats 1000000
/-! DL7: exceptions of own classes with fields: made, raised, caught, asked, by data. -/
namespace PySem.W
open PySem PySem.Spec PySem.Calls PyProof.Rows
section
variable {prog : Program} {w : World} {A : Around} {E : Value → Shared → Prop} {s : Shared} {K : Frag} {x D : Addr} {ox : Obj} {od : Option Obj}
theorem dl_findObj {C : Addr} {name : Str} {a g : Value} (od : Option Obj) (hc : (clsIn K C).isSome = true) (ha : findIn K (.ref C) name = some (some a)) (hg : specialIn K a "__get__" = some (some g)) (ht : takesIn K a = some true) : findObj K C od name = some (.bind g a) := by
  obtain ⟨cd, q⟩ := Option.isSome_iff_exists.mp hc
  unfold findObj
  rw [q, Option.bind_some, ha, Option.bind_some]
  simp [hg, ht]
theorem dl_class {Q : Option Value → Shared → Prop} (C : L2.ExcC K D) (X : K.In s.heap) (I : InstAt s.heap x ox D od) (h : Q (some (.ref D)) { s with toks := s.toks + 1 }) : wpAny (model prog w) A (getAttr? (.ref x) "__class__") Q E s := by
  have hf : findObj K D od "__class__" = some (.bind (.builtin "getset_descriptor.__get__") (.builtin "object.__class__")) := dl_findObj od (by obtain ⟨cd, hc, _⟩ := any_some C.hd; rw [hc]; rfl) C.ha C.hn C.ht
  obtain ⟨hp, g, d, t, os⟩ := s
  have T0 := I.type (M := model prog w)
  have T1 := looks_findIn (M := model prog w) X C.hg
  have T2 := looks_findIn (M := model prog w) X C.hk
  have T3 := looks_find (M := model prog w) X I hf
  have sub : Looks (model prog w) hp (isInstance (.ref x) (.type "BaseException")) true := T0.andThen (looks_subIn X C.hs)
  have e0 : (false && onTheHeap (Value.builtin "BaseException.__getattribute__")) = false := rfl
  have e2 : (Value.builtin "BaseException.__getattribute__" == Value.builtin "object.__getattribute__") = false := by decide +kernel
  have e1 : (onTheHeap (Value.ref D) && Value.builtin "BaseException.__getattribute__" == Value.builtin "object.__getattribute__") = false := by rw [e2]; rfl
  unfold getAttr? getAttrBy? getAttrBy
  refine wpAny_bind (wpAny_mkText (wpAny_bind (wpAny_attempt (wpAny_holding (wpAny_bind (T0.at (wpAny_bind (T1.at ?_))))))))
  show wpAny _ _ (if (onTheHeap (Value.ref D) && Value.builtin "BaseException.__getattribute__" == Value.builtin "object.__getattribute__") = true then _ else _) _ _ _
  rw [e1, if_neg Bool.false_ne_true]
  unfold getAttrByItsOwn hookBefore
  refine wpAny_bind ?_
  rw [if_pos (show onTheHeap (Value.ref D) = true from rfl)]
  refine T2.at ?_
  refine wpAny_bind (wpAny_attempt (wpAny_holding ?_))
  unfold callGetattribute
  rw [e0, if_neg Bool.false_ne_true]
  unfold boundAndCalled
  rw [PySem.F.excAttr_ValueError.ga.bind (.ref x)]
  refine wpAny_bind (wpAny_pure ?_)
  show wpAny _ _ (call (.builtin "BaseException.__getattribute__") [.ref x, .str "__class__" t]) _ _ _
  refine wpAny_call (codeAny_call_builtin PySem.F.excAttr_ValueError.ga.plain PySem.F.entry_bexc_ga ?_)
  refine @check_slot (model prog w) _ _ ⟨hp, g, d, t + 1, os⟩ "BaseException.__getattribute__" "BaseException" "__getattribute__" (.ref x) [.str "__class__" t] [] _ (by decide +kernel) (by decide +kernel) sub (PySem.F.args_bexc_ga (.ref x) (.str "__class__" t)) ?_
  unfold Builtin.«object.__getattribute__»
  refine wpAny_bind (wpAny_of_eq (a := ((Value.ref x : Value), [Value.str "__class__" t])) (by first | rfl | (simp only [slotArgs]; rfl)) ?_)
  refine wpAny_bind (wpAny_pure (wpAny_bind (T0.at (wpAny_bind (T3.at ?_)))))
  show wpAny _ _ (holding [Value.builtin "object.__class__"] (call (.builtin "getset_descriptor.__get__") [.builtin "object.__class__", .ref x, .ref D]) >>= ret) _ _ _
  refine wpAny_bind (wpAny_holding (wpAny_call (class_get (s := ⟨hp, g, d, t + 1, os⟩) (ox := ox) (od := od) X I C.hm ?_)))
  refine wpAny_pure ?_
  show wpAny _ _ (handedOut (.ref D)) _ _ _
  rw [handedOut_of (v := .ref D) rfl]
  first
    | exact wpAny_pure (wpAny_pure h)
    | exact wpAny_pure h
    | exact wpAny_pure (wpAny_bind (wpAny_pure (wpAny_pure h)))
theorem dl_kitx (C : L2.ExcC K D) : KitX K (.ref x) (.ref D) (fun h => InstAt h x ox D od) where
  ty := fun _ _ _ I => I.type
  it := fun _ _ X _ => by
    obtain ⟨cdD, hcD, _⟩ := any_some C.hd
    unfold clsIn at hcD
    split at hcD
    · rename_i c' d' cd' sl' ho
      intro A' Q' E' s' k q
      unfold isType loadHead
      exact wpAny_bind (wpAny_loadPart (k _ _ (X _ _ ho)) (wpAny_pure q))
    · cases hcD
  ne := fun h tp dd its n sl X htp => by
    obtain ⟨cdD, hcD, _⟩ := any_some C.hd
    refine Bool.eq_false_iff.mpr fun q => ?_
    have e : D = tp := Value.ref.inj (beq_iff_eq.mp q)
    subst e
    unfold clsIn at hcD
    split at hcD
    · rename_i c' d' cd' sl' ho
      have z := (X _ _ ho).symm.trans htp
      cases z
    · cases hcD
  ca := fun X I k => dl_class C X I k
end
end PySem.W
namespace DL
open PySem L2 PySem.Spec PyProof.Rows
/-- isinstance(e, c), e the exception (with a dict of its own) that the suite holds -/
def rIsX (K : PySem.W.Frag) (cls : Value) (d : Option Addr) (a : Addr) : List V → Hp → VK → Prop := fun xs H Q => ∃ (c : V) (cv : Value) (b : Bool) (D dd : Addr) (fs : List (Str × V)),
  xs = [.ref a, c] ∧ cls = .ref D ∧ d = some dd ∧ H dd = some (.xd fs) ∧ ExcC K D ∧ (∀ u, RelV c u → u = cv) ∧ PySem.W.kitOne K (.ref D) cv = some b ∧ Q (.bl b) H
theorem call_isX {X : Cx} {a : Addr} {cls : Value} {d : Option Addr} {oe : Obj} {pn : List (Addr × Obj)} (hz : Zc cls d oe) (hf : ∃ vs, oe.data = .fields vs) : CallR (X.suite a ((a, oe) :: pn)) (.builtin "isinstance") (rIsX X.K cls d a) := by
  intro pins s σ H xs us Q I r h
  obtain ⟨c, cv, b, D, dd, fs, rfl, rfl, rfl, hdd, hC, hcv, e, q⟩ := h
  cases r with
  | cons rx rr =>
    cases rr with
    | cons rt rr =>
      cases rr
      cases rx
      have ec := hcv _ rt
      subst ec
      obtain ⟨hget, _⟩ := I.pin (a, oe) (List.mem_append.mpr (.inl List.mem_cons_self))
      obtain ⟨vs, hv⟩ := hf
      have hx : ObjOk X.prog X.w H s.heap dd (.xd fs) := I.hok dd _ hdd
      obtain ⟨mA, hns, _⟩ := hx
      obtain ⟨o1, ho1, _⟩ := lookIn_ns hns
      have J : PySem.W.InstAt s.heap a oe D (some o1) := ⟨hget, hz.1, by unfold PySem.W.notCls; rw [hv] <;> rfl, by rw [hz.2]; exact ho1⟩
      exact PySem.W.kia_one (PySem.W.dl_kitx hC) I.kIn J e (fun z => nomatch z) fun tk => ⟨.bl b, H, I.kept (t' := tk) fun _ _ z => z, rfl, q⟩
section
variable {K : PySem.W.Frag} {ρ : List Sl} {ta te : TE} {d : D} {P : Oc → Prop} {Ex : XK}
/-- what an __init__ that stores its arguments, each under its name, keeps -/
def spI (K : PySem.W.Frag) (C : Addr) (fls : List Str) : Sp := fun vs H Q _ => ∃ (a : Addr) (ys : List V), vs = .ref a :: ys ∧ ys.length = fls.length ∧ H a = some (exo a C none) ∧
  ∀ d H2, H d = none → d ≠ a → H2 a = some (exo a C (some d)) → H2 d = some (exd d (fls.zip ys).reverse) → (∀ b, b ≠ a → b ≠ d → H2 b = H b) → Q .non H2
/-- raise C(e, ..) -/
theorem st_raise {C : Addr} {fls : List Str} {t : TA} {ds : List D} (h : EA K t ρ ds) (hl : ds.length = fls.length) (hl2 : ds.length ≤ 1000) (q : P (.ex C (fls.zip ds).reverse)) :
    ST K Ex (fun _ σ H => tMkO C (spI K C fls) [] t σ H fun cls d H' => (fun (cls : Value) (d : Option Addr) (_ : L2.St) (H : Hp) => Ex cls d H) cls d σ H') ρ P := fun G0 H0 G H σ D E f =>
  h G0 H0 G H σ _ E fun vs G1 H1 e1 h1 => ⟨by rw [h1.length]; exact hl2, fun a ha => by
    rw [List.append_nil]
    refine ⟨a, vs, rfl, by rw [h1.length]; exact hl, upd_same, fun d H2 hd hda ea ed keep => ⟨rfl, d, (fls.zip vs).reverse, ea, ed, ?_, ?_⟩⟩
    · rw [upd_ne hda] at hd; exact hd
    · have hd1 : H1 d = none := by rw [upd_ne hda] at hd; exact hd
      have x : Ext G1 H1 (upd G1 d (.xd (fls.zip vs).reverse)) (upd (del H2 a) d (.xd (fls.zip vs).reverse)) := by
        have gd : G1 d = none := e1.gh.none hd1
        have ga : G1 a = none := e1.gh.none ha
        have old : ∀ b o, H1 b = some o → del H2 a b = some o := fun b o hb => by
          have n1 : b ≠ a := ne_of_none hb ha
          have n2 : b ≠ d := ne_of_none hb hd1
          rw [del_ne n1, keep b n1 n2, upd_ne n1]
          exact hb
        refine ⟨fun b o hb => by rw [upd_ne (ne_of_none hb gd)]; exact hb, fun b o hb => .inl (by rw [upd_ne (ne_of_none hb hd1)]; exact old b o hb), fun b o hb => ?_, fun b o hb _ n => by rw [upd_ne (ne_of_none hb hd1)]; exact n⟩
        by_cases hbd : b = d
        · subst hbd
          rw [upd_same] at hb
          cases hb
          exact .of upd_same
        · rw [upd_ne hbd] at hb
          have n1 : b ≠ a := ne_of_none hb ga
          exact (e1.gh b o hb).eq (by rw [upd_ne hbd, del_ne n1, keep b n1 hbd, upd_ne n1])
      refine f.ex C _ d _ _ _ q (E.ext.trans (e1.trans x)) upd_same ?_
      have h2 := h1.mono x.g
      have hlen := h1.length
      refine ⟨?_, ?_⟩
      · rw [List.map_reverse, List.map_reverse, List.map_fst_zip (by omega), List.map_fst_zip (by omega)]
      · rw [List.map_reverse, List.map_reverse, List.map_snd_zip (by omega), List.map_snd_zip (by omega)]
        exact h2.rev⟩
/-- a def that may raise: it answers d where R tells so, it raises C with the fields fl where Y tells so -/
def PX (K : PySem.W.Frag) (R : List D → D → Prop) (Y : List D → Addr → List (Str × D) → Prop) : Sp := fun vs H Q E => ∃ G ds, GH G H ∧ DqA K G vs ds ∧
  ((∃ d, R ds d ∧ ∀ v G' H', Ext G H G' H' → Dq K G' v d → Q v H') ∨ (∃ C fl, Y ds C fl ∧ ∀ dd fs G' H', Ext G H G' H' → G' dd = some (.xd fs) → DqF K G' fs fl → E (.ref C) (some dd) H'))
/-- the ends of an except suite: slot i is forgotten -/
def suiP (i : Nat) (P : Oc → Prop) : Oc → Prop
  | .nx ρ => P (.nx (ρ.set i .no))
  | .ct ρ => P (.ct (ρ.set i .no))
  | .bk ρ => P (.bk (ρ.set i .no))
  | .rt d => P (.rt d)
  | .ex _ _ => False
/-- try: x = f(..) / except X as n: suite -/
theorem st_tryAsg {R : List D → D → Prop} {Y : List D → Addr → List (Str × D) → Prop} {t : TA} {ds : List D} {i j : Nat} {c : Value} {ts : Addr → Value → Option Addr → TS} {Wout : WX} (h : EA K t ρ ds)
    (hr : (∃ d, R ds d ∧ P (.nx (ρ.set j (.fr d)))) ∨
      (∃ C fl, Y ds C fl ∧ PySem.W.exmOne K (.ref C) c = some true ∧ ∀ a dd, ST K E0 (ts a (.ref C) (some dd)) (ρ.set i (Sl.ex a dd fl)) (suiP i P))) :
    ST K Ex (fun D σ H => tAsg (tCallS (PX K R Y) (WE (wAs K c i ts Wout D)) t) (gName j) D σ H) ρ P := fun G0 H0 G H σ D E f =>
  h G0 H0 G H σ _ E fun vs G1 H1 e1 h1 => by
    have E1 := E.go e1
    rcases hr with ⟨d, hd, q⟩ | ⟨C, fl, hY, he, q⟩
    · exact ⟨G1, ds, e1.gh, h1, .inl ⟨d, hd, fun v G2 H2 x hv => f.nx _ _ G2 H2 q ((E1.go x).setF j hv)⟩⟩
    · refine ⟨G1, ds, e1.gh, h1, .inr ⟨C, fl, hY, fun dd fs G2 H2 x hx hf => ⟨true, he, fun _ a ha => ?_, fun z => nomatch z⟩⟩⟩
      exact q a dd G0 H0 G2 H2 _ _ ((E1.go x).setE i hx hf) ⟨fun ρ' σ' G' H' p E' => f.nx _ _ G' H' p (E'.setX i none), fun d v G' H' p x hd => f.rt d v G' H' p x hd,
        fun ρ' σ' G' H' p E' => f.bk _ _ G' H' p (E'.setX i none), fun ρ' σ' G' H' p E' => f.ct _ _ G' H' p (E'.setX i none), fun C fl dd fs G' H' p => p.elim⟩
/-- e.f of a caught exception -/
theorem ev_xf {n : Nat} {a dd C : Addr} {fl : List (Str × D)} {f : Str} (hn : ρ[n]? = some (Sl.ex a dd fl)) (hf : fl.lookup f = some d) : EV K (tXf a (.ref C) (some dd) C f (tVar n)) ρ d := fun G0 H0 G H σ Q E q => by
  obtain ⟨h1, fs, h2, h3⟩ := E.ex n a dd fl hn
  obtain ⟨v, h4, h5⟩ := h3.get hf
  rcases E.gh dd _ h2 with ⟨h6, _⟩ | ⟨z, _⟩ | z
  · exact ⟨_, h1, rfl, rfl, dd, fs, v, rfl, h6, h4, q v G H (.refl E.gh) h5⟩
  · cases z
  · exact z.elim
/-- isinstance(e, c) of a caught exception -/
theorem ev_isX {n : Nat} {a dd C : Addr} {fl : List (Str × D)} {c : V} {cv : Value} {b : Bool} (hn : ρ[n]? = some (Sl.ex a dd fl)) (hC : ExcC K C) (hc : ∀ u, RelV c u → u = cv) (hk : PySem.W.kitOne K (.ref C) cv = some b) :
    EV K (tCB (rIsX K (.ref C) (some dd) a) (tCons (tVar n) (tCons (tC c) tNil))) ρ (.bool b) := fun G0 H0 G H σ Q E q => by
  obtain ⟨h1, fs, h2, h3⟩ := E.ex n a dd fl hn
  rcases E.gh dd _ h2 with ⟨h6, _⟩ | ⟨z, _⟩ | z
  · exact ⟨_, h1, c, cv, b, C, dd, fs, rfl, rfl, rfl, h6, hC, hc, hk, q _ G H (.refl E.gh) (.bl b)⟩
  · cases z
  · exact z.elim
end
section
variable {P : Program} {w : World} {K : PySem.W.Frag} {mg : Str → Option Value} {base : Heap}
/-- an __init__ with one field -/
theorem fn_init1 {qual f1 : Str} {params : Arguments} {body : List Stmt} {scope : Scope} {f C : Addr} {fd : FuncData} {N : List Str} {k : Nat} (F : FunD K "__init__" qual params body scope [] [] f fd) (S : FnScope N ["self", f1] scope) (hN : N = (["self", f1] : List Str)) (T : OexC K C) (hno : PySem.W.findIn K (.ref C) f1 = some none)
    (hb : ∀ (cdv : Value) (A : Around) (outer : List PySem.Env) (s : Shared) (H : Hp) (E : XK), PSs (cxOf CX0 P w K mg base N qual scope f cdv A outer s H E) body (tOst K f1 (tVar 0) (tVar 1))) :
    FnOk P w K mg base CX0 (k + 1) f fd ["self", f1] (spI K C [f1]) := by
  subst hN
  refine F.ok S (fun vs H Q E h => ?_) (fun cdv A outer s H vs Q E hr h => ⟨_, hb cdv A outer s H E, ?_⟩)
  · obtain ⟨a, ys, rfl, hl, _⟩ := h
    rw [List.length_cons, hl]; rfl
  · obtain ⟨a, ys, rfl, hl, ha, q⟩ := h
    match ys, hl with
    | [y], _ =>
      refine ⟨_, rfl, _, rfl, a, C, rfl, T, hno, .inl ⟨ha, fun dx hd ne => ?_⟩⟩
      refine q dx _ hd ne upd_same (by rw [upd_ne ne, upd_same]; rfl) fun b h1 h2 => by rw [upd_ne h1, upd_ne h2]
/-- .. with two fields -/
theorem fn_init2 {qual f1 f2 : Str} {params : Arguments} {body : List Stmt} {scope : Scope} {f C : Addr} {fd : FuncData} {N : List Str} {k : Nat} (F : FunD K "__init__" qual params body scope [] [] f fd) (S : FnScope N ["self", f1, f2] scope) (hN : N = (["self", f1, f2] : List Str)) (T : OexC K C)
    (hno1 : PySem.W.findIn K (.ref C) f1 = some none) (hno2 : PySem.W.findIn K (.ref C) f2 = some none)
    (hb : ∀ (cdv : Value) (A : Around) (outer : List PySem.Env) (s : Shared) (H : Hp) (E : XK), PSs (cxOf CX0 P w K mg base N qual scope f cdv A outer s H E) body (tSeq (tOst K f1 (tVar 0) (tVar 1)) (tOst K f2 (tVar 0) (tVar 2)))) :
    FnOk P w K mg base CX0 (k + 1) f fd ["self", f1, f2] (spI K C [f1, f2]) := by
  subst hN
  refine F.ok S (fun vs H Q E h => ?_) (fun cdv A outer s H vs Q E hr h => ⟨_, hb cdv A outer s H E, ?_⟩)
  · obtain ⟨a, ys, rfl, hl, _⟩ := h
    rw [List.length_cons, hl]; rfl
  · obtain ⟨a, ys, rfl, hl, ha, q⟩ := h
    match ys, hl with
    | [y, z], _ =>
      refine ⟨_, rfl, _, rfl, a, C, rfl, T, hno1, .inl ⟨ha, fun dx hd ne => ?_⟩⟩
      refine ⟨_, rfl, _, rfl, a, C, rfl, T, hno2, .inr ⟨dx, _, upd_same, by rw [upd_ne ne, upd_same], by show 1 ≤ 900; decide, ?_⟩⟩
      refine q dx _ hd ne (by rw [upd_ne ne.symm, upd_same]) (by rw [upd_same]; rfl) fun b h1 h2 => by rw [upd_ne h2, upd_ne h1, upd_ne h2]
end
end DL
set_option maxHeartbeats 1000000
/-! DL8: what the top has left: a Hook with one more Bool; own exception classes. -/
namespace DL
open PySem PySem.Spec PyProof.Rows L2
/-! ### the Hook -/
structure SaysB (fa : List He.Fa) (fn : List He.DefD) (ex : PySem.W.Frag → Bool) (K : PySem.W.Frag) : Prop where
  d : He.SaysD fa fn K
  more : ex K = true
abbrev AlB : Type := He.AlD × Bool
def obsB (fa : List He.Fa) (fn : List He.DefD) (ex : PySem.W.Frag → Bool) (K : PySem.W.Frag) : AlB := (He.obsD fa fn K, ex K)
def obsBG (n : Nat) (fa : List He.Fa) (fn : List He.DefD) (ex : PySem.W.Frag → Bool) (g : Addr → Option Obj) : AlB := obsB fa fn ex (He.frG g (He.asD g n))
def hookB (n : Nat) (fa : List He.Fa) (fn : List He.DefD) (ex : PySem.W.Frag → Bool) : PySem.W.Hook where
  α := AlB
  obs := fun s => obsBG n fa fn ex s.heap.get?
  val := fun _ => (He.valD fn, true)
  says := fun _ h => ∃ K : PySem.W.Frag, K.In h ∧ SaysB fa fn ex K
  of := fun _ _ e => ⟨_, He.frG_in, ⟨congrArg (fun z : AlB => z.1) e, congrArg (fun z : AlB => z.2) e⟩⟩
  keeps := fun _ _ _ ⟨K, hK, c⟩ k => ⟨K, PySem.W.Frag.In.keeps hK k, c⟩
theorem obsBG_eq {n : Nat} {fa : List He.Fa} {fn : List He.DefD} {ex : PySem.W.Frag → Bool} {g : Addr → Option Obj} {s : Shared} (h : ∀ a, g a = s.heap.get? a) : obsBG n fa fn ex g = (hookB n fa fn ex).obs s := by
  have e : g = s.heap.get? := funext h
  rw [e] <;> rfl
/-! ### an own exception class -/
def oexB (K : PySem.W.Frag) (C : Addr) : Bool := match K.lookup C with
  | some ⟨.type "type", _, .cls cd, sl⟩ => (match cd.mro, sl.toList with
    | .ref C' :: bm, [_, _, _, _, some (.builtin n), _] => C' == C && (n == "ValueError.__new__" && (!cd.hasDel && (cd.hasDict && PySem.HandSPX.refsVE bm)))
    | _, _ => false)
  | _ => false
theorem oexB_ok {K : PySem.W.Frag} {C : Addr} (h : oexB K C = true) : ∃ nm q N bs bm sn sub ab col dd k0 k1 k2 k3 k5, K.lookup C = some (excClassObj nm q C N bs bm true sn sub ab col dd k0 k1 k2 k3 k5 "ValueError.__new__") ∧ PySem.HandSPX.refsVE bm = true := by
  unfold oexB at h
  split at h
  · rename_i dd cd sl hl
    split at h
    · rename_i C' bm a0 a1 a2 a3 n a5 hm hs
      obtain ⟨h1, h⟩ := Bool.and_eq_true_iff.mp h
      obtain ⟨h2, h⟩ := Bool.and_eq_true_iff.mp h
      obtain ⟨h3, h⟩ := Bool.and_eq_true_iff.mp h
      obtain ⟨h4, h5⟩ := Bool.and_eq_true_iff.mp h
      have e1 : C' = C := beq_iff_eq.mp h1
      have e2 : n = "ValueError.__new__" := beq_iff_eq.mp h2
      subst e1
      subst e2
      obtain ⟨nm, bs, mro, N, q, hd, sn, sub, ab, col, del⟩ := cd
      dsimp only at hm h3 h4
      subst hm
      subst h4
      have e3 : del = false := by
        cases del with
        | false => rfl
        | true => cases h3
      subst e3
      have e4 : sl = #[a0, a1, a2, a3, some (.builtin "ValueError.__new__"), a5] := by
        cases sl with
        | mk l => exact congrArg Array.mk hs
      subst e4
      exact ⟨nm, q, N, bs, bm, sn, sub, ab, col, dd, a0, a1, a2, a3, a5, hl, h5⟩
    · cases h
  · cases h
structure ExF (K : PySem.W.Frag) (C : Addr) : Prop where
  oex : OexC K C
  exc : ExcC K C
  xf : XfC K C
def exB (K : PySem.W.Frag) (C : Addr) : Bool := oexB K C && (He.eqO (PySem.W.findIn K (.ref C) "__setattr__") (some (some (.builtin "object.__setattr__"))) && (decide (PySem.W.subIn K (.ref C) (.type "BaseException") = some true) && (decide (PySem.W.typeIn K (.ref C) = some (.type "type")) && (PySem.W.keepIn K (.ref C) &&
  (He.eqO (PySem.W.findIn K (.ref C) "__getattribute__") (some (some (.builtin "BaseException.__getattribute__"))) && (He.eqO (PySem.W.findIn K (.ref C) "__getattr__") (some none) && (PySem.W.hasDictIn K C && (He.eqO (PySem.W.findIn K (.ref C) "__class__") (some (some (.builtin "object.__class__"))) &&
  (He.eqO (PySem.W.specialIn K (.builtin "object.__class__") "__get__") (some (some (.builtin "getset_descriptor.__get__"))) && (decide (PySem.W.takesIn K (.builtin "object.__class__") = some true) && decide (PySem.W.mroIn K C (.type "object") = some true)))))))))))
theorem exB_ok {K : PySem.W.Frag} {C : Addr} (h : exB K C = true) : ExF K C := by
  unfold exB at h
  obtain ⟨h1, h⟩ := Bool.and_eq_true_iff.mp h
  obtain ⟨h2, h⟩ := Bool.and_eq_true_iff.mp h
  obtain ⟨h3, h⟩ := Bool.and_eq_true_iff.mp h
  obtain ⟨h4, h⟩ := Bool.and_eq_true_iff.mp h
  obtain ⟨h5, h⟩ := Bool.and_eq_true_iff.mp h
  obtain ⟨h6, h⟩ := Bool.and_eq_true_iff.mp h
  obtain ⟨h7, h⟩ := Bool.and_eq_true_iff.mp h
  obtain ⟨h8, h⟩ := Bool.and_eq_true_iff.mp h
  obtain ⟨h9, h⟩ := Bool.and_eq_true_iff.mp h
  obtain ⟨h10, h⟩ := Bool.and_eq_true_iff.mp h
  obtain ⟨h11, h12⟩ := Bool.and_eq_true_iff.mp h
  have a3 := of_decide_eq_true h3
  exact ⟨⟨oexB_ok h1, He.eqO_ok h2, a3, of_decide_eq_true h4, h5⟩, ⟨He.eqO_ok h6, He.eqO_ok h7, a3, h8, He.eqO_ok h9, He.eqO_ok h10, of_decide_eq_true h11, of_decide_eq_true h12⟩, ⟨He.eqO_ok h6, He.eqO_ok h7, a3, h8⟩⟩
/-- its __init__ -/
def exI (K : PySem.W.Frag) (C : Addr) : Bool := He.eqO (PySem.W.findIn K (.ref C) "__init__") (some (some (.ref (He.ma K C "__init__")))) && decide (PySem.W.typeIn K (.ref (He.ma K C "__init__")) = some (.type "function"))
theorem exI_ok {K : PySem.W.Frag} {C : Addr} (h : exI K C = true) : PySem.W.findIn K (.ref C) "__init__" = some (some (.ref (He.ma K C "__init__"))) ∧ PySem.W.typeIn K (.ref (He.ma K C "__init__")) = some (.type "function") := by
  obtain ⟨h1, h2⟩ := Bool.and_eq_true_iff.mp h
  exact ⟨He.eqO_ok h1, of_decide_eq_true h2⟩
def kitR (K : PySem.W.Frag) (C E : Addr) (b : Bool) : Bool := decide (PySem.W.kitOne K (.ref C) (.ref E) = some b)
def kitT (K : PySem.W.Frag) (C : Addr) (n : String) (b : Bool) : Bool := decide (PySem.W.kitOne K (.ref C) (.type n) = some b)
theorem kitR_ok {K : PySem.W.Frag} {C E : Addr} {b : Bool} (h : kitR K C E b = true) : PySem.W.kitOne K (.ref C) (.ref E) = some b := of_decide_eq_true h
theorem kitT_ok {K : PySem.W.Frag} {C : Addr} {n : String} {b : Bool} (h : kitT K C n b = true) : PySem.W.kitOne K (.ref C) (.type n) = some b := of_decide_eq_true h
/-- all of a list of Bools -/
theorem allB {bs : List Bool} (h : bs.all id = true) (i : Nat) {b : Bool} (e : bs[i]? = some b) : b = true := List.all_eq_true.mp h b (List.mem_of_getElem? e)
end DL
set_option maxHeartbeats 4000000
namespace K05
open PySem PySem.Spec PyProof.Rows L2 DL
/-! printed by gen.py: the text by places, the names, the readings -/
def top (i : Nat) : Stmt := PySem.Challenge.pw_wallsaswished_k05_schemes_as_texts.main.body.getD i (.Pass ⟨0, 0, 0, 0⟩)
abbrev s_is_side : Stmt := top 13
abbrev N_is_side : List Str := ["thing"]
theorem sc_is_side : FnScope N_is_side ["thing"] (defScope s_is_side) := ⟨rfl, rfl, rfl, by decide +kernel, rfl, by decide +kernel, by decide +kernel⟩
abbrev s_name_fault : Stmt := top 14
abbrev N_name_fault : List Str := ["thing", "place", "sign"]
theorem sc_name_fault : FnScope N_name_fault ["thing"] (defScope s_name_fault) := ⟨rfl, rfl, rfl, by decide +kernel, rfl, by decide +kernel, by decide +kernel⟩
abbrev s_is_name : Stmt := top 15
abbrev N_is_name : List Str := ["thing"]
theorem sc_is_name : FnScope N_is_name ["thing"] (defScope s_is_name) := ⟨rfl, rfl, rfl, by decide +kernel, rfl, by decide +kernel, by decide +kernel⟩
abbrev s_ordered_pair : Stmt := top 17
abbrev N_ordered_pair : List Str := ["one", "other"]
theorem sc_ordered_pair : FnScope N_ordered_pair ["one", "other"] (defScope s_ordered_pair) := ⟨rfl, rfl, rfl, by decide +kernel, rfl, by decide +kernel, by decide +kernel⟩
abbrev s_make_scheme : Stmt := top 18
abbrev N_make_scheme : List Str := ["rooms", "touches", "pairs", "one", "other"]
theorem sc_make_scheme : FnScope N_make_scheme ["rooms", "touches"] (defScope s_make_scheme) := ⟨rfl, rfl, rfl, by decide +kernel, rfl, by decide +kernel, by decide +kernel⟩
abbrev s_text_lines : Stmt := top 20
abbrev N_text_lines : List Str := ["text"]
theorem sc_text_lines : FnScope N_text_lines ["text"] (defScope s_text_lines) := ⟨rfl, rfl, rfl, by decide +kernel, rfl, by decide +kernel, by decide +kernel⟩
abbrev s_words_of : Stmt := top 21
abbrev N_words_of : List Str := ["line", "word"]
theorem sc_words_of : FnScope N_words_of ["line"] (defScope s_words_of) := ⟨rfl, rfl, rfl, by decide +kernel, rfl, by decide +kernel, by decide +kernel⟩
abbrev s_passed_over : Stmt := top 22
abbrev N_passed_over : List Str := ["line", "words"]
theorem sc_passed_over : FnScope N_passed_over ["line"] (defScope s_passed_over) := ⟨rfl, rfl, rfl, by decide +kernel, rfl, by decide +kernel, by decide +kernel⟩
abbrev s_told_lines : Stmt := top 23
abbrev N_told_lines : List Str := ["text", "found", "place", "line"]
theorem sc_told_lines : FnScope N_told_lines ["text"] (defScope s_told_lines) := ⟨rfl, rfl, rfl, by decide +kernel, rfl, by decide +kernel, by decide +kernel⟩
abbrev s_line_behind : Stmt := top 24
abbrev N_line_behind : List Str := ["text"]
theorem sc_line_behind : FnScope N_line_behind ["text"] (defScope s_line_behind) := ⟨rfl, rfl, rfl, by decide +kernel, rfl, by decide +kernel, by decide +kernel⟩
abbrev s_scheme_touch_fault : Stmt := top 29
abbrev N_scheme_touch_fault : List Str := ["first", "others", "known", "name"]
theorem sc_scheme_touch_fault : FnScope N_scheme_touch_fault ["first", "others", "known"] (defScope s_scheme_touch_fault) := ⟨rfl, rfl, rfl, by decide +kernel, rfl, by decide +kernel, by decide +kernel⟩
abbrev s_scheme_rooms_fault : Stmt := top 28
abbrev N_scheme_rooms_fault : List Str := ["rooms", "known", "room"]
theorem sc_scheme_rooms_fault : FnScope N_scheme_rooms_fault ["rooms", "known"] (defScope s_scheme_rooms_fault) := ⟨rfl, rfl, rfl, by decide +kernel, rfl, by decide +kernel, by decide +kernel⟩
abbrev s_scheme_line_fault : Stmt := top 27
abbrev N_scheme_line_fault : List Str := ["words", "known", "begun", "is_rooms"]
theorem sc_scheme_line_fault : FnScope N_scheme_line_fault ["words", "known", "begun"] (defScope s_scheme_line_fault) := ⟨rfl, rfl, rfl, by decide +kernel, rfl, by decide +kernel, by decide +kernel⟩
abbrev s_read_scheme : Stmt := top 26
abbrev N_read_scheme : List Str := ["text", "known", "touches", "number", "words", "word", "room", "name"]
theorem sc_read_scheme : FnScope N_read_scheme ["text"] (defScope s_read_scheme) := ⟨rfl, rfl, rfl, by decide +kernel, rfl, by decide +kernel, by decide +kernel⟩
abbrev s_scheme_text : Stmt := top 31
abbrev N_scheme_text : List Str := ["scheme", "rooms", "pairs", "below", "room", "one", "other", "told"]
theorem sc_scheme_text : FnScope N_scheme_text ["scheme"] (defScope s_scheme_text) := ⟨rfl, rfl, rfl, by decide +kernel, rfl, by decide +kernel, by decide +kernel⟩
abbrev s_u_law_pool : Stmt := top 33
abbrev N_u_law_pool : List Str := ["script", "many", "cells", "cell", "rest", "pool", "k", "at", "mixed"]
theorem sc_u_law_pool : FnScope N_u_law_pool ["script", "many"] (defScope s_u_law_pool) := ⟨rfl, rfl, rfl, by decide +kernel, rfl, by decide +kernel, by decide +kernel⟩
abbrev s_u_law_names : Stmt := top 34
abbrev N_u_law_names : List Str := ["pool", "begin", "many", "names", "k", "pick", "name", "count"]
theorem sc_u_law_names : FnScope N_u_law_names ["pool", "begin", "many"] (defScope s_u_law_names) := ⟨rfl, rfl, rfl, by decide +kernel, rfl, by decide +kernel, by decide +kernel⟩
abbrev s_u_law_scheme : Stmt := top 35
abbrev N_u_law_scheme : List Str := ["rooms", "touches", "pairs", "one", "other"]
theorem sc_u_law_scheme : FnScope N_u_law_scheme ["rooms", "touches"] (defScope s_u_law_scheme) := ⟨rfl, rfl, rfl, by decide +kernel, rfl, by decide +kernel, by decide +kernel⟩
abbrev s_u_law_drawn : Stmt := top 36
abbrev N_u_law_drawn : List Str := ["rooms", "pool", "begin", "many", "touches", "names", "k"]
theorem sc_u_law_drawn : FnScope N_u_law_drawn ["rooms", "pool", "begin", "many"] (defScope s_u_law_drawn) := ⟨rfl, rfl, rfl, by decide +kernel, rfl, by decide +kernel, by decide +kernel⟩
abbrev s_u_law_text : Stmt := top 37
abbrev N_u_law_text : List Str := ["scheme", "lines", "room", "below", "one", "other"]
theorem sc_u_law_text : FnScope N_u_law_text ["scheme"] (defScope s_u_law_text) := ⟨rfl, rfl, rfl, by decide +kernel, rfl, by decide +kernel, by decide +kernel⟩
abbrev s_u_law_spaced : Stmt := top 38
abbrev N_u_law_spaced : List Str := ["words", "pick", "gap"]
theorem sc_u_law_spaced : FnScope N_u_law_spaced ["words", "pick"] (defScope s_u_law_spaced) := ⟨rfl, rfl, rfl, by decide +kernel, rfl, by decide +kernel, by decide +kernel⟩
abbrev s_u_law_written : Stmt := top 39
abbrev N_u_law_written : List Str := ["scheme", "rooms", "pool", "begin", "lines", "at", "k", "many", "others", "pick", "one", "other", "firsts", "turn", "row", "cut"]
theorem sc_u_law_written : FnScope N_u_law_written ["scheme", "rooms", "pool", "begin"] (defScope s_u_law_written) := ⟨rfl, rfl, rfl, by decide +kernel, rfl, by decide +kernel, by decide +kernel⟩
abbrev s_u_law_bare : Stmt := top 40
abbrev N_u_law_bare : List Str := ["thing", "place"]
theorem sc_u_law_bare : FnScope N_u_law_bare ["thing"] (defScope s_u_law_bare) := ⟨rfl, rfl, rfl, by decide +kernel, rfl, by decide +kernel, by decide +kernel⟩
abbrev s_u_law_rooms_word : Stmt := top 41
abbrev N_u_law_rooms_word : List Str := ["words", "rooms", "touched", "word", "new"]
theorem sc_u_law_rooms_word : FnScope N_u_law_rooms_word ["words", "rooms", "touched"] (defScope s_u_law_rooms_word) := ⟨rfl, rfl, rfl, by decide +kernel, rfl, by decide +kernel, by decide +kernel⟩
abbrev s_u_law_touch_word : Stmt := top 42
abbrev N_u_law_touch_word : List Str := ["words", "rooms", "sides", "names", "name"]
theorem sc_u_law_touch_word : FnScope N_u_law_touch_word ["words", "rooms"] (defScope s_u_law_touch_word) := ⟨rfl, rfl, rfl, by decide +kernel, rfl, by decide +kernel, by decide +kernel⟩
abbrev s_u_law_read : Stmt := top 43
abbrev N_u_law_read : List Str := ["text", "lines", "rooms", "touches", "touched", "k", "words", "word", "other"]
theorem sc_u_law_read : FnScope N_u_law_read ["text"] (defScope s_u_law_read) := ⟨rfl, rfl, rfl, by decide +kernel, rfl, by decide +kernel, by decide +kernel⟩
abbrev s_u_law_same : Stmt := top 44
abbrev N_u_law_same : List Str := ["told", "due", "k"]
theorem sc_u_law_same : FnScope N_u_law_same ["told", "due"] (defScope s_u_law_same) := ⟨rfl, rfl, rfl, by decide +kernel, rfl, by decide +kernel, by decide +kernel⟩
abbrev s_u_law_right : Stmt := top 45
abbrev N_u_law_right : List Str := ["text", "due", "told", "e"]
theorem sc_u_law_right : FnScope N_u_law_right ["text"] (defScope s_u_law_right) := ⟨rfl, rfl, rfl, by decide +kernel, rfl, by decide +kernel, by decide +kernel⟩
abbrev s_u_law_wrong_lines : Stmt := top 46
abbrev N_u_law_wrong_lines : List Str := ["rooms", "pick", "one", "side", "other", "lines"]
theorem sc_u_law_wrong_lines : FnScope N_u_law_wrong_lines ["rooms", "pick"] (defScope s_u_law_wrong_lines) := ⟨rfl, rfl, rfl, by decide +kernel, rfl, by decide +kernel, by decide +kernel⟩
abbrev s_u_law_wrong_heads : Stmt := top 47
abbrev N_u_law_wrong_heads : List Str := ["rooms", "pick", "one", "lines"]
theorem sc_u_law_wrong_heads : FnScope N_u_law_wrong_heads ["rooms", "pick"] (defScope s_u_law_wrong_heads) := ⟨rfl, rfl, rfl, by decide +kernel, rfl, by decide +kernel, by decide +kernel⟩
abbrev s_u_law_put : Stmt := top 48
abbrev N_u_law_put : List Str := ["lines", "at", "line"]
theorem sc_u_law_put : FnScope N_u_law_put ["lines", "at", "line"] (defScope s_u_law_put) := ⟨rfl, rfl, rfl, by decide +kernel, rfl, by decide +kernel, by decide +kernel⟩
abbrev s_u_law_noted : Stmt := top 49
abbrev N_u_law_noted : List Str := ["lines", "pool", "begin", "many", "notes", "k"]
theorem sc_u_law_noted : FnScope N_u_law_noted ["lines", "pool", "begin", "many"] (defScope s_u_law_noted) := ⟨rfl, rfl, rfl, by decide +kernel, rfl, by decide +kernel, by decide +kernel⟩
abbrev s_u_law_all_right : Stmt := top 50
abbrev N_u_law_all_right : List Str := ["rooms", "lines", "pool", "begin", "few", "head", "k", "wrong", "at", "bad", "heads"]
theorem sc_u_law_all_right : FnScope N_u_law_all_right ["rooms", "lines", "pool", "begin", "few"] (defScope s_u_law_all_right) := ⟨rfl, rfl, rfl, by decide +kernel, rfl, by decide +kernel, by decide +kernel⟩
abbrev s_law : Stmt := top 51
abbrev N_law : List Str := ["script", "pool", "small", "wide", "turn", "rooms", "scheme", "hub", "room", "text", "lines", "many", "few", "more", "texts"]
theorem sc_law : FnScope N_law ["script"] (defScope s_law) := ⟨rfl, rfl, rfl, by decide +kernel, rfl, by decide +kernel, by decide +kernel⟩
abbrev s_i_BadScheme : Stmt := inClass (top 6) 0
theorem sc_i_BadScheme : FnScope ["self", "at", "word"] ["self", "at", "word"] (defScope s_i_BadScheme) := ⟨rfl, rfl, rfl, by decide +kernel, rfl, by decide +kernel, by decide +kernel⟩
abbrev s_i_BadText : Stmt := inClass (top 7) 0
theorem sc_i_BadText : FnScope ["self", "line", "word"] ["self", "line", "word"] (defScope s_i_BadText) := ⟨rfl, rfl, rfl, by decide +kernel, rfl, by decide +kernel, by decide +kernel⟩
abbrev s_i_BadCommand : Stmt := inClass (top 8) 0
theorem sc_i_BadCommand : FnScope ["self", "line"] ["self", "line"] (defScope s_i_BadCommand) := ⟨rfl, rfl, rfl, by decide +kernel, rfl, by decide +kernel, by decide +kernel⟩
end K05
set_option maxHeartbeats 0
namespace K05
open PySem PySem.Spec PyProof.Rows L2 DL
def d_is_side : He.DefD := ⟨("is_side", none), "is_side", "is_side", defArgs s_is_side, defBody s_is_side, defScope s_is_side, [], []⟩
def d_name_fault : He.DefD := ⟨("name_fault", none), "name_fault", "name_fault", defArgs s_name_fault, defBody s_name_fault, defScope s_name_fault, [], []⟩
def d_is_name : He.DefD := ⟨("is_name", none), "is_name", "is_name", defArgs s_is_name, defBody s_is_name, defScope s_is_name, [], []⟩
def d_ordered_pair : He.DefD := ⟨("ordered_pair", none), "ordered_pair", "ordered_pair", defArgs s_ordered_pair, defBody s_ordered_pair, defScope s_ordered_pair, [], []⟩
def d_make_scheme : He.DefD := ⟨("make_scheme", none), "make_scheme", "make_scheme", defArgs s_make_scheme, defBody s_make_scheme, defScope s_make_scheme, [], []⟩
def d_text_lines : He.DefD := ⟨("text_lines", none), "text_lines", "text_lines", defArgs s_text_lines, defBody s_text_lines, defScope s_text_lines, [], []⟩
def d_words_of : He.DefD := ⟨("words_of", none), "words_of", "words_of", defArgs s_words_of, defBody s_words_of, defScope s_words_of, [], []⟩
def d_passed_over : He.DefD := ⟨("passed_over", none), "passed_over", "passed_over", defArgs s_passed_over, defBody s_passed_over, defScope s_passed_over, [], []⟩
def d_told_lines : He.DefD := ⟨("told_lines", none), "told_lines", "told_lines", defArgs s_told_lines, defBody s_told_lines, defScope s_told_lines, [], []⟩
def d_line_behind : He.DefD := ⟨("line_behind", none), "line_behind", "line_behind", defArgs s_line_behind, defBody s_line_behind, defScope s_line_behind, [], []⟩
def d_scheme_touch_fault : He.DefD := ⟨("scheme_touch_fault", none), "scheme_touch_fault", "scheme_touch_fault", defArgs s_scheme_touch_fault, defBody s_scheme_touch_fault, defScope s_scheme_touch_fault, [], []⟩
def d_scheme_rooms_fault : He.DefD := ⟨("scheme_rooms_fault", none), "scheme_rooms_fault", "scheme_rooms_fault", defArgs s_scheme_rooms_fault, defBody s_scheme_rooms_fault, defScope s_scheme_rooms_fault, [], []⟩
def d_scheme_line_fault : He.DefD := ⟨("scheme_line_fault", none), "scheme_line_fault", "scheme_line_fault", defArgs s_scheme_line_fault, defBody s_scheme_line_fault, defScope s_scheme_line_fault, [], []⟩
def d_read_scheme : He.DefD := ⟨("read_scheme", none), "read_scheme", "read_scheme", defArgs s_read_scheme, defBody s_read_scheme, defScope s_read_scheme, [], []⟩
def d_scheme_text : He.DefD := ⟨("scheme_text", none), "scheme_text", "scheme_text", defArgs s_scheme_text, defBody s_scheme_text, defScope s_scheme_text, [], []⟩
def d_u_law_pool : He.DefD := ⟨("_law_pool", none), "_law_pool", "_law_pool", defArgs s_u_law_pool, defBody s_u_law_pool, defScope s_u_law_pool, [], []⟩
def d_u_law_names : He.DefD := ⟨("_law_names", none), "_law_names", "_law_names", defArgs s_u_law_names, defBody s_u_law_names, defScope s_u_law_names, [], []⟩
def d_u_law_scheme : He.DefD := ⟨("_law_scheme", none), "_law_scheme", "_law_scheme", defArgs s_u_law_scheme, defBody s_u_law_scheme, defScope s_u_law_scheme, [], []⟩
def d_u_law_drawn : He.DefD := ⟨("_law_drawn", none), "_law_drawn", "_law_drawn", defArgs s_u_law_drawn, defBody s_u_law_drawn, defScope s_u_law_drawn, [], []⟩
def d_u_law_text : He.DefD := ⟨("_law_text", none), "_law_text", "_law_text", defArgs s_u_law_text, defBody s_u_law_text, defScope s_u_law_text, [], []⟩
def d_u_law_spaced : He.DefD := ⟨("_law_spaced", none), "_law_spaced", "_law_spaced", defArgs s_u_law_spaced, defBody s_u_law_spaced, defScope s_u_law_spaced, [], []⟩
def d_u_law_written : He.DefD := ⟨("_law_written", none), "_law_written", "_law_written", defArgs s_u_law_written, defBody s_u_law_written, defScope s_u_law_written, [], []⟩
def d_u_law_bare : He.DefD := ⟨("_law_bare", none), "_law_bare", "_law_bare", defArgs s_u_law_bare, defBody s_u_law_bare, defScope s_u_law_bare, [], []⟩
def d_u_law_rooms_word : He.DefD := ⟨("_law_rooms_word", none), "_law_rooms_word", "_law_rooms_word", defArgs s_u_law_rooms_word, defBody s_u_law_rooms_word, defScope s_u_law_rooms_word, [], []⟩
def d_u_law_touch_word : He.DefD := ⟨("_law_touch_word", none), "_law_touch_word", "_law_touch_word", defArgs s_u_law_touch_word, defBody s_u_law_touch_word, defScope s_u_law_touch_word, [], []⟩
def d_u_law_read : He.DefD := ⟨("_law_read", none), "_law_read", "_law_read", defArgs s_u_law_read, defBody s_u_law_read, defScope s_u_law_read, [], []⟩
def d_u_law_same : He.DefD := ⟨("_law_same", none), "_law_same", "_law_same", defArgs s_u_law_same, defBody s_u_law_same, defScope s_u_law_same, [], []⟩
def d_u_law_right : He.DefD := ⟨("_law_right", none), "_law_right", "_law_right", defArgs s_u_law_right, defBody s_u_law_right, defScope s_u_law_right, [], []⟩
def d_u_law_wrong_lines : He.DefD := ⟨("_law_wrong_lines", none), "_law_wrong_lines", "_law_wrong_lines", defArgs s_u_law_wrong_lines, defBody s_u_law_wrong_lines, defScope s_u_law_wrong_lines, [], []⟩
def d_u_law_wrong_heads : He.DefD := ⟨("_law_wrong_heads", none), "_law_wrong_heads", "_law_wrong_heads", defArgs s_u_law_wrong_heads, defBody s_u_law_wrong_heads, defScope s_u_law_wrong_heads, [], []⟩
def d_u_law_put : He.DefD := ⟨("_law_put", none), "_law_put", "_law_put", defArgs s_u_law_put, defBody s_u_law_put, defScope s_u_law_put, [], []⟩
def d_u_law_noted : He.DefD := ⟨("_law_noted", none), "_law_noted", "_law_noted", defArgs s_u_law_noted, defBody s_u_law_noted, defScope s_u_law_noted, [], []⟩
def d_u_law_all_right : He.DefD := ⟨("_law_all_right", none), "_law_all_right", "_law_all_right", defArgs s_u_law_all_right, defBody s_u_law_all_right, defScope s_u_law_all_right, [], []⟩
def d_law : He.DefD := ⟨("law", none), "law", "law", defArgs s_law, defBody s_law, defScope s_law, [], []⟩
def d_i_BadScheme : He.DefD := ⟨("BadScheme", some "__init__"), "__init__", "BadScheme.__init__", defArgs s_i_BadScheme, defBody s_i_BadScheme, defScope s_i_BadScheme, [], []⟩
def d_i_BadText : He.DefD := ⟨("BadText", some "__init__"), "__init__", "BadText.__init__", defArgs s_i_BadText, defBody s_i_BadText, defScope s_i_BadText, [], []⟩
def d_i_BadCommand : He.DefD := ⟨("BadCommand", some "__init__"), "__init__", "BadCommand.__init__", defArgs s_i_BadCommand, defBody s_i_BadCommand, defScope s_i_BadCommand, [], []⟩
def fn0 : List He.DefD := [d_is_side, d_name_fault, d_is_name, d_ordered_pair, d_make_scheme, d_text_lines, d_words_of, d_passed_over, d_told_lines, d_line_behind, d_scheme_touch_fault, d_scheme_rooms_fault, d_scheme_line_fault, d_read_scheme, d_scheme_text, d_u_law_pool, d_u_law_names, d_u_law_scheme, d_u_law_drawn, d_u_law_text, d_u_law_spaced, d_u_law_written, d_u_law_bare, d_u_law_rooms_word]
def fn1 : List He.DefD := [d_u_law_touch_word, d_u_law_read, d_u_law_same, d_u_law_right, d_u_law_wrong_lines, d_u_law_wrong_heads, d_u_law_put, d_u_law_noted, d_u_law_all_right, d_law, d_i_BadScheme, d_i_BadText, d_i_BadCommand]
def fn : List He.DefD := fn0 ++ fn1
def fa0 : List He.Fa := [.glo "is_side", .glo "name_fault", .glo "is_name", .glo "ordered_pair", .glo "make_scheme", .glo "text_lines", .glo "words_of", .glo "passed_over", .glo "told_lines", .glo "line_behind", .glo "scheme_touch_fault", .glo "scheme_rooms_fault", .glo "scheme_line_fault", .glo "read_scheme", .glo "scheme_text", .glo "_law_pool", .glo "_law_names", .glo "_law_scheme", .glo "_law_drawn", .glo "_law_text", .glo "_law_spaced", .glo "_law_written", .glo "_law_bare", .glo "_law_rooms_word"]
def fa1 : List He.Fa := [.glo "_law_touch_word", .glo "_law_read", .glo "_law_same", .glo "_law_right", .glo "_law_wrong_lines", .glo "_law_wrong_heads", .glo "_law_put", .glo "_law_noted", .glo "_law_all_right", .glo "law", .glo "PlanError", .glo "DataError", .glo "TextError", .glo "BadScheme", .glo "BadText", .glo "BadCommand", .free "ValueError", .free "bool", .free "enumerate", .free "int", .free "isinstance", .free "len", .free "list", .free "max"]
def fa2 : List He.Fa := [.free "range", .free "set", .free "sorted", .free "str", .free "tuple", .int "NAME_MOST" (8), .int "ROOMS_MOST" (40), .glo "SIDES", .str "LETTERS" "abcdefghijklmnopqrstuvwxyz", .str "FIGURES" "0123456789", .noat "BadScheme" "at", .noat "BadScheme" "word", .noat "BadText" "line", .noat "BadText" "word", .noat "BadCommand" "line", .exm "BadText" "PlanError" true]
def fa : List He.Fa := fa0 ++ fa1 ++ fa2
def ex (K : PySem.W.Frag) : Bool := [He.tupB K "SIDES" [.str "E", .str "N", .str "W", .str "S"], exB K (He.ga K "PlanError"), exB K (He.ga K "DataError"), exB K (He.ga K "TextError"), exB K (He.ga K "BadScheme"), exB K (He.ga K "BadText"), exB K (He.ga K "BadCommand"), exI K (He.ga K "BadScheme"), exI K (He.ga K "BadText"), exI K (He.ga K "BadCommand"), kitR K (He.ga K "BadText") (He.ga K "BadText") true, kitR K (He.ga K "BadText") (He.ga K "TextError") true, kitT K (He.ga K "BadText") "ValueError" true, kitR K (He.ga K "BadText") (He.ga K "DataError") false, kitR K (He.ga K "BadText") (He.ga K "BadScheme") false, kitR K (He.ga K "BadText") (He.ga K "BadCommand") false].all id
def loose0 : List PySem.Str := ["NAME_MOST", "ROOMS_MOST", "__name__", "PlanError", "DataError", "TextError", "BadScheme", "BadText", "BadCommand", "SIDES", "LETTERS", "FIGURES", "is_side", "name_fault", "is_name", "ordered_pair", "make_scheme", "text_lines", "words_of", "passed_over", "told_lines", "line_behind", "read_scheme", "scheme_line_fault"]
def loose1 : List PySem.Str := ["scheme_rooms_fault", "scheme_touch_fault", "scheme_text", "_law_pool", "_law_names", "_law_scheme", "_law_drawn", "_law_text", "_law_spaced", "_law_written", "_law_bare", "_law_rooms_word", "_law_touch_word", "_law_read", "_law_same", "_law_right", "_law_wrong_lines", "_law_wrong_heads", "_law_put", "_law_noted", "_law_all_right"]
def loose : List PySem.Str := loose0 ++ loose1
abbrev R : PySem.W.OpenRow := PySem.W.OpenLaw.row PySem.Challenge.rw_wallsaswished_k05_schemes_as_texts
abbrev hk : PySem.W.Hook := hookB 5 fa fn ex
def ob (s : PySem.W.SharedT) : AlB := obsBG 5 fa fn ex (HandSHeadRun.getT s)
theorem ob_eq (s : PySem.W.SharedT) : ob s = hk.obs s.abs := obsBG_eq (HandSHeadRun.getT_eq s)
theorem run (w : World) : HandSHeadRun.RunEq R (PySem.W.view R.prog [51]) hk ob 6000 loose w := by
  intro os
  kernel_rfl
end K05
set_option maxHeartbeats 1000000
/-! DL9: short words for derivations and readings. -/
namespace DL
open PySem PySem.Spec PyProof.Rows L2
theorem b_len : bootBuiltins "len" = some (.builtin "len") := by decide +kernel
theorem b_isinstance : bootBuiltins "isinstance" = some (.builtin "isinstance") := by decide +kernel
theorem b_sorted : bootBuiltins "sorted" = some (.builtin "sorted") := by decide +kernel
theorem b_int : bootBuiltins "int" = some (.type "int") := by decide +kernel
theorem b_str : bootBuiltins "str" = some (.type "str") := by decide +kernel
theorem b_bool : bootBuiltins "bool" = some (.type "bool") := by decide +kernel
theorem b_tuple : bootBuiltins "tuple" = some (.type "tuple") := by decide +kernel
theorem b_list : bootBuiltins "list" = some (.type "list") := by decide +kernel
theorem b_ValueError : bootBuiltins "ValueError" = some (.type "ValueError") := by decide +kernel
/-- a def of the top keeps sp, at level k -/
structure Okd (P : Program) (w : World) (K : PySem.W.Frag) (mg : Str → Option Value) (base : Heap) (CX : CXT) (k : Nat) (x : Str) (ps : List Str) (sp : Sp) : Prop where
  m : mg x = some (.ref (He.ga K x))
  ok : ∃ fd, FnOk P w K mg base CX k (He.ga K x) fd ps sp ∧ Binds K fd ps [] ∧ PySem.W.keepIn K (.ref (He.ga K x)) = true
section
variable {X : Cx} {pos p : Pos}
theorem pe_callD {k j : Nat} {x : Str} {ps : List Str} {sp : Sp} {e : Expr} {es : List Expr} {t : TA} (O : Okd X.prog X.w X.K X.mg X.base CX0 k x ps sp) (hr : Room j X.A) (hk : k ≤ j) (ha : PA X (e :: es) t) (hg : Gl X x := by rfl)
    (hdb : (x == ("__debug__" : Str)) = false := by decide) (he : starEach (e :: es) X.env = (false, eval e X.env) :: starEach es X.env := by rfl) (hpl : (backTo pos (starEach es X.env)).any (·.1) = false := by rfl) :
    PE X (.Call (.Name x p) (e :: es) [] pos) (tCall sp [] E0 t) := by
  obtain ⟨m, fd, F, b, kp⟩ := O
  exact pe_call F (hr.mono hk) hg m kp b .nil pass0 ha hdb he hpl
theorem pe_gint {x : Str} {i : Int} (hm : ∃ t, X.mg x = some (.int i t)) (hg : Gl X x := by rfl) (hd : (x == ("__debug__" : Str)) = false := by decide) : PE X (.Name x pos) (tC (.int i)) := by
  obtain ⟨t, hm⟩ := hm
  exact pe_glob hg hm ⟨t, rfl⟩ hd
theorem pe_gstr {x z : Str} (hm : ∃ t, X.mg x = some (.str z t)) (hg : Gl X x := by rfl) (hd : (x == ("__debug__" : Str)) = false := by decide) : PE X (.Name x pos) (tC (.str z)) := by
  obtain ⟨t, hm⟩ := hm
  exact pe_glob hg hm ⟨t, rfl⟩ hd
theorem pe_gref {x : Str} {a : Addr} (hm : X.mg x = some (.ref a)) (hg : Gl X x := by rfl) (hd : (x == ("__debug__" : Str)) = false := by decide) : PE X (.Name x pos) (tC (.ref a)) := pe_glob hg hm rfl hd
def tTr (K : PySem.W.Frag) (ta : TE) : TT := fun σ H Q => ta σ H fun x H' => ∃ k, TruV K x H' k ∧ Q k H'
theorem pt_tr {e : Expr} {te : TE} (h : PE X e te) (he : ∀ whole, isTrue e X.env whole = (do let v ← whole; standAt e.pos; holding [v] (truthy v)) := by intro _; rfl) : PT X e (tTr X.K te) := pt_truth h he
def rJoinU (K : PySem.W.Frag) : V → List V → Hp → VK → Prop := fun x xs H Q => ∃ a p, ∃ ys : List Str, x = .str a ∧ xs = [.ref p] ∧ (SqL K H p (ys.map V.str) ∨ SqT K H p (ys.map V.str)) ∧
  (ys.map (·.length)).sum + ys.length * a.length ≤ 16777216 ∧ Q (.str (Txt.join a ys)) H
theorem pe_joinU {o e : Expr} {to te : TE} {apos : Pos} (ho : PE X o to) (he : PE X e te) (hs : starEach [e] X.env = [(false, eval e X.env)] := by rfl) (hbase : attributeBase o "join" X.env (eval o X.env) = eval o X.env := by rfl) (hline : (apos.endLine == pos.line) = true := by rfl) :
    PE X (.Call (.Attribute o "join" apos) [e] [] pos) (tM1 (rJoinU X.K) to te) := pe_join ho he hs hbase hline
/-- raise C(e, ..) of an own class whose __init__ stores its arguments -/
def tRaiseO (K : PySem.W.Frag) (C : Addr) (fls : List Str) (Ex : XK) (t : TA) : TS := fun _ σ H => tMkO C (spI K C fls) [] t σ H fun cls d H' => (fun (cls : Value) (d : Option Addr) (_ : L2.St) (H : Hp) => Ex cls d H) cls d σ H'
/-- what the walk asks of such a class: where it stands, its word -/
structure ExOk (P : Program) (w : World) (K : PySem.W.Frag) (mg : Str → Option Value) (base : Heap) (k : Nat) (x : Str) (fls : List Str) : Prop where
  m : mg x = some (.ref (He.ga K x))
  ef : ExF K (He.ga K x)
  ini : PySem.W.findIn K (.ref (He.ga K x)) "__init__" = some (some (.ref (He.ma K (He.ga K x) "__init__"))) ∧ PySem.W.typeIn K (.ref (He.ma K (He.ga K x) "__init__")) = some (.type "function")
  ok : ∃ fd, FnOk P w K mg base CX0 k (He.ma K (He.ga K x) "__init__") fd ("self" :: fls) (spI K (He.ga K x) fls) ∧ Binds K fd ("self" :: fls) []
/-- try: x = f(..) / except C as n: suite; nothing else leaves -/
def tTryA (K : PySem.W.Frag) (c : Value) (i : Nat) (ts : Addr → Value → Option Addr → TS) (sp : Sp) (t : TA) (j : Nat) : TS := fun D σ H => tAsg (tCallS sp (WE (wAs K c i ts (fun _ _ _ _ => False) D)) t) (gName j) D σ H
end
section
variable {K : PySem.W.Frag} {Ex : XK} {ρ : List Sl} {ta tb te : TE} {tt : TT} {t u v : TS} {d : D} {P : Oc → Prop}
theorem st_raiseO {C : Addr} {fls : List Str} {t : TA} {ds : List D} (h : EA K t ρ ds) (hl : ds.length = fls.length) (hl2 : ds.length ≤ 1000) (q : P (.ex C (fls.zip ds).reverse)) : ST K Ex (tRaiseO K C fls Ex t) ρ P := st_raise h hl hl2 q
theorem st_tryA {R : List D → D → Prop} {Y : List D → Addr → List (Str × D) → Prop} {t : TA} {ds : List D} {i j : Nat} {c : Value} {ts : Addr → Value → Option Addr → TS} (h : EA K t ρ ds)
    (hr : (∃ d, R ds d ∧ P (.nx (ρ.set j (.fr d)))) ∨
      (∃ C fl, Y ds C fl ∧ PySem.W.exmOne K (.ref C) c = some true ∧ ∀ a dd, ST K E0 (ts a (.ref C) (some dd)) (ρ.set i (Sl.ex a dd fl)) (suiP i P))) :
    ST K Ex (tTryA K c i ts (PX K R Y) t j) ρ P := st_tryAsg h hr
theorem q_asg {i : Nat} (h : EV K te ρ d) (q : ST K Ex u (ρ.set i (.fr d)) P) : ST K Ex (tSeq (tAsg te (gName i)) u) ρ P := st_seq (st_asg h q)
theorem q_asgN {i : Nat} (h : EVN K te ρ d) (q : ST K Ex u (ρ.set i (.ow d)) P) : ST K Ex (tSeq (tAsg te (gName i)) u) ρ P := st_seq (st_asgN h q)
theorem q_asgG {g : TG} {ρ' : List Sl} {ts : List Nat} (h : EV K te ρ d) (hg : GT K g ρ d ρ' ts) (q : ST K Ex u ρ' P) : ST K Ex (tSeq (tAsg te g) u) ρ P := st_seq (st_asgG h hg q)
theorem q_append {n : Nat} {ds : List D} (hi : ρ[n]? = some (.ow (.list ds))) (h : EV K te ρ d) (hz : ds.length < 16000000) (q : ST K Ex u (ρ.set n (.ow (.list (ds ++ [d])))) P) :
    ST K Ex (tSeq (tDrop (tBM K "list" rAppend (tVar n) (tCons te tNil))) u) ρ P := st_seq (st_append hi h hz q)
theorem q_augO {n : Nat} {ds es : List D} (hi : ρ[n]? = some (.ow (.list ds))) (h : EV K te ρ (.list es)) (hz : ds.length + es.length ≤ 16000000) (q : ST K Ex u (ρ.set n (.ow (.list (ds ++ es)))) P) :
    ST K Ex (tSeq (tAug n te rIAddU) u) ρ P := st_seq (st_augO hi h hz q)
/-- if c: t (no else), then u -/
theorem q_when {b : Bool} (h : ET K tt ρ b) (h1 : b = true → ST K Ex t ρ (seqP K Ex u P)) (h2 : b = false → ST K Ex u ρ P) : ST K Ex (tSeq (tIfS tt t tNext) u) ρ P := st_seq (st_if h h1 fun hb => st_next (h2 hb))
theorem q_if {b : Bool} (h : ET K tt ρ b) (h1 : b = true → ST K Ex t ρ (seqP K Ex u P)) (h2 : b = false → ST K Ex v ρ (seqP K Ex u P)) : ST K Ex (tSeq (tIfS tt t v) u) ρ P := st_seq (st_if h h1 h2)
theorem et_or1 {tu : TT} (h : ET K tt ρ true) : ET K (tOr tt tu) ρ true := fun G0 H0 G H σ Q E q => h G0 H0 G H σ _ E fun G1 H1 e1 => q G1 H1 e1
theorem et_and0 {tu : TT} (h : ET K tt ρ false) : ET K (tAnd tt tu) ρ false := fun G0 H0 G H σ Q E q => h G0 H0 G H σ _ E fun G1 H1 e1 => q G1 H1 e1
theorem ev_or1 (h : EV K ta ρ (.bool true)) : EV K (tOrV ta tb) ρ (.bool true) := ev_orV (b := true) h (fun z => nomatch z)
theorem ev_and0 (h : EV K ta ρ (.bool false)) : EV K (tAndV ta tb) ρ (.bool false) := ev_andV (b := true) h (fun z => nomatch z)
theorem ev_if1 (h : ET K tt ρ true) (h1 : EV K ta ρ d) : EV K (tIf tt ta tb) ρ d := ev_if h (fun _ => h1) (fun z => nomatch z)
theorem ev_if0 (h : ET K tt ρ false) (h1 : EV K tb ρ d) : EV K (tIf tt ta tb) ρ d := ev_if h (fun z => nomatch z) (fun _ => h1)
theorem q_yes (h : ET K tt ρ true) (h1 : ST K Ex t ρ (seqP K Ex u P)) : ST K Ex (tSeq (tIfS tt t v) u) ρ P := q_if h (fun _ => h1) (fun z => nomatch z)
theorem q_no (h : ET K tt ρ false) (h1 : ST K Ex u ρ P) : ST K Ex (tSeq (tIfS tt t tNext) u) ρ P := q_when h (fun z => nomatch z) (fun _ => h1)
/-- a word between two statements -/
def cutP (M : List Sl → Prop) (P : Oc → Prop) : Oc → Prop
  | .nx ρ => M ρ
  | o => P o
theorem q_cut (M : List Sl → Prop) (h : ST K Ex t ρ (cutP M P)) (k : ∀ ρ', M ρ' → ST K Ex u ρ' P) : ST K Ex (tSeq t u) ρ P := st_seq (h.mono fun o p => match o, p with
  | .nx ρ', p => k ρ' p
  | .rt _, p => p
  | .bk _, p => p
  | .ct _, p => p
  | .ex _ _, p => p)
/-- if c: x = e (no else): the value of x behind it -/
theorem q_ifAsg {b : Bool} {i : Nat} {d' : D} (hi : ρ[i]? = some (.fr d')) (h : ET K tt ρ b) (h1 : b = true → EV K te ρ d) (q : ST K Ex u (ρ.set i (.fr (if b = true then d else d'))) P) : ST K Ex (tSeq (tIfS tt (tAsg te (gName i)) tNext) u) ρ P := by
  refine st_seq (st_if h (fun hb => st_asg (h1 hb) ?_) fun hb => st_next ?_)
  · rw [if_pos hb] at q
    exact q
  · rw [if_neg (by rw [hb]; exact Bool.false_ne_true)] at q
    have e : ρ.set i (.fr d') = ρ := by
      refine List.ext_getElem? fun k => ?_
      by_cases z : i = k
      · subst z
        rw [List.getElem?_set_self (List.getElem?_eq_some_iff.mp hi).1, hi]
      · rw [List.getElem?_set_ne z]
    rw [e] at q
    exact q
theorem q_for {wi : TI} {g : TG} {n : Nat} {item : Nat → D} (hi : EI K wi ρ n item) (I : Nat → List Sl → Prop) (h0 : I 0 ρ)
    (hs : ∀ i ρ1, i < n → I i ρ1 → ∃ ρ2 ts, GT K g ρ1 (item i) ρ2 ts ∧ ST K Ex t ρ2 (loopP (I (i + 1)) (seqP K Ex u P)))
    (hd : ∀ ρ1, I n ρ1 → ST K Ex u ρ1 P) : ST K Ex (tSeq (tFor wi g t) u) ρ P := st_seq (st_for hi I h0 hs hd)
theorem q_frz {i : Nat} (hi : ρ[i]? = some (.ow d)) (h : ST K Ex t (ρ.set i (.fr d)) P) : ST K Ex t ρ P := st_frz hi h
/-- what a def answers, told by a word about the answer -/
def PQ (K : PySem.W.Frag) (Pre : List D → Prop) (Post : List D → D → Prop) : Sp := fun vs H Q _ => ∃ G ds, GH G H ∧ DqA K G vs ds ∧ Pre ds ∧ ∀ d v G' H', Post ds d → Ext G H G' H' → Dq K G' v d → Q v H'
/-! tests -/
def truD : D → Bool
  | .none => false
  | .bool b => b
  | .int i => i != 0
  | .str s => (s.length : Int) != 0
  | .list ds => !ds.isEmpty
  | .tuple ds => !ds.isEmpty
  | .dict _ => false
theorem et_tr (h : EV K ta ρ d) (nd : isDicD d = false) (hz : ∀ s, d = .str s → s.length ≤ sizeLine) : ET K (tTr K ta) ρ (truD d) := fun G0 H0 G H σ Q E q => h G0 H0 G H σ _ E fun v G1 H1 e1 h1 => by
  refine ⟨truD d, ?_, q G1 H1 e1⟩
  cases h1 with
  | non => exact rfl
  | bl b => exact rfl
  | int i => exact rfl
  | str x => exact ⟨hz x rfl, rfl⟩
  | @lst a xs ds ha hr =>
    refine .inl ⟨xs, SqL.of (e1.gh.lst ha), ?_⟩
    have := hr.length
    cases xs <;> cases ds <;> first | rfl | cases this
  | @tup a xs ds ha hr =>
    refine .inr (.inl ⟨xs, e1.gh.t ha, ?_⟩)
    have := hr.length
    cases xs <;> cases ds <;> first | rfl | cases this
  | dK _ _ => cases nd
  | dT _ _ => cases nd
  | scr _ => cases nd
  | sta _ _ => cases nd
  | opq _ => cases nd
  | raw _ => cases nd
theorem et_trB {b : Bool} (h : EV K ta ρ (.bool b)) : ET K (tTr K ta) ρ b := et_tr h rfl (fun _ z => nomatch z)
theorem et_trO {n : Nat} {ds : List D} (hi : ρ[n]? = some (.ow (.list ds))) : ET K (tTr K (tVar n)) ρ (!ds.isEmpty) := fun G0 H0 G H σ Q E q => by
  obtain ⟨l, vs, h1, h2, h3⟩ := own_look E hi
  refine ⟨_, h1, _, .inl ⟨vs, SqL.of h2, rfl⟩, ?_⟩
  have e : (!vs.isEmpty) = (!ds.isEmpty) := by
    have := h3.length
    cases vs <;> cases ds <;> first | rfl | cases this
  rw [e]
  exact q G H (.refl E.gh)
/-! texts -/
theorem map_str_dq {G : Hp} : ∀ {ys : List Str} {vs : List V}, DqA K G vs (ys.map PyData.str) → vs = ys.map V.str
  | [], _, h => by cases h; rfl
  | y :: ys, _, h => by
    cases h with
    | cons a b =>
      cases a
      rw [List.map_cons, map_str_dq b]
theorem ev_joinL {a : Str} {ys : List Str} (h1 : EV K ta ρ (.str a)) (h2 : EV K tb ρ (.list (ys.map PyData.str))) (hz : (ys.map (·.length)).sum + ys.length * a.length ≤ 16777216) : EV K (tM1 (rJoinU K) ta tb) ρ (.str (Txt.join a ys)) := fun G0 H0 G H σ Q E q =>
  h1 G0 H0 G H σ _ E fun v G1 H1 e1 hv => by
    cases hv
    refine ⟨⟨a, rfl⟩, h2 G0 H0 G1 H1 σ _ (E.go e1) fun u G2 H2 e2 hu => ?_⟩
    cases hu with
    | @lst p xs _ ha hr =>
      have e := map_str_dq hr
      subst e
      exact ⟨a, p, ys, rfl, rfl, .inl (SqL.of (e2.gh.lst ha)), hz, q _ G2 H2 (e1.trans e2) (.str _)⟩
/-! items -/
theorem atI_nn {α : Type} {ds : List α} {i : Int} (z : α) (h0 : 0 ≤ i) (h1 : i < ds.length) : atI ds i = some (ds.getD i.toNat z) := by
  obtain ⟨k, rfl⟩ : ∃ k : Nat, i = (k : Nat) := ⟨i.toNat, by omega⟩
  have hk : k < ds.length := by omega
  refine atI_nat ?_
  rw [List.getD_eq_getElem?_getD]
  simp [hk]
theorem atI_ints {ns : List Int} {i : Int} (h0 : 0 ≤ i) (h1 : i < ns.length) : atI (ns.map PyData.int) i = some (.int (ns.getD i.toNat 0)) := by
  obtain ⟨k, rfl⟩ : ∃ k : Nat, i = (k : Nat) := ⟨i.toNat, by omega⟩
  have hk : k < ns.length := by omega
  refine atI_nat ?_
  rw [List.getElem?_map, List.getD_eq_getElem?_getD]
  simp [hk]
theorem atI_strs {ys : List Str} {i : Int} (h0 : 0 ≤ i) (h1 : i < ys.length) : atI (ys.map PyData.str) i = some (.str (ys.getD i.toNat Str.empty)) := by
  obtain ⟨k, rfl⟩ : ∃ k : Nat, i = (k : Nat) := ⟨i.toNat, by omega⟩
  have hk : k < ys.length := by omega
  refine atI_nat ?_
  rw [List.getElem?_map, List.getD_eq_getElem?_getD]
  simp [hk]
theorem ixN_nn {n : Nat} {i : Int} (h0 : 0 ≤ i) (h1 : i < n) : ixN n i = some i.toNat := by
  unfold ixN
  rw [if_pos h0, if_pos h1]
end
/-! tuple(..), list(..) -/
def rTupU (K : PySem.W.Frag) : List V → Hp → VK → Prop := fun xs H Q => ∃ p ys, xs = [.ref p] ∧ ((SqL K H p ys ∧ ∀ l, H l = none → Q (.ref l) (upd H l (.tup ys))) ∨ (SqT K H p ys ∧ Q (.ref p) H))
theorem call_tupleU {X : Cx} : CallR X (.type "tuple") (rTupU X.K) := call_tuple_of
def rListU (K : PySem.W.Frag) : List V → Hp → VK → Prop := fun xs H Q => ∃ p ys, xs = [.ref p] ∧ (SqL K H p ys ∨ SqT K H p ys) ∧ ∀ l, H l = none → Q (.ref l) (upd H l (.lst ys))
theorem call_listU {X : Cx} : CallR X (.type "list") (rListU X.K) := call_list_of
theorem cd_tupL {K : PySem.W.Frag} {ds : List D} : CD K (rTupU K) [.list ds] (.tuple ds) := fun xs G H Q g hx q => by
  cases hx with
  | cons a b =>
    cases b
    cases a with
    | @lst a xs _ ha hr =>
      refine ⟨a, xs, rfl, .inl ⟨SqL.of (g.lst ha), fun l hl => ?_⟩⟩
      exact q _ _ _ (.new g hl) (.tup (SqT.of upd_same) (hr.mono (Ext.new g hl).g))
theorem cd_tupT {K : PySem.W.Frag} {ds : List D} : CD K (rTupU K) [.tuple ds] (.tuple ds) := fun xs G H Q g hx q => by
  cases hx with
  | cons a b =>
    cases b
    cases a with
    | @tup a xs _ ha hr => exact ⟨a, xs, rfl, .inr ⟨g.t ha, q _ G H (.refl g) (.tup ha hr)⟩⟩
theorem cn_listL {K : PySem.W.Frag} {ds : List D} : CN K (rListU K) [.list ds] (.list ds) := fun xs G H Q g hx q => by
  cases hx with
  | cons a b =>
    cases b
    cases a with
    | @lst a xs _ ha hr => exact ⟨a, xs, rfl, .inl (SqL.of (g.lst ha)), fun l hl => q l G _ (.fresh g hl) hl (g.none hl) (.lst upd_same hr)⟩
theorem cn_listT {K : PySem.W.Frag} {ds : List D} : CN K (rListU K) [.tuple ds] (.list ds) := fun xs G H Q g hx q => by
  cases hx with
  | cons a b =>
    cases b
    cases a with
    | @tup a xs _ ha hr => exact ⟨a, xs, rfl, .inr (g.t ha), fun l hl => q l G _ (.fresh g hl) hl (g.none hl) (.lst upd_same hr)⟩
/-! the first place where p holds, below n -/
def firstP (p : Nat → Bool) (n : Nat) : Option Nat := (List.range n).find? p
theorem firstP_some {p : Nat → Bool} {n i : Nat} (hi : i < n) (h0 : ∀ j, j < i → p j = false) (h1 : p i = true) : firstP p n = some i := by
  unfold firstP
  rw [List.find?_range_eq_some]
  exact ⟨h1, by simpa using hi, fun j hj => by rw [h0 j hj]; rfl⟩
theorem firstP_none {p : Nat → Bool} {n : Nat} (h0 : ∀ j, j < n → p j = false) : firstP p n = none := by
  unfold firstP
  rw [List.find?_eq_none]
  intro x hx
  rw [h0 x (by simpa using hx)]
  exact Bool.false_ne_true
theorem len_app (a b : Str) : (a ++ b).length = a.length + b.length := by
  show (a.cps ++ b.cps).size = a.cps.size + b.cps.size
  rw [Array.size_append]
theorem len_rep (z : Str) (k : Int) : (repS z k).length = k.toNat * z.length := by
  unfold repS Str.length
  rw [List.size_toArray]
  have : ∀ m : Nat, ((List.replicate m z.cps.toList).flatten).length = m * z.cps.toList.length := fun m => by
    induction m with
    | zero => simp
    | succ m ih => rw [List.replicate_succ, List.flatten_cons, List.length_append, ih, Nat.succ_mul]; omega
  rw [this, Array.length_toList]
theorem len_one (c : Nat) : (⟨#[c]⟩ : Str).length = 1 := rfl
section
variable {P : Program} {w : World} {K : PySem.W.Frag} {mg : Str → Option Value} {base : Heap}
theorem fn_pq {x qual : Str} {params : Arguments} {body : List Stmt} {scope : Scope} {f : Addr} {fd : FuncData} {N ps : List Str} {k : Nat} {Pre : List D → Prop} {Post : List D → D → Prop} (F : FunD K x qual params body scope [] [] f fd) (S : FnScope N ps scope)
    (len : ∀ ds, Pre ds → ds.length = ps.length)
    (hb : ∀ (cdv : Value) (A : Around) (outer : List PySem.Env) (s : Shared) (H : Hp) (E : XK), Room k (A.deeper (envOfC qual scope s.heap.objs.size f cdv)) →
      ∃ t, PSs (cxOf CX0 P w K mg base N qual scope f cdv A outer s H E) body t ∧ ∀ ds, Pre ds → DL.ST K E0 t (start0 N.length ds) (fun o => ∃ d, o = .rt d ∧ Post ds d)) : FnOk P w K mg base CX0 (k + 1) f fd ps (PQ K Pre Post) := by
  refine F.ok S (fun vs H Q E h => ?_) (fun cdv A outer s H vs Q E hr h => ?_)
  · obtain ⟨G, ds, g, ha, hR, q⟩ := h
    exact ha.length.trans (len ds hR)
  · obtain ⟨t, h1, h2⟩ := hb cdv A outer s H E hr
    obtain ⟨G, ds, g, ha, hR, q⟩ := h
    exact ⟨t, h1, h2 ds hR G H G H _ _ (en_start g ha) ⟨(fun _ _ _ _ ⟨_, p, _⟩ _ => nomatch p), (fun d' v G' H' ⟨d, p, hp⟩ x hv => by cases p; exact q _ v G' H' hp x hv), (fun _ _ _ _ ⟨_, p, _⟩ _ => nomatch p), (fun _ _ _ _ ⟨_, p, _⟩ _ => nomatch p), (fun _ _ _ _ _ _ ⟨_, p, _⟩ => nomatch p)⟩⟩
end
end DL
set_option maxHeartbeats 1000000
/-! DL10: dicts by data. dkD: keys are ints and texts; dtD: keys are tuples of such. -/
namespace DL
open PySem PySem.Spec PyProof.Rows L2
section
variable {κ : Type} [DecidableEq κ]
def getG (kvs : List (κ × D)) (k : κ) : Option D := (kvs.find? fun kv => decide (kv.1 = k)).map (·.2)
def hasG (kvs : List (κ × D)) (k : κ) : Bool := (getG kvs k).isSome
def putG (kvs : List (κ × D)) (k : κ) (d : D) : List (κ × D) := if (kvs.any fun kv => decide (kv.1 = k)) = true then kvs.map (fun kv => if kv.1 = k then (kv.1, d) else kv) else kvs ++ [(k, d)]
end
def dkD (kvs : List (Key × D)) : D := .dict (kvs.map fun p => (kD p.1, p.2))
def dtD (kvs : List (List Key × D)) : D := .dict ((.none, .none) :: kvs.map fun p => (.tuple (p.1.map kD), p.2))
inductive DqV {κ : Type} (K : PySem.W.Frag) (G : Hp) : List (κ × V) → List (κ × D) → Prop
  | nil : DqV K G [] []
  | cons {k : κ} {v : V} {d : D} {es : List (κ × V)} {kvs : List (κ × D)} : Dq K G v d → DqV K G es kvs → DqV K G ((k, v) :: es) ((k, d) :: kvs)
theorem kD_inj : ∀ {a b : Key}, kD a = kD b → a = b
  | .inl i, .inl j, h => by cases h; rfl
  | .inr i, .inr j, h => by cases h; rfl
  | .inl i, .inr j, h => by cases h
  | .inr i, .inl j, h => by cases h
theorem kDs_inj : ∀ {a b : List Key}, a.map kD = b.map kD → a = b
  | [], [], _ => rfl
  | [], _ :: _, h => by cases h
  | _ :: _, [], h => by cases h
  | x :: a, y :: b, h => by
    rw [List.map_cons, List.map_cons] at h
    injection h with h1 h2
    rw [kD_inj h1, kDs_inj h2]
theorem kD_bool {k : Key} {b : Bool} (h : kD k = .bool b) : False := by cases k <;> cases h
theorem kD_none {k : Key} (h : kD k = .none) : False := by cases k <;> cases h
section
variable {K : PySem.W.Frag} {G : Hp}
theorem DqK.v : ∀ {kvs : List (Key × D)} {es : List (Key × V)} {ls : List (D × D)}, DqK K G es ls → ls = kvs.map (fun p => (kD p.1, p.2)) → DqV K G es kvs
  | [], _, _, h, e => by
    subst e
    cases h
    exact .nil
  | (k, d) :: kvs, _, _, h, e => by
    cases h with
    | nil => cases e
    | cons a b =>
      rw [List.map_cons] at e
      injection e with e1 e2
      injection e1 with e3 e4
      have := kD_inj e3
      subst this
      dsimp only at e4
      subst e4
      exact .cons a (DqK.v b e2)
theorem DqT.v : ∀ {kvs : List (List Key × D)} {es : List (List Key × V)} {ls : List (D × D)}, DqT K G es ls → ls = kvs.map (fun p => (PyData.tuple (p.1.map kD), p.2)) → DqV K G es kvs
  | [], _, _, h, e => by
    subst e
    cases h
    exact .nil
  | (k, d) :: kvs, _, _, h, e => by
    cases h with
    | nil => cases e
    | cons a b =>
      rw [List.map_cons] at e
      injection e with e1 e2
      injection e1 with e3 e4
      injection e3 with e3
      have := kDs_inj e3
      subst this
      dsimp only at e4
      subst e4
      exact .cons a (DqT.v b e2)
theorem DqV.k : ∀ {kvs : List (Key × D)} {es : List (Key × V)}, DqV K G es kvs → DqK K G es (kvs.map fun p => (kD p.1, p.2))
  | [], _, h => by cases h; exact .nil
  | _ :: kvs, _, h => by
    cases h with
    | cons a b => exact .cons a (DqV.k b)
theorem DqV.t : ∀ {kvs : List (List Key × D)} {es : List (List Key × V)}, DqV K G es kvs → DqT K G es (kvs.map fun p => (PyData.tuple (p.1.map kD), p.2))
  | [], _, h => by cases h; exact .nil
  | _ :: kvs, _, h => by
    cases h with
    | cons a b => exact .cons a (DqV.t b)
theorem DqV.mono {κ : Type} {A B : Hp} (x : Sub A B) : ∀ {es : List (κ × V)} {kvs : List (κ × D)}, DqV K A es kvs → DqV K B es kvs
  | _, _, .nil => .nil
  | _, _, .cons a b => .cons (a.mono x) (DqV.mono x b)
theorem DqV.length {κ : Type} : ∀ {es : List (κ × V)} {kvs : List (κ × D)}, DqV K G es kvs → es.length = kvs.length
  | _, _, .nil => rfl
  | _, _, .cons _ b => congrArg Nat.succ (DqV.length b)
theorem DqV.keys {κ : Type} : ∀ {es : List (κ × V)} {kvs : List (κ × D)}, DqV K G es kvs → es.map (·.1) = kvs.map (·.1)
  | _, _, .nil => rfl
  | _, _, .cons _ b => congrArg _ (DqV.keys b)
theorem DqV.get {κ : Type} [DecidableEq κ] {k : κ} : ∀ {es : List (κ × V)} {kvs : List (κ × D)}, DqV K G es kvs → (valV es k = none ∧ getG kvs k = none) ∨ ∃ v d, valV es k = some v ∧ getG kvs k = some d ∧ Dq K G v d
  | _, _, .nil => .inl ⟨rfl, rfl⟩
  | _, _, @DqV.cons _ _ _ k' v d es kvs a b => by
    by_cases e : k' = k
    · refine .inr ⟨v, d, valV_pos e, ?_, a⟩
      unfold getG
      rw [List.find?_cons_of_pos (by exact decide_eq_true e)]
      rfl
    · rw [valV_neg (p := (k', v)) e]
      have : getG ((k', d) :: kvs) k = getG kvs k := by
        unfold getG
        rw [List.find?_cons_of_neg (by simpa using e)]
      rw [this]
      exact DqV.get b
theorem DqV.any {κ : Type} [DecidableEq κ] {k : κ} : ∀ {es : List (κ × V)} {kvs : List (κ × D)}, DqV K G es kvs → (es.any fun kv => decide (kv.1 = k)) = kvs.any fun kv => decide (kv.1 = k)
  | _, _, .nil => rfl
  | _, _, .cons _ b => by rw [List.any_cons, List.any_cons, DqV.any b]
theorem DqV.map {κ : Type} [DecidableEq κ] {k : κ} {v : V} {d : D} (x : Dq K G v d) : ∀ {es : List (κ × V)} {kvs : List (κ × D)}, DqV K G es kvs → DqV K G (es.map fun kv => if kv.1 = k then (kv.1, v) else kv) (kvs.map fun kv => if kv.1 = k then (kv.1, d) else kv)
  | _, _, .nil => .nil
  | _, _, @DqV.cons _ _ _ k' v' d' es kvs a b => by
    rw [List.map_cons, List.map_cons]
    by_cases e : k' = k
    · rw [if_pos e, if_pos e]
      exact .cons x (DqV.map x b)
    · rw [if_neg e, if_neg e]
      exact .cons a (DqV.map x b)
theorem DqV.snoc {κ : Type} {k : κ} {v : V} {d : D} (x : Dq K G v d) : ∀ {es : List (κ × V)} {kvs : List (κ × D)}, DqV K G es kvs → DqV K G (es ++ [(k, v)]) (kvs ++ [(k, d)])
  | _, _, .nil => .cons x .nil
  | _, _, .cons a b => .cons a (DqV.snoc x b)
theorem DqV.put {κ : Type} [DecidableEq κ] {k : κ} {v : V} {d : D} {es : List (κ × V)} {kvs : List (κ × D)} (h : DqV K G es kvs) (x : Dq K G v d) : DqV K G (putK es k v) (putG kvs k d) := by
  unfold putK putG
  rw [h.any]
  split
  · exact h.map x
  · exact h.snoc x
theorem dq_dk {v : V} {kvs : List (Key × D)} (h : Dq K G v (dkD kvs)) : ∃ a es, v = .ref a ∧ Rd G a (.dK es) ∧ DqV K G es kvs := by
  unfold dkD at h
  generalize e : (kvs.map fun p => (kD p.1, p.2)) = ls at h
  cases h with
  | sta _ _ =>
    cases kvs with
    | nil => cases e
    | cons p kvs =>
      rw [List.map_cons] at e
      injection e with e1 e2
      injection e1 with e3 _
      exact (kD_bool e3).elim
  | opq _ =>
    cases kvs with
    | nil => cases e
    | cons p kvs =>
      rw [List.map_cons] at e
      injection e with e1 e2
      injection e1 with e3 _
      exact (kD_bool e3).elim
  | raw _ =>
    cases kvs with
    | nil => cases e
    | cons p kvs =>
      rw [List.map_cons] at e
      injection e with e1 e2
      injection e1 with e3 _
      exact (kD_bool e3).elim
  | dK a b => exact ⟨_, _, rfl, a, DqK.v b e.symm⟩
  | scr a =>
    cases kvs with
    | nil => cases e
    | cons p kvs =>
      rw [List.map_cons] at e
      injection e with e1 e2
      injection e1 with e3 _
      exact (kD_none e3).elim
  | dT a b =>
    cases kvs with
    | nil => cases e
    | cons p kvs =>
      rw [List.map_cons] at e
      injection e with e1 e2
      injection e1 with e3 _
      exact (kD_none e3).elim
theorem dq_dt {v : V} {kvs : List (List Key × D)} (h : Dq K G v (dtD kvs)) : ∃ a es, v = .ref a ∧ Rd G a (.dT es) ∧ DqV K G es kvs := by
  unfold dtD at h
  generalize e : ((PyData.none, PyData.none) :: kvs.map fun p => (PyData.tuple (p.1.map kD), p.2)) = ls at h
  cases h with
  | dK a b =>
    cases b with
    | nil => cases e
    | cons a b =>
      injection e with e1 e2
      injection e1 with e3 _
      exact (kD_none e3.symm).elim
  | sta _ _ =>
    injection e with e1 e2
    injection e1 with e3 _
    cases e3
  | opq _ =>
    injection e with e1 e2
    injection e1 with e3 _
    cases e3
  | raw _ =>
    injection e with e1 e2
    injection e1 with e3 _
    cases e3
  | scr a =>
    injection e with e1 e2
    injection e1 with _ e3
    cases e3
  | dT a b =>
    injection e with e1 e2
    exact ⟨_, _, rfl, a, DqT.v b e2.symm⟩
theorem own_dk {H : Hp} {l : Addr} {kvs : List (Key × D)} (h : OwnC K G H l (dkD kvs)) : ∃ es, H l = some (.dK es) ∧ DqV K G es kvs := by
  unfold dkD at h
  generalize e : (kvs.map fun p => (kD p.1, p.2)) = ls at h
  cases h with
  | dK a b => exact ⟨_, a, DqK.v b e.symm⟩
  | dT a b =>
    cases kvs with
    | nil => cases e
    | cons p kvs =>
      rw [List.map_cons] at e
      injection e with e1 e2
      injection e1 with e3 _
      exact (kD_none e3).elim
theorem own_dt {H : Hp} {l : Addr} {kvs : List (List Key × D)} (h : OwnC K G H l (dtD kvs)) : ∃ es, H l = some (.dT es) ∧ DqV K G es kvs := by
  unfold dtD at h
  generalize e : ((PyData.none, PyData.none) :: kvs.map fun p => (PyData.tuple (p.1.map kD), p.2)) = ls at h
  cases h with
  | dK a b =>
    cases b with
    | nil => cases e
    | cons a b =>
      injection e with e1 e2
      injection e1 with e3 _
      exact (kD_none e3.symm).elim
  | dT a b =>
    injection e with e1 e2
    exact ⟨_, a, DqT.v b e2.symm⟩
theorem key_dq {v : V} : ∀ {k : Key}, Dq K G v (kD k) → v = kV k
  | .inl i, h => by cases h; rfl
  | .inr z, h => by cases h; rfl
theorem keys_dq : ∀ {ks : List Key} {vs : List V}, DqA K G vs (ks.map kD) → vs = ks.map kV
  | [], _, h => by cases h; rfl
  | k :: ks, _, h => by
    cases h with
    | cons a b => rw [key_dq a, keys_dq b]; rfl
end
section
variable {K : PySem.W.Frag} {Ex : XK} {ρ : List Sl} {ta tb te : TE} {tt : TT} {t u : TS} {d : D} {P : Oc → Prop}
theorem en_dnewK : EVN K tDNewK ρ (dkD []) := fun G0 H0 G H σ Q E q p hp => q p G _ (.fresh E.gh hp) hp (E.gh.none hp) (.dK upd_same .nil)
theorem en_dnewT : EVN K tDNewT ρ (dtD []) := fun G0 H0 G H σ Q E q p hp => q p G _ (.fresh E.gh hp) hp (E.gh.none hp) (.dT upd_same .nil)
/-- a tuple of keys, laid anew -/
def EVT (K : PySem.W.Frag) (te : TE) (ρ : List Sl) (ks : List Key) : Prop := ∀ (G0 H0 G H : Hp) (σ : L2.St) (Q : VK), En K G0 H0 G H σ ρ → (∀ p G' H', Ext G H G' H' → G' p = some (.tup (ks.map kV)) → Q (.ref p) H') → te σ H Q
theorem evt_tup {t : TA} {ks : List Key} {ds : List D} (h : EA K t ρ ds) (e : ds = ks.map kD) (hl : ks.length ≤ sizeLine) : EVT K (tTup t) ρ ks := fun G0 H0 G H σ Q E q =>
  h G0 H0 G H σ _ E fun vs G1 H1 e1 h1 => by
    subst e
    have e2 := keys_dq h1
    subst e2
    exact ⟨by rw [List.length_map]; exact hl, fun p hp => q p _ _ (e1.trans (.new e1.gh hp)) upd_same⟩
theorem evt_ite {b : Bool} {k1 k2 : List Key} (h : ET K tt ρ b) (h1 : b = true → EVT K ta ρ k1) (h2 : b = false → EVT K tb ρ k2) : EVT K (tIf tt ta tb) ρ (if b = true then k1 else k2) := fun G0 H0 G H σ Q E q =>
  h G0 H0 G H σ _ E fun G1 H1 e1 => by
    cases b with
    | true => exact h1 rfl G0 H0 G1 H1 σ _ (E.go e1) fun p G2 H2 e2 hp => q p G2 H2 (e1.trans e2) hp
    | false => exact h2 rfl G0 H0 G1 H1 σ _ (E.go e1) fun p G2 H2 e2 hp => q p G2 H2 (e1.trans e2) hp
theorem GH.tup {A B : Hp} (x : GH A B) {a : Addr} {xs : List V} (h : A a = some (.tup xs)) : B a = some (.tup xs) := by
  rcases x a _ h with h | ⟨d, _⟩ | d
  · exact h.1
  · cases d
  · exact d.elim
theorem st_dputK {n : Nat} {kvs : List (Key × D)} {k : Key} {dk : D} (hi : ρ[n]? = some (.ow (dkD kvs))) (hk : EV K tb ρ dk) (ek : dk = kD k) (h : EV K te ρ d) (hz : kvs.length < 16000000) (q : P (.nx (ρ.set n (.ow (dkD (putG kvs k d)))))) :
    ST K Ex (sDPut (tVar n) tb te) ρ P := fun G0 H0 G H σ D E f =>
  h G0 H0 G H σ _ E fun v G1 H1 e1 hv => by
    obtain ⟨l, h1, _, h0, h4⟩ := (E.go e1).ow n _ hi
    subst ek
    refine ⟨_, h1, hk G0 H0 G1 H1 σ _ (E.go e1) fun y G2 H2 e2 hy => ?_⟩
    obtain ⟨es, h5, h6⟩ := own_dk h4
    have e := key_dq hy
    subst e
    refine ⟨l, _, rfl, DPut.k (e2.at h0 h5) (by rw [h6.length, sizeLine_eq]; omega), f.nx _ _ _ _ q (((E.go e1).go e2).write hi h1 ?_)⟩
    exact .dK upd_same (((h6.mono e2.g).put (hv.mono e2.g)).k)
theorem st_dputT {n : Nat} {kvs : List (List Key × D)} {k : List Key} (hi : ρ[n]? = some (.ow (dtD kvs))) (hk : EVT K tb ρ k) (h : EV K te ρ d) (hz : kvs.length < 16000000) (q : P (.nx (ρ.set n (.ow (dtD (putG kvs k d)))))) :
    ST K Ex (sDPut (tVar n) tb te) ρ P := fun G0 H0 G H σ D E f =>
  h G0 H0 G H σ _ E fun v G1 H1 e1 hv => by
    obtain ⟨l, h1, _, h0, h4⟩ := (E.go e1).ow n _ hi
    refine ⟨_, h1, hk G0 H0 G1 H1 σ _ (E.go e1) fun y G2 H2 e2 hy => ?_⟩
    obtain ⟨es, h5, h6⟩ := own_dt h4
    refine ⟨l, _, rfl, DPut.t (e2.at h0 h5) (e2.gh.tup hy) (by rw [h6.length, sizeLine_eq]; omega), f.nx _ _ _ _ q (((E.go e1).go e2).write hi h1 ?_)⟩
    exact .dT upd_same (((h6.mono e2.g).put (hv.mono e2.g)).t)
/-- x in d, a frozen one -/
theorem dget_k {G H : Hp} (g : GH G H) {a : Addr} {es : List (Key × V)} {kvs : List (Key × D)} {k : Key} (h : Rd G a (.dK es)) (r : DqV K G es kvs) : (getG kvs k = none ∧ DGet H a (kV k) none) ∨ ∃ v d, getG kvs k = some d ∧ DGet H a (kV k) (some v) ∧ Dq K G v d := by
  rcases r.get (k := k) with ⟨h1, h2⟩ | ⟨v, d, h1, h2, h3⟩
  · exact .inl ⟨h2, .inl ⟨es, k, g.rd h, rfl, h1.symm⟩⟩
  · exact .inr ⟨v, d, h2, .inl ⟨es, k, g.rd h, rfl, h1.symm⟩, h3⟩
theorem ev_inD {kvs : List (Key × D)} {k : Key} {dk : D} (hk : EV K ta ρ dk) (ek : dk = kD k) (h : EV K tb ρ (dkD kvs)) : EV K (tDIn ta tb) ρ (.bool (hasG kvs k)) := fun G0 H0 G H σ Q E q =>
  hk G0 H0 G H σ _ E fun y G1 H1 e1 hy => h G0 H0 G1 H1 σ _ (E.go e1) fun x G2 H2 e2 hx => by
    subst ek
    obtain ⟨a, es, rfl, h1, h2⟩ := dq_dk hx
    have e := key_dq hy
    subst e
    unfold hasG at q
    rcases dget_k e2.gh h1 h2 (k := k) with ⟨h3, h4⟩ | ⟨v, d, h3, h4, h5⟩
    · exact ⟨a, _, rfl, h4, q _ G2 H2 (e1.trans e2) (by rw [h3]; exact .bl _)⟩
    · exact ⟨a, _, rfl, h4, q _ G2 H2 (e1.trans e2) (by rw [h3]; exact .bl _)⟩
theorem ev_ninD {kvs : List (Key × D)} {k : Key} {dk : D} (hk : EV K ta ρ dk) (ek : dk = kD k) (h : EV K tb ρ (dkD kvs)) : EV K (tDNotIn ta tb) ρ (.bool (!hasG kvs k)) := fun G0 H0 G H σ Q E q =>
  hk G0 H0 G H σ _ E fun y G1 H1 e1 hy => h G0 H0 G1 H1 σ _ (E.go e1) fun x G2 H2 e2 hx => by
    subst ek
    obtain ⟨a, es, rfl, h1, h2⟩ := dq_dk hx
    have e := key_dq hy
    subst e
    unfold hasG at q
    rcases dget_k e2.gh h1 h2 (k := k) with ⟨h3, h4⟩ | ⟨v, d, h3, h4, h5⟩
    · exact ⟨a, _, rfl, h4, q _ G2 H2 (e1.trans e2) (by rw [h3]; exact .bl _)⟩
    · exact ⟨a, _, rfl, h4, q _ G2 H2 (e1.trans e2) (by rw [h3]; exact .bl _)⟩
/-- d[x], a frozen one -/
theorem ev_getD {kvs : List (Key × D)} {k : Key} {dk : D} (h : EV K ta ρ (dkD kvs)) (hk : EV K tb ρ dk) (ek : dk = kD k) (e : getG kvs k = some d) : EV K (tDGet ta tb) ρ d := fun G0 H0 G H σ Q E q =>
  h G0 H0 G H σ _ E fun x G1 H1 e1 hx => hk G0 H0 G1 H1 σ _ (E.go e1) fun y G2 H2 e2 hy => by
    subst ek
    obtain ⟨a, es, rfl, h1, h2⟩ := dq_dk (hx.mono e2.g)
    have ez := key_dq hy
    subst ez
    rcases dget_k e2.gh h1 h2 (k := k) with ⟨h3, h4⟩ | ⟨v, d', h3, h4, h5⟩
    · rw [e] at h3; cases h3
    · rw [e] at h3
      cases h3
      exact ⟨a, v, rfl, h4, q _ G2 H2 (e1.trans e2) h5⟩
end
end DL
set_option maxHeartbeats 1000000
/-! DL11: the order of texts and of pairs of texts; sorted. -/
namespace DL
open PySem PySem.Spec PyProof.Rows L2
/-! ### orders -/
def ltS (a b : Str) : Bool := decide (a.cps.toList < b.cps.toList)
theorem str_ext {a b : Str} (h : a.cps.toList = b.cps.toList) : a = b := by
  cases a
  cases b
  exact congrArg Str.mk (Array.toList_inj.mp h)
theorem ltS_irr (a : Str) : ltS a a = false := decide_eq_false (List.lt_irrefl _)
theorem ltS_tr {a b c : Str} (h : ltS a b = true) (k : ltS b c = true) : ltS a c = true := decide_eq_true (List.lt_trans (of_decide_eq_true h) (of_decide_eq_true k))
theorem ltS_as {a b : Str} (h : ltS a b = true) : ltS b a = false := decide_eq_false (List.lt_asymm (of_decide_eq_true h))
theorem ltS_eq {a b : Str} (h : ltS a b = false) (k : ltS b a = false) : a = b := by
  refine str_ext (List.le_antisymm ?_ ?_)
  · exact List.not_lt.mp (of_decide_eq_false k)
  · exact List.not_lt.mp (of_decide_eq_false h)
/-- of pairs: by the first, then by the second -/
def ltQ (p q : Str × Str) : Bool := if p.1 = q.1 then ltS p.2 q.2 else ltS p.1 q.1
theorem ltQ_irr (a : Str × Str) : ltQ a a = false := by
  unfold ltQ
  rw [if_pos rfl, ltS_irr]
theorem ltQ_tr {a b c : Str × Str} (h : ltQ a b = true) (k : ltQ b c = true) : ltQ a c = true := by
  unfold ltQ at *
  by_cases e : a.1 = b.1
  · rw [if_pos e] at h
    by_cases f : b.1 = c.1
    · rw [if_pos f] at k
      rw [if_pos (e.trans f)]
      exact ltS_tr h k
    · rw [if_neg f] at k
      rw [if_neg (fun z => f (e.symm.trans z)), e]
      exact k
  · rw [if_neg e] at h
    by_cases f : b.1 = c.1
    · rw [if_neg (fun z => e (z.trans f.symm)), ← f]
      exact h
    · rw [if_neg f] at k
      have := ltS_tr h k
      rw [if_neg (fun z => by rw [z, ltS_irr] at this; cases this)]
      exact this
theorem ltQ_eq {a b : Str × Str} (h : ltQ a b = false) (k : ltQ b a = false) : a = b := by
  unfold ltQ at *
  by_cases e : a.1 = b.1
  · rw [if_pos e] at h
    rw [if_pos e.symm] at k
    exact Prod.ext e (ltS_eq h k)
  · rw [if_neg e] at h
    rw [if_neg (fun z => e z.symm)] at k
    exact absurd (ltS_eq h k) e
theorem ltQ_as {a b : Str × Str} (h : ltQ a b = true) : ltQ b a = false := by
  cases q : ltQ b a with
  | false => rfl
  | true =>
    have := ltQ_tr h q
    rw [ltQ_irr] at this
    cases this
section
variable {α : Type} {lt : α → α → Bool}
/-- a strict total order -/
structure Sto (lt : α → α → Bool) : Prop where
  irr : ∀ a, lt a a = false
  tr : ∀ {a b c}, lt a b = true → lt b c = true → lt a c = true
  eq : ∀ {a b}, lt a b = false → lt b a = false → a = b
theorem Sto.as (O : Sto lt) {a b : α} (h : lt a b = true) : lt b a = false := by
  cases q : lt b a with
  | false => rfl
  | true =>
    have := O.tr h q
    rw [O.irr] at this
    cases this
theorem Sto.tr' (O : Sto lt) {x y z : α} (h : lt y x = false) (k : lt z y = false) : lt z x = false := by
  cases q : lt z x with
  | false => rfl
  | true =>
    cases a : lt x y with
    | true =>
      have := O.tr q a
      rw [k] at this
      cases this
    | false =>
      have e := O.eq a h
      subst e
      rw [q] at k
      cases k
theorem Sto.swo_of {β : Type} (O : Sto lt) (f : β → α) : SrtO.Swo fun x y => lt (f x) (f y) := ⟨fun _ _ h => O.as h, fun _ _ _ h k => O.tr' h k⟩
def srt (lt : α → α → Bool) (l : List α) : List α := l.mergeSort fun x y => !lt y x
theorem srt_perm (l : List α) : (srt lt l).Perm l := List.mergeSort_perm _ _
theorem srt_pw (O : Sto lt) (l : List α) : (srt lt l).Pairwise fun x y => lt y x = false := by
  have := List.pairwise_mergeSort (le := fun x y => !lt y x) (fun a b c h k => by
    rw [Bool.not_eq_true'] at *
    exact O.tr' h k) (fun a b => by
    cases q : lt b a with
    | false => rfl
    | true =>
      rw [O.as q]
      rfl) l
  exact this.imp fun h => by simpa using h
theorem srt_uniq (O : Sto lt) {l m : List α} (hp : l.Perm m) (hs : l.Pairwise fun x y => lt y x = false) : l = srt lt m := by
  refine List.Perm.eq_of_pairwise (le := fun x y => lt y x = false) (fun a b _ _ h k => O.eq k h) hs (srt_pw O m) (hp.trans (srt_perm m).symm)
theorem srt_len (l : List α) : (srt lt l).length = l.length := (srt_perm l).length_eq
end
theorem stoS : Sto ltS := ⟨ltS_irr, ltS_tr, ltS_eq⟩
theorem stoQ : Sto ltQ := ⟨ltQ_irr, ltQ_tr, ltQ_eq⟩
end DL
set_option maxHeartbeats 1000000
/-! DL12: sorted(..) by data; comparisons of pairs of texts; a dict comprehension; words for the walk. -/
namespace DL
open PySem PySem.Spec PyProof.Rows L2
/-! ### sorted of a list of texts -/
theorem rising_pw : ∀ (l : List Str) (p : Str), risingS p l = true → (p :: l).Pairwise fun x y => ltS y x = false
  | [], p, _ => List.pairwise_singleton _ _
  | x :: r, p, h => by
    have h : (!ltCps x.cps.toList p.cps.toList && risingS x r) = true := h
    rw [Bool.and_eq_true] at h
    have ih := rising_pw r x h.2
    have h1 : ltS x p = false := by
      have := h.1
      rw [ltCps_eq] at this
      simpa [ltS] using this
    refine List.pairwise_cons.mpr ⟨fun y hy => ?_, ih⟩
    rcases List.mem_cons.mp hy with rfl | hy
    · exact h1
    · exact stoS.tr' h1 ((List.pairwise_cons.mp ih).1 y hy)
theorem sortedS_pw : ∀ {l : List Str}, sortedS l = true → l.Pairwise fun x y => ltS y x = false
  | [], _ => List.Pairwise.nil
  | x :: r, h => rising_pw r x h
section
variable {K : PySem.W.Frag}
theorem cn_sortS {zs : List Str} (hl : zs.length < 64) : CN K (rSortedS K) [.list (zs.map PyData.str)] (.list ((srt ltS zs).map PyData.str)) := fun xs G H Q g hx q => by
  cases hx with
  | cons a b =>
    cases b
    cases a with
    | @lst a xs _ ha hr =>
      have e := map_str_dq hr
      subst e
      refine ⟨a, zs, rfl, SqL.of (g.lst ha), hl, fun ys p hp hs hn => ?_⟩
      have e := srt_uniq stoS hp (sortedS_pw hs)
      subst e
      refine q p G _ (.fresh g hn) hn (g.none hn) (.lst upd_same ?_)
      clear hs hp hr ha
      induction (srt ltS zs) with
      | nil => exact .nil
      | cons z l ih => exact .cons (.str z) ih
/-! ### pairs of texts in the heap -/
/-- v is the pair (x, y) -/
def IsPS (h : Heap) (v : Value) (p : Str × Str) : Prop := ∃ a o t u n, v = .ref a ∧ h.get? a = some o ∧ o.cls = .type "tuple" ∧ o.data = .seq #[.str p.1 t, .str p.2 u] n
theorem IsPS.keeps {h h' : Heap} {v : Value} {p : Str × Str} (x : IsPS h v p) (k : ∀ b o, h.get? b = some o → o.cls = .type "tuple" → h'.get? b = some o) : IsPS h' v p := by
  obtain ⟨a, o, t, u, n, e, ho, hc, hd⟩ := x
  exact ⟨a, o, t, u, n, e, k a o ho hc, hc, hd⟩
section
variable {prog : Program} {w : World} {A : Around} {s : Shared}
theorem ps_cmp {vs : List Value} {k : Value → Str × Str} (hp : ∀ v ∈ vs, IsPS s.heap v (k v)) : SrtO.Cmp prog w A s (tuples' true) (fun p => p.1 ∈ vs) (SrtO.lt2 fun v u => ltQ (k v) (k u)) := by
  intro p q hm hm'
  have h1 := hp _ hm
  have h2 := hp _ hm'
  show wpAny (model prog w) A (keyLt' (tuples' true) p.1 q.1) (fun r s' => s' = s ∧ r = ltQ (k p.1) (k q.1)) (fun _ _ => False) s
  generalize k p.1 = x at h1 ⊢
  generalize k q.1 = y at h2 ⊢
  obtain ⟨a, o, t, u, n, e, ho, _, hd⟩ := h1
  obtain ⟨a', o', t', u', n', e', ho', _, hd'⟩ := h2
  rw [e, e']
  unfold ltQ
  refine PySem.W.kat_lt ho hd ho' hd' ?_
  show PySem.W.KatLex prog w A true (decide (2 < 2)) _ [(.str x.1 t, .str y.1 t'), (.str x.2 u, .str y.2 u')] 0 s
  refine PySem.W.kat_cons (wpAny_eqBool_str ?_)
  refine PySem.W.kat_go (fun e1 => ?_) (fun e1 => ?_)
  · rw [if_pos (of_decide_eq_true e1)]
    refine PySem.W.kat_yes (PySem.W.kat_cons (wpAny_eqBool_str ?_))
    refine PySem.W.kat_go (fun e2 => ?_) (fun e2 => ?_)
    · rw [of_decide_eq_true e2, ltS_irr]
      exact PySem.W.kat_yes (PySem.W.kat_nil ⟨rfl, rfl⟩)
    · exact PySem.W.kat_no (oneLt_any_str ⟨rfl, rfl⟩)
  · rw [if_neg (of_decide_eq_false e1)]
    exact PySem.W.kat_no (oneLt_any_str ⟨rfl, rfl⟩)
theorem ps_firsts {h : Heap} : ∀ {vs : List Value} {k : Value → Str × Str}, (∀ v ∈ vs, IsPS h v (k v)) → ∃ fs : List Value, PySem.W.KatTups h vs fs ∧ fs.length = vs.length ∧ ∀ f ∈ fs, ∃ x t, f = Value.str x t
  | [], _, _ => ⟨[], PySem.W.KatTups.nil, rfl, fun _ hm => by simp at hm⟩
  | v :: vs, k, hp => by
    obtain ⟨fs, h1, h2, h3⟩ := ps_firsts (vs := vs) (k := k) fun v' hm => hp v' (List.mem_cons_of_mem _ hm)
    obtain ⟨a, o, t, u, n, e, ho, hc, hd⟩ := hp v (List.mem_cons_self ..)
    generalize k v = p at hd
    subst e
    refine ⟨.str p.1 t :: fs, PySem.W.KatTups.cons ho hc hd rfl h1, congrArg Nat.succ h2, fun f hm => ?_⟩
    rcases List.mem_cons.mp hm with rfl | hm
    · exact ⟨_, _, rfl⟩
    · exact h3 f hm
theorem ps_sortable {a : Addr} {vs : List Value} {k : Value → Str × Str} (h0 : 0 < vs.length) (hp : ∀ v ∈ vs, IsPS s.heap v (k v)) (ha : ∀ o, s.heap.get? a = some o → o.cls ≠ .type "tuple") : SrtO.SortableO prog w A s a vs fun v u => ltQ (k v) (k u) := by
  intro h' keep
  have hp' : ∀ v ∈ vs, IsPS h' v (k v) := fun v hm => (hp v hm).keeps fun b o e c => keep b o (fun z => by subst z; exact ha o e c) e
  obtain ⟨fs, h1, h2, h3⟩ := ps_firsts hp'
  refine ⟨tuples' true, fun Q E hq => ?_, ps_cmp hp'⟩
  refine PySem.W.kat_kind (T := .type "str") h1 (by omega) (fun f hm => ?_) (by rfl) ?_
  · obtain ⟨x, t, rfl⟩ := h3 f hm
    exact PySem.W.Looks.now
  · have e : (Value.type "str" != Value.type "tuple") = true := by first | decide +kernel | rfl | decide
    rw [e]
    exact hq
end
/-- what the heap holds at a pair of texts -/
def psAt (H : Hp) (v : Value) : Str × Str := match v with
  | .ref b => (match H b with
    | some (.tup [.str x, .str y]) => (x, y)
    | _ => (Str.empty, Str.empty))
  | _ => (Str.empty, Str.empty)
def keyQ (p : Str × Str) : List Key := [.inr p.1, .inr p.2]
/-- the addresses bs hold the pairs qs -/
def AtQ (H : Hp) (bs : List Addr) (qs : List (Str × Str)) : Prop := Paired (fun b q => H b = some (.tup [.str q.1, .str q.2])) bs qs
/-- sorted(d), d a dict whose keys are pairs of texts -/
def rSortDT (K : PySem.W.Frag) : List V → Hp → VK → Prop := fun xs H Q => ∃ (d : Addr) (kvs : List (List Key × V)) (qs : List (Str × Str)), xs = [.ref d] ∧ Rd H d (.dT kvs) ∧ kvs.map (·.1) = qs.map keyQ ∧
  ∀ p bs, AtQ H bs (srt ltQ qs) → H p = none → Q (.ref p) (upd H p (.lst (bs.map V.ref)))
end
theorem paired_map {α β : Type} {R : α → β → Prop} {f : α → β} : ∀ {l : List α}, (∀ a ∈ l, R a (f a)) → Paired R l (l.map f)
  | [], _ => Paired.nil
  | a :: l, h => Paired.cons (h a (List.mem_cons_self ..)) (paired_map fun b hb => h b (List.mem_cons_of_mem _ hb))
theorem call_sortedDT {X : Cx} (hc : X.calm = true) : CallR X (.builtin "sorted") (rSortDT X.K) := by
  intro pins s σ H xs us Q I r h
  obtain ⟨d, kvs, qs, rfl, hd, hks, q⟩ := h
  obtain ⟨u, rfl, rx⟩ := r.one
  cases rx
  obtain ⟨z, hs, ks, pr, o, es, ep, ho, hx, hdt, he, hn⟩ := (show ObjOk X.prog X.w H s.heap d (.dT kvs) from hd.ok I.hok)
  have l1 : es.size = ks.length := size_of_entries he
  have l2 : kvs.length = ks.length := Paired.length pr
  refine Calls.call_function_entry PyProof.Rows.kind_sorted PyProof.Rows.plain_sorted PyProof.Rows.entry_sorted (PyProof.Rows.args_sorted1 _) ?_
  unfold Builtin.«sorted»
  refine wpAny_bind (m := checkCount "sorted" 1 1 _) (wpAny_pure ?_)
  refine wpAny_bind (PySem.W.kdu_collect (A := X.A.in1) (kdl_raw hs hx hdt) (I.ok.hd hc) ho (by omega) fun h' tk acc hk it => ?_)
  have ea : acc.toList = ks.map fun x => Value.ref x.2.1 := by
    have hl : acc.toList.length = ks.length := by rw [Array.length_toList, it.1]; exact l1
    apply List.ext_getElem?
    intro j
    rw [List.getElem?_map]
    cases hj : acc.toList[j]? with
    | none => rw [List.getElem?_eq_none (by have := List.getElem?_eq_none_iff.mp hj; omega)] <;> rfl
    | some v =>
      obtain ⟨en, hen, hv⟩ := it.2 j v (by rw [← Array.getElem?_toList]; exact hj)
      have qe := entry_at he j
      rw [hen] at qe
      cases hb : ks[j]? with
      | none =>
        rw [hb] at qe
        exact nomatch (show some en = none from qe)
      | some b =>
        rw [hb] at qe
        have e2 : en = entryOfKey (tupleKind (mixKind X.prog X.w)) b := Option.some.inj qe
        rw [hv, e2] <;> rfl
  have hal : acc.toList.length ≤ sizeLine := by rw [ea, List.length_map]; omega
  have I1 : Inv X pins σ H { s with heap := h', toks := tk } := I.kept hk
  -- the pairs
  have hps : ∀ x ∈ ks, ∃ p : Str × Str, H x.2.1 = some (.tup [.str p.1, .str p.2]) := by
    intro x hx'
    have kk : ∀ {l : List (List Key × V)} {m : List (List Key × Addr × Value)} {ns : List (Str × Str)}, KT H l m → l.map (·.1) = ns.map keyQ → ∀ x ∈ m, ∃ p : Str × Str, H x.2.1 = some (.tup [.str p.1, .str p.2]) := by
      intro l m ns r
      induction r generalizing ns with
      | nil => intro _ x hx; cases hx
      | @cons a b l m h t ih =>
        intro e x hx
        cases ns with
        | nil => cases e
        | cons n ns =>
          rw [List.map_cons, List.map_cons] at e
          injection e with e1 e2
          rcases List.mem_cons.mp hx with rfl | hx
          · refine ⟨n, ?_⟩
            rw [h.2.1, e1]
            rfl
          · exact ih e2 x hx
    exact kk pr hks x hx'
  have hkv : ks.map (fun x => psAt H (.ref x.2.1)) = qs := by
    have kk : ∀ {l : List (List Key × V)} {m : List (List Key × Addr × Value)} {ns : List (Str × Str)}, KT H l m → l.map (·.1) = ns.map keyQ → m.map (fun x => psAt H (.ref x.2.1)) = ns := by
      intro l m ns r
      induction r generalizing ns with
      | nil => intro e; cases ns with
        | nil => rfl
        | cons => cases e
      | @cons a b l m h t ih =>
        intro e
        cases ns with
        | nil => cases e
        | cons n ns =>
          rw [List.map_cons, List.map_cons] at e
          injection e with e1 e2
          rw [List.map_cons, ih e2]
          congr 1
          have := h.2.1
          rw [e1] at this
          unfold psAt
          dsimp only
          rw [this]
          rfl
    exact kk pr hks
  have hmem : ∀ v ∈ acc.toList, ∃ b p, v = Value.ref b ∧ H b = some (.tup [.str p.1, .str p.2]) ∧ psAt H v = p := fun v hv => by
    rw [ea] at hv
    obtain ⟨x, hx', rfl⟩ := List.mem_map.mp hv
    obtain ⟨p, hp⟩ := hps x hx'
    exact ⟨_, p, rfl, hp, by unfold psAt; dsimp only; rw [hp]⟩
  have hoL : (h'.push (seqObj "list" acc.toList.toArray 0)).get? h'.objs.size = some (seqObj "list" acc.toList.toArray 0) := Heap.get?_push_size _ rfl
  have hP : ∀ v ∈ acc.toList, IsPS (h'.push (seqObj "list" acc.toList.toArray 0)) v (psAt H v) := fun v hv => by
    obtain ⟨b, p, rfl, hb, hp⟩ := hmem v hv
    rw [hp]
    obtain ⟨_, its2, r2, o2, ho2, hc2, n2, hd2⟩ := I1.hok _ _ hb
    obtain ⟨u1, u2, rfl, ri, rj⟩ := vals2 r2
    obtain ⟨t1, rfl⟩ := ri
    obtain ⟨t2, rfl⟩ := rj
    exact ⟨b, o2, t1, t2, n2, rfl, Heap.get?_push_of_some _ ho2, hc2, hd2⟩
  refine wpAny_bind (wpAny_newList ?_ hal)
  show wpAny _ _ _ _ _ { s with heap := h'.push (seqObj "list" acc.toList.toArray 0), toks := tk }
  refine wpAny_bind (wpAny_holding (wpAny_call_entry PyProof.Rows.slot_list_sort ⟨_, hoL, rfl⟩ PyProof.Rows.entry_list_sort
    (SrtO.list_sort_ord (stoQ.swo_of (psAt H)) (s := { s with heap := h'.push (seqObj "list" acc.toList.toArray 0), toks := tk }) hoL hal (fun h2 => ps_sortable (by omega) hP fun o e => ?_) fun out hs hb => ⟨_, rfl, ?_⟩)
    (PyProof.Rows.args_list_sort _)))
  · have e' := e.symm.trans hoL
    cases e'
    intro c
    exact absurd (Value.type.inj c) (by decide)
  · have hm2 : ∀ v ∈ out, ∃ b p, v = Value.ref b ∧ H b = some (.tup [.str p.1, .str p.2]) ∧ psAt H v = p := fun v hv => hmem v (hb.perm.mem_iff.mp hv)
    have eo : out = (out.map fun v => match v with | .ref a => a | _ => 0).map Value.ref := by
      rw [List.map_map]
      refine (List.map_id out).symm.trans (List.map_congr_left fun v hv => ?_)
      obtain ⟨b, p, rfl, _⟩ := hm2 v hv
      rfl
    generalize eb : (out.map fun v => match v with | .ref a => a | _ => 0) = bs at eo
    obtain ⟨e', he'⟩ := PyProof.Rows.sortedHeap_at (vs := acc.toList) (out := out.toArray) hoL
    have ho' : out.length ≤ sizeLine := by rw [hb.perm.length_eq]; exact hal
    have hlen : (bs.map V.ref).length ≤ sizeLine := by
      have := congrArg List.length eo
      rw [List.length_map] at this ⊢
      omega
    have eq : srt ltQ qs = out.map (psAt H) := by
      refine (srt_uniq stoQ ?_ ?_).symm
      · rw [← hkv]
        have := hb.perm.map (psAt H)
        rw [ea, List.map_map] at this
        exact this
      · exact List.pairwise_map.mpr hs
    refine wpAny_pure ⟨_, rfl, .ref h'.objs.size, upd H h'.objs.size (.lst (bs.map V.ref)), I1.laid (t' := tk) (fun b u e => ?_) (Nat.le_refl _)
      (show ObjOk X.prog X.w _ _ _ (.lst (bs.map V.ref)) from ⟨hlen, out, e', by rw [eo]; exact vals_refs bs, he'⟩), rfl, q _ bs ?_ (I1.hok.fresh (Nat.le_refl _))⟩
    · have hb : b < h'.objs.size := Heap.lt_size e
      rw [PyProof.Rows.sortedHeap_old (Nat.ne_of_lt hb) (by rw [size_push']; exact Nat.lt_succ_of_lt hb)]
      exact Heap.get?_push_of_some _ e
    · rw [eq, eo, List.map_map]
      refine paired_map fun b hb' => ?_
      have : Value.ref b ∈ out := by rw [eo]; exact List.mem_map.mpr ⟨b, hb', rfl⟩
      obtain ⟨b', p, e1, e2, e3⟩ := hm2 _ this
      cases e1
      show H b = some (.tup [.str (psAt H (.ref b)).1, .str (psAt H (.ref b)).2])
      rw [e3]
      exact e2
end DL
set_option maxHeartbeats 1000000
/-! DL13: sorted(dict), comparisons of pairs of texts, dict comprehensions, str(int), xs[::-1]. -/
namespace DL
open PySem PySem.Spec PyProof.Rows L2
def pqD (p : Str × Str) : D := .tuple [.str p.1, .str p.2]
section
variable {K : PySem.W.Frag}
theorem atQ_dq {G H : Hp} (g : ∀ b xs, H b = some (.tup xs) → G b = some (.tup xs)) : ∀ {bs : List Addr} {qs : List (Str × Str)}, AtQ H bs qs → DqA K G (bs.map V.ref) (qs.map pqD)
  | _, _, .nil => .nil
  | _, _, .cons h t => .cons (.tup (SqT.of (g _ _ h)) (.cons (.str _) (.cons (.str _) .nil))) (atQ_dq g t)
/-- the tuples that stand are frozen too -/
def tupG (G H : Hp) : Hp := fun a => match G a with
  | some o => some o
  | none => (match H a with
    | some (.tup xs) => some (.tup xs)
    | _ => none)
theorem tupG_old {G H : Hp} {a : Addr} {o : HO} (h : G a = some o) : tupG G H a = some o := by
  unfold tupG
  rw [h]
theorem tupG_tup {G H : Hp} (g : GH G H) {a : Addr} {xs : List V} (h : H a = some (.tup xs)) : tupG G H a = some (.tup xs) := by
  unfold tupG
  cases e : G a with
  | none => dsimp only; rw [h]
  | some o =>
    dsimp only
    rcases g a o e with ⟨q, _⟩ | ⟨_, _, q⟩ | q
    · rw [h] at q
      exact q.symm
    · rw [h] at q
      cases q
    · obtain ⟨_, ys, q⟩ := q.mk
      rw [h] at q
      cases q
theorem tupG_none {G H : Hp} {a : Addr} (h : H a = none) (g : GH G H) : tupG G H a = none := by
  unfold tupG
  rw [g.none h]
  dsimp only
  rw [h]
theorem Ext.tups {G H : Hp} (g : GH G H) : Ext G H (tupG G H) H := by
  refine ⟨fun a o h => tupG_old h, fun a o h => .inl h, fun a u r => ?_, fun a o h t n => ?_⟩
  · unfold tupG at r
    cases e : G a with
    | some o =>
      rw [e] at r
      cases r
      exact g a _ e
    | none =>
      rw [e] at r
      dsimp only at r
      cases q : H a with
      | none => rw [q] at r; cases r
      | some o =>
        rw [q] at r
        cases o <;> first | (cases r; exact .of q) | (cases r; done)
  · unfold tupG
    rw [n]
    dsimp only
    rw [h]
    cases o <;> first | rfl | cases t
theorem cn_sortDT {kvs : List (List Key × D)} {qs : List (Str × Str)} (e : kvs.map (·.1) = qs.map keyQ) : CN K (rSortDT K) [dtD kvs] (.list ((srt ltQ qs).map pqD)) := fun xs G H Q g hx q => by
  cases hx with
  | cons a b =>
    cases b
    obtain ⟨d, es, rfl, h1, h2⟩ := dq_dt a
    refine ⟨d, es, qs, rfl, g.rd h1, by rw [h2.keys, e], fun p bs hb hp => ?_⟩
    have x := Ext.tups g
    exact q p _ _ (x.trans (.fresh x.gh hp)) hp (tupG_none hp g) (.lst upd_same (atQ_dq (fun b xs h => tupG_tup g h) hb))
/-! ### pairs of texts are compared -/
def rLtQ (K : PySem.W.Frag) : R2 := fun x y H Q => ∃ (a b : Addr) (p q : Str × Str), x = .ref a ∧ y = .ref b ∧ SqT K H a [.str p.1, .str p.2] ∧ SqT K H b [.str q.1, .str q.2] ∧ Q (.bl (ltQ p q)) H
def rGeQ (K : PySem.W.Frag) : R2 := fun x y H Q => ∃ (a b : Addr) (p q : Str × Str), x = .ref a ∧ y = .ref b ∧ SqT K H a [.str p.1, .str p.2] ∧ SqT K H b [.str q.1, .str q.2] ∧ Q (.bl (!ltQ p q)) H
end
section
variable {K : PySem.W.Frag} {Ex : XK} {ρ : List Sl} {ta tb te tk tv : TE} {tt : TT} {t u : TS} {d d1 d2 : D} {P : Oc → Prop} {r r' : R2}
theorem ps_sq {G H : Hp} (g : GH G H) {x : V} {a b : Str} (h : Dq K G x (.tuple [.str a, .str b])) : ∃ l, x = .ref l ∧ SqT K H l [.str a, .str b] := by
  cases h with
  | @tup l xs _ ha hr =>
    cases hr with
    | cons h1 h2 => cases h2 with
      | cons h2 h3 =>
        cases h1
        cases h2
        cases h3
        exact ⟨l, rfl, g.t ha⟩
theorem od_ltQ {a b c e : Str} : OD K (rLtQ K) (.tuple [.str a, .str b]) (.tuple [.str c, .str e]) (.bool (ltQ (a, b) (c, e))) := fun x y G H Q g hx hy q => by
  obtain ⟨l, rfl, h1⟩ := ps_sq g hx
  obtain ⟨m, rfl, h2⟩ := ps_sq g hy
  exact ⟨l, m, (a, b), (c, e), rfl, rfl, h1, h2, q _ G H (.refl g) (.bl _)⟩
theorem od_geQ {a b c e : Str} : OD K (rGeQ K) (.tuple [.str a, .str b]) (.tuple [.str c, .str e]) (.bool (!ltQ (a, b) (c, e))) := fun x y G H Q g hx hy q => by
  obtain ⟨l, rfl, h1⟩ := ps_sq g hx
  obtain ⟨m, rfl, h2⟩ := ps_sq g hy
  exact ⟨l, m, (a, b), (c, e), rfl, rfl, h1, h2, q _ G H (.refl g) (.bl _)⟩
/-- xs[::-1] -/
theorem en_revL {ds : List D} (h : EV K te ρ (.list ds)) : EVN K (tRevL K te) ρ (.list ds.reverse) := fun G0 H0 G H σ Q E q =>
  h G0 H0 G H σ _ E fun v G1 H1 e1 hv => by
    cases hv with
    | @lst a xs _ ha hr =>
      refine ⟨a, xs, rfl, SqL.of (e1.gh.lst ha), fun p hp => ?_⟩
      refine q p G1 _ (e1.trans (.fresh e1.gh hp)) ?_ (e1.gh.none hp) (.lst upd_same hr.rev)
      exact e1.gone hp
/-- str(i) -/
def strI (i : Int) : Str := (toString i : String)
def rStrI : List V → Hp → VK → Prop := fun xs H Q => ∃ i, xs = [.int i] ∧ i.natAbs.log2 < 1920 ∧ Q (.str (toString i)) H
theorem call_strI {X : Cx} : CallR X (.type "str") rStrI := call_str_int
theorem cd_strI {i : Int} (h : i.natAbs.log2 < 1920) : CD K rStrI [.int i] (.str (strI i)) := fun xs G H Q g hx q => by
  cases hx with
  | cons a b =>
    cases b
    cases a
    exact ⟨i, rfl, h, q _ G H (.refl g) (.str _)⟩
/-- a dict comprehension -/
theorem dc_it {J : It} {n : Nat} {Gd : Hp → Prop} {Y : Nat → Hp → V → Hp → Prop} (w : Walk J n Gd Y) {g : TG} {vs : List Nat} {σ : L2.St} {H1 : Hp} {D : Addr} {Qd : Hp → Prop} (Pv : Nat → Hp → Prop) (h0 : Pv 0 (upd H1 D (.dK []))) (hG : ∀ i H, i ≤ n → Pv i H → Gd H)
    (hs : ∀ i x H H', i < n → Pv i H → Y i H x H' → g x (wipe σ vs) H' fun σ2 H2 => wipe σ2 vs = wipe σ vs ∧ tt σ2 H2 fun b H3 =>
      if b = true then tk σ2 H3 fun y H4 => tv σ2 H4 fun z H5 => ∃ kvs k, y = kV k ∧ H5 D = some (.dK kvs) ∧ kvs.length < sizeLine ∧ Pv (i + 1) (upd H5 D (.dK (putK kvs k z))) else Pv (i + 1) H3) (hd : ∀ H, Pv n H → Qd H) :
    ∃ W : Nat → Nat → Hp → Prop, (∃ m, W 0 m (upd H1 D (.dK []))) ∧ ∀ i m H, W i m H →
      (J.stop i H ∧ Qd H) ∨ (J.go i H ∧ ∃ Nx : Hp → Prop, (∀ H', Nx H' → ∃ m', m' < m ∧ W (i + 1) m' H') ∧ ∀ x H', J.yld i H x H' → g x (wipe σ vs) H' fun σ2 H2 => wipe σ2 vs = wipe σ vs ∧ tt σ2 H2 fun b H3 =>
        if b = true then tk σ2 H3 fun y H4 => tv σ2 H4 fun z H5 => ∃ kvs k, y = kV k ∧ H5 D = some (.dK kvs) ∧ kvs.length < sizeLine ∧ Nx (upd H5 D (.dK (putK kvs k z))) else Nx H3) := by
  refine ⟨fun i m H => m = n - i ∧ i ≤ n ∧ Pv i H, ⟨n, rfl, Nat.zero_le _, h0⟩, ?_⟩
  rintro i m H ⟨rfl, hi, p⟩
  by_cases hlt : i < n
  · exact .inr ⟨w.goes i H hlt (hG i H hi p), Pv (i + 1), fun H' p' => ⟨n - (i + 1), by omega, rfl, hlt, p'⟩, fun x H' y => hs i x H H' hlt p (w.yields i H x H' hlt (hG i H hi p) y)⟩
  · have e : i = n := by omega
    subst e
    exact .inl ⟨w.stops H (hG _ H hi p), hd H p⟩
end
end DL
set_option maxHeartbeats 1000000
/-! DL14: x = {k: v for ..} of a local name. -/
namespace DL
open PySem PySem.Spec PyProof.Rows L2
section
variable {X : Cx}
theorem ps_setDc {i : Nat} {y : Str} {py : Pos} {kx vx tg iter : Expr} {ifs : List Expr} {scope : Scope} {own : List (Str × Nat)} {pos spos : Pos} {wi : TI} {g : TG} {tt : TT} {tk tv : TE} (hc : X.calm = true) (hN : X.N.Nodup) (hy : X.N[i]? = some y) (hyl : X.env.scope.names.lookup y = some .local)
    (hsw : swapsWith (.DictComp kx vx [⟨tg, iter, ifs, 0⟩] scope pos) (some (.Name y py)) spos.line X.env = pure true) (hi : PI X tg iter wi) (ok : BlkOk X.N X.env.scope scope own)
    (hg : ∀ (s : Shared) (H : Hp) (C : Addr) (cl : List (Str × Addr)) (fp : List Addr), PG (X.blk s H scope (compEnvC scope cl C X.env) fp) tg g) (ht : ∀ (s : Shared) (H : Hp) (C : Addr) (cl : List (Str × Addr)) (fp : List Addr), PTs (X.blk s H scope (compEnvC scope cl C X.env) fp) ifs tt) (hk : ∀ (s : Shared) (H : Hp) (C : Addr) (cl : List (Str × Addr)) (fp : List Addr), PE (X.blk s H scope (compEnvC scope cl C X.env) fp) kx tk)
    (he : ∀ (s : Shared) (H : Hp) (C : Addr) (cl : List (Str × Addr)) (fp : List Addr), PE (X.blk s H scope (compEnvC scope cl C X.env) fp) vx tv) (hs : ∀ x, foldedSetIterable iter X.env x = pure x := by intro _; rfl) :
    PS X (.Assign [.Name y py] (.DictComp kx vx [⟨tg, iter, ifs, 0⟩] scope pos) spos) (tAsg (tDc wi g tt tk tv (own.map (·.2))) (gName i)) := by
  refine ⟨fun pins s σ H D I h0 => ?_⟩
  rw [exec_Assign_Name_used _ _ _ _ hsw]
  refine wpAny_bind (wpAny_standAt (wpAny_bind ?_))
  show wpAny _ X.A (do let _ ← comprehension (.DictComp kx vx [⟨tg, iter, ifs, 0⟩] scope pos) scope X.env (firstIterPos [⟨tg, iter, ifs, 0⟩] pos) newDict false (eval iter X.env) (some (assign (.Name y py) X.env))) _ _ s
  have h1 : tDc wi g tt tk tv (own.map (·.2)) σ H (fun x H1 => gName i x σ H1 D.nx) := h0
  refine wpAny_bind (thn (dc_core (Qf := fun _ s' => SP X pins D .next s') hc hN I hi ok hg ht hk he hs h1 fun L C s' m H' I' q hn ff => ?_) fun _ s' hq => wpAny_pure (wpAny_pure hq))
  show wpAny _ _ (assign (.Name y py) X.env (.ref L)) _ _ _
  refine wpAny_assign_Name (store_ok2 (v := V.ref L) I' hN hy (.inl hyl) rfl (fun s2 I2 ⟨a, sb, ha⟩ => ?_) (.inr hyl))
  obtain ⟨g0, g1, g2, g3, g4, g5⟩ := ff
  have hCa : C ≠ a := by
    rcases ha with z | z
    · rw [z]
      exact g1
    · exact fun e => g4 y a z e.symm
  exact ⟨m, hn.sameBut sb hCa, fun h3 sb3 => ⟨_, H', I2.turned (t' := s2.toks) (fun b o hb e => (sb3.2 b hb).trans e) g0 g1 g3 g4 g5, q⟩⟩
theorem sw_trueD {kx vx : Expr} {gs : List Comprehension} {scope : Scope} {pos py : Pos} {y : Str} {l : Nat} {env : Env} (h1 : env.scope.kind = .function) (h2 : env.scope.names.lookup y = some .local) (h3 : (py.line == pos.line) = true)
    (h4 : (scope.names.any fun (n, k) => n == y && (k == .local || k == .cell)) = false) : swapsWith (.DictComp kx vx gs scope pos) (some (.Name y py)) l env = pure true := by
  have k1 : env.kindOf y = some .local := h2
  have k2 : env.blockKind = .function := by
    unfold Env.blockKind
    rw [h1]
    rfl
  unfold swapsWith
  simp only [k2, k1, h4, Expr.pos, h3]
  rfl
end
section
variable {K : PySem.W.Frag} {ρ : List Sl} {ta tb : TE}
theorem ev_inDS {kvs : List (Key × D)} {x : Str} (hk : EV K ta ρ (.str x)) (h : EV K tb ρ (dkD kvs)) : EV K (tDIn ta tb) ρ (.bool (hasG kvs (.inr x))) := ev_inD hk rfl h
theorem ev_ninDS {kvs : List (Key × D)} {x : Str} (hk : EV K ta ρ (.str x)) (h : EV K tb ρ (dkD kvs)) : EV K (tDNotIn ta tb) ρ (.bool (!hasG kvs (.inr x))) := ev_ninD hk rfl h
end
end DL
set_option maxHeartbeats 1000000
/-! DL15: a dict of owned lists. -/
namespace DL
open PySem PySem.Spec PyProof.Rows L2
def getL : List (Key × List D) → Key → Option (List D)
  | [], _ => none
  | (k', ds) :: r, k => if k' = k then some ds else getL r k
def appL : List (Key × List D) → Key → D → List (Key × List D)
  | [], _, _ => []
  | (k', ds) :: r, k, d => if k' = k then (k', ds ++ [d]) :: r else (k', ds) :: appL r k d
section
variable {K : PySem.W.Frag} {G H : Hp}
theorem NeL.get {k : Key} {ds : List D} : ∀ {es : List (Key × V)} {as : List Addr} {kls : List (Key × List D)}, NeL K G H es as kls → getL kls k = some ds → ∃ a vs, valV es k = some (.ref a) ∧ a ∈ as ∧ H a = some (.lst vs) ∧ DqA K G vs ds
  | _, _, _, .nil, e => by cases e
  | _, _, _, @NeL.cons _ _ _ k' a vs ds' es as kls h r t, e => by
    unfold getL at e
    by_cases q : k' = k
    · rw [if_pos q] at e
      cases e
      exact ⟨a, vs, valV_pos q, List.mem_cons_self .., h, r⟩
    · rw [if_neg q] at e
      obtain ⟨b, us, h1, h2, h3, h4⟩ := NeL.get t e
      exact ⟨b, us, by rw [valV_neg (p := (k', V.ref a)) q]; exact h1, List.mem_cons_of_mem _ h2, h3, h4⟩
theorem NeL.keep {a : Addr} {o : HO} : ∀ {es : List (Key × V)} {as : List Addr} {kls : List (Key × List D)}, NeL K G H es as kls → a ∉ as → NeL K G (upd H a o) es as kls
  | _, _, _, .nil, _ => .nil
  | _, _, _, .cons h r t, n => .cons (by rw [upd_ne fun z => n (by rw [z]; exact List.mem_cons_self ..)]; exact h) r (NeL.keep t fun z => n (List.mem_cons_of_mem _ z))
theorem NeL.upd {k : Key} {ds : List D} {v : V} {d : D} (hv : Dq K G v d) : ∀ {es : List (Key × V)} {as : List Addr} {kls : List (Key × List D)} {a : Addr} {vs : List V}, NeL K G H es as kls → as.Nodup → getL kls k = some ds → valV es k = some (.ref a) → H a = some (.lst vs) → NeL K G (upd H a (.lst (vs ++ [v]))) es as (appL kls k d)
  | _, _, _, _, _, .nil, _, e, _, _ => by cases e
  | _, _, _, a, vs, @NeL.cons _ _ _ k' b us ds' es as kls h r t, nd, e, ev, ha => by
    unfold getL at e
    unfold appL
    obtain ⟨n1, n2⟩ := List.nodup_cons.mp nd
    by_cases q : k' = k
    · rw [valV_pos (p := (k', V.ref b)) q] at ev
      injection ev with ev
      injection ev with ev
      have ev : b = a := ev
      subst ev
      rw [if_pos q]
      rw [h] at ha
      cases ha
      exact .cons upd_same (r.append (.one hv)) (t.keep n1)
    · rw [if_neg q] at e
      rw [valV_neg (p := (k', V.ref b)) q] at ev
      rw [if_neg q]
      have ne : b ≠ a := by
        rintro rfl
        obtain ⟨c, ws, h1, h2, _⟩ := NeL.get t e
        rw [ev] at h1
        cases h1
        exact n1 h2
      exact .cons (by rw [upd_ne ne]; exact h) r (NeL.upd hv t n2 e ev ha)
end
section
variable {K : PySem.W.Frag} {G0 H0 G H : Hp} {σ : L2.St} {ρ : List Sl} {Ex : XK} {ta tb te : TE} {d : D} {P : Oc → Prop}
theorem En.look (E : En K G0 H0 G H σ ρ) {n : Nat} {kls : List (Key × List D)} (hi : ρ[n]? = some (.ne kls)) : ∃ l as es, σ[n]? = some (some (.ref l)) ∧ H l = some (.dK es) ∧ NeL K G H es as kls ∧ (l :: as).Nodup ∧ ∀ a ∈ l :: as, H0 a = none ∧ G a = none ∧ ∀ (j : Nat) (e : D), ρ[j]? = some (Sl.ow e) → σ[j]? ≠ some (some (V.ref a)) := by
  obtain ⟨l, as, h1, ⟨⟨es, h2, h3⟩, h4⟩, h5⟩ := E.ne n kls hi
  exact ⟨l, as, es, h1, h2, h3, h4, h5⟩
/-- one list of it is changed -/
theorem En.writeN (E : En K G0 H0 G H σ ρ) {n : Nat} {kls lls : List (Key × List D)} {l a : Addr} {as : List Addr} {es : List (Key × V)} {o : HO} (hi : ρ[n]? = some (.ne kls)) (hl : σ[n]? = some (some (.ref l))) (hd : H l = some (.dK es)) (nd : (l :: as).Nodup) (ha : a ∈ as)
    (hf : ∀ a ∈ l :: as, H0 a = none ∧ G a = none ∧ ∀ (j : Nat) (e : D), ρ[j]? = some (Sl.ow e) → σ[j]? ≠ some (some (V.ref a))) (h : NeL K G (upd H a o) es as lls) : En K G0 H0 G (upd H a o) σ (ρ.set n (.ne lls)) := by
  obtain ⟨f1, f2, f3⟩ := hf a (List.mem_cons_of_mem _ ha)
  have hla : l ≠ a := fun z => (List.nodup_cons.mp nd).1 (by rw [z]; exact ha)
  have hil : n < ρ.length := (List.getElem?_eq_some_iff.mp hi).1
  have ghn : GH G (upd H a o) := fun b u r => by
    have ne : b ≠ a := by
      rintro rfl
      rw [f2] at r
      cases r
    exact (E.gh b u r).eq (upd_ne ne)
  have old : ∀ {j : Nat} {e : D}, (ρ.set n (.ne lls))[j]? = some (Sl.ow e) → ρ[j]? = some (Sl.ow e) := fun {j e} z => by
    rcases set_get? z with ⟨_, _, x⟩ | ⟨_, z⟩
    · cases x
    · exact z
  refine ⟨by rw [List.length_set, E.len], ⟨E.ext.gg, fun b u e => by rw [upd_ne (ne_of_none e f1)]; exact E.ext.hh b u e, ghn, E.ext.own⟩, fun j e q => ?_, fun j e q => ?_, fun j b dd fl q => ?_, fun j k e e' b q q' => E.dis j k e e' b (old q) (old q'), fun j ks q => ?_, fun j k x y q q' => ?_⟩
  · rcases set_get? q with ⟨_, _, x⟩ | ⟨_, q⟩
    · cases x
    · exact E.fr j e q
  · obtain ⟨b, a1, a2, a3, a4⟩ := E.ow j e (old q)
    have hb : b ≠ a := fun z => f3 j e (old q) (by rw [← z]; exact a1)
    exact ⟨b, a1, a2, a3, a4.ext (Sub.refl G) (upd_ne hb)⟩
  · rcases set_get? q with ⟨_, _, x⟩ | ⟨_, q⟩
    · cases x
    · exact E.ex j b dd fl q
  · rcases set_get? q with ⟨rfl, _, x⟩ | ⟨nj, q⟩
    · cases x
      exact ⟨l, as, hl, ⟨⟨es, by rw [upd_ne hla]; exact hd, h⟩, nd⟩, fun b hb => ⟨(hf b hb).1, (hf b hb).2.1, fun k e z => (hf b hb).2.2 k e (old z)⟩⟩
    · exact absurd (E.ned j n ks kls q hi) nj
  · have hx : ∀ {j : Nat} {x : List (Key × List D)}, (ρ.set n (.ne lls))[j]? = some (Sl.ne x) → j = n := fun {j x} z => by
      rcases set_get? z with ⟨e, _, _⟩ | ⟨_, z⟩
      · exact e
      · exact E.ned j n x kls z hi
    rw [hx q, hx q']
/-- d[k].append(e) -/
theorem st_nappend {n : Nat} {kls : List (Key × List D)} {k : Key} {dk : D} {ds : List D} (hi : ρ[n]? = some (.ne kls)) (hk : EV K tb ρ dk) (ek : dk = kD k) (hg : getL kls k = some ds) (h : EV K te ρ d) (hz : ds.length < 16000000) (q : P (.nx (ρ.set n (.ne (appL kls k d))))) :
    ST K Ex (tDrop (tBM K "list" rAppend (tDGet (tVar n) tb) (tCons te tNil))) ρ P := fun G0 H0 G H σ D E f => by
  obtain ⟨l, _, h1, _⟩ := E.ne n kls hi
  subst ek
  refine ⟨_, h1, hk G0 H0 G H σ _ E fun y G1 H1 e1 hy => ?_⟩
  obtain ⟨l', as, es, g1, g2, g3, g4, g5⟩ := (E.go e1).look hi
  rw [h1] at g1
  cases g1
  obtain ⟨a, vs, b1, b2, b3, b4⟩ := g3.get hg
  have ey := key_dq hy
  subst ey
  refine ⟨l, .ref a, rfl, .inl ⟨es, k, .inl g2, rfl, b1.symm⟩, .inl ⟨rfl, vs, SqL.of b3⟩, h G0 H0 G1 H1 σ _ (E.go e1) fun v G2 H2 e2 hv => ?_⟩
  have E2 := (E.go e1).go e2
  obtain ⟨l2, as2, es2, c1, c2, c3, c4, c5⟩ := E2.look hi
  rw [h1] at c1
  cases c1
  have d2 := e2.at (g5 _ (List.mem_cons_self ..)).2.1 g2
  rw [c2] at d2
  cases d2
  have d3 := g3.det c3
  subst d3
  have d4 := e2.at (g5 _ (List.mem_cons_of_mem _ b2)).2.1 b3
  exact ⟨a, vs, v, rfl, rfl, d4, by rw [b4.length, sizeLine_eq]; omega, f.nx _ _ _ _ q (E2.writeN hi h1 c2 c4 b2 c5 (NeL.upd hv c3 (List.nodup_cons.mp c4).2 hg b1 d4))⟩
/-- what it is when it is frozen -/
def neD (kls : List (Key × List D)) : D := dkD (kls.map fun p => (p.1, .list p.2))
theorem NeL.frz {G' : Hp} (g : Sub G G') : ∀ {es : List (Key × V)} {as : List Addr} {kls : List (Key × List D)}, NeL K G H es as kls → (∀ a ∈ as, G' a = H a) → DqV K G' es (kls.map fun p => (p.1, .list p.2))
  | _, _, _, .nil, _ => .nil
  | _, _, _, .cons h r t, e => .cons (.lst ((e _ (List.mem_cons_self ..)).trans h) (r.mono g)) (NeL.frz g t fun a ha => e a (List.mem_cons_of_mem _ ha))
theorem En.freezeN (E : En K G0 H0 G H σ ρ) {n : Nat} {kls : List (Key × List D)} (hi : ρ[n]? = some (.ne kls)) : ∃ G', En K G0 H0 G' H σ (ρ.set n (.fr (neD kls))) ∧ ∀ l, σ[n]? = some (some (.ref l)) → G' l = H l := by
  obtain ⟨l, as, es, h1, h2, h3, h4, h5⟩ := E.look hi
  let G' : Hp := fun a => if a ∈ l :: as then H a else G a
  have gin : ∀ a ∈ l :: as, G' a = H a := fun a ha => if_pos ha
  have gout : ∀ a, a ∉ l :: as → G' a = G a := fun a ha => if_neg ha
  have gg : ∀ a u, G a = some u → G' a = some u := fun a u e => by
    rw [gout a fun z => by rw [(h5 a z).2.1] at e; cases e]
    exact e
  have gh' : GH G' H := fun a u r => by
    by_cases ha : a ∈ l :: as
    · rw [gin a ha] at r
      exact .of r ((show NeC K G H l as kls from ⟨⟨es, h2, h3⟩, h4⟩).there2 ha r)
    · rw [gout a ha] at r
      exact E.gh a u r
  have hil : n < ρ.length := (List.getElem?_eq_some_iff.mp hi).1
  have old : ∀ {j : Nat} {e : D}, (ρ.set n (.fr (neD kls)))[j]? = some (Sl.ow e) → ρ[j]? = some (Sl.ow e) := fun {j e} z => by
    rcases set_get? z with ⟨_, _, x⟩ | ⟨_, z⟩
    · cases x
    · exact z
  have non : ∀ {j : Nat} {x : List (Key × List D)}, (ρ.set n (.fr (neD kls)))[j]? = some (Sl.ne x) → False := fun {j x} z => by
    rcases set_get? z with ⟨_, _, x⟩ | ⟨nj, z⟩
    · cases x
    · exact nj (E.ned j n x kls z hi)
  refine ⟨G', ⟨by rw [List.length_set, E.len], ⟨fun a u e => gg a u (E.ext.gg a u e), E.ext.hh, gh', fun a u e t z => ?_⟩, fun j e q => ?_, fun j e q => ?_, fun j b dd fl q => ?_, fun j k e e' b q q' => E.dis j k e e' b (old q) (old q'), fun j ks q => (non q).elim, fun j k x y q q' => (non q).elim⟩, fun m hm => gin m (by rw [h1] at hm; injection hm with hm; injection hm with hm; injection hm with hm; rw [← hm]; exact List.mem_cons_self ..)⟩
  · rw [gout a fun m => by rw [(h5 a m).1] at e; cases e]
    exact E.ext.own a u e t z
  · rcases set_get? q with ⟨rfl, _, x⟩ | ⟨_, q⟩
    · cases x
      exact ⟨_, h1, .dK (.inl ((gin l (List.mem_cons_self ..)).trans h2)) (DqV.k (h3.frz (Sub.of gg) fun a ha => gin a (List.mem_cons_of_mem _ ha)))⟩
    · obtain ⟨v, a1, a2⟩ := E.fr j e q
      exact ⟨v, a1, a2.mono (Sub.of gg)⟩
  · obtain ⟨b, a1, a2, a3, a4⟩ := E.ow j e (old q)
    have hb : b ∉ l :: as := fun m => (h5 b m).2.2 j e (old q) a1
    exact ⟨b, a1, a2, by rw [gout b hb]; exact a3, a4.ext (Sub.of gg) rfl⟩
  · rcases set_get? q with ⟨_, _, x⟩ | ⟨_, q⟩
    · cases x
    · obtain ⟨a1, fs, a2, a3⟩ := E.ex j b dd fl q
      exact ⟨a1, fs, gg _ _ a2, a3.mono (Sub.of gg)⟩
theorem q_frzN {t : TS} {n : Nat} {kls : List (Key × List D)} (hi : ρ[n]? = some (.ne kls)) (h : ST K Ex t (ρ.set n (.fr (neD kls))) P) : ST K Ex t ρ P := fun G0 H0 G H σ D E f => by
  obtain ⟨G', E', _⟩ := E.freezeN hi
  exact h G0 H0 G' H σ D E' f
/-! ### laying one -/
theorem NeL.ext {G' H' : Hp} (x : Ext G H G' H') {es : List (Key × V)} {as : List Addr} {kls : List (Key × List D)} (h : NeL K G H es as kls) (hG : ∀ a ∈ as, G a = none) : NeL K G' H' es as kls := h.go x.g fun a ha => by
  obtain ⟨vs, e⟩ := h.there a ha
  exact (x.at (hG a ha) e).trans e.symm
theorem NeL.none {k : Key} : ∀ {es : List (Key × V)} {as : List Addr} {kls : List (Key × List D)}, NeL K G H es as kls → getL kls k = none → valV es k = none
  | _, _, _, .nil, _ => rfl
  | _, _, _, @NeL.cons _ _ _ k' a vs ds es as kls h r t, e => by
    unfold getL at e
    by_cases q : k' = k
    · rw [if_pos q] at e
      cases e
    · rw [if_neg q] at e
      rw [valV_neg (p := (k', V.ref a)) q]
      exact NeL.none t e
theorem NeL.snoc {k : Key} {a : Addr} {vs : List V} {ds : List D} (h : H a = some (.lst vs)) (r : DqA K G vs ds) : ∀ {es : List (Key × V)} {as : List Addr} {kls : List (Key × List D)}, NeL K G H es as kls → NeL K G H (es ++ [(k, .ref a)]) (as ++ [a]) (kls ++ [(k, ds)])
  | _, _, _, .nil => .cons h r .nil
  | _, _, _, .cons h' r' t => .cons h' r' (NeL.snoc h r t)
/-- a new dict of owned lists -/
def EVL (K : PySem.W.Frag) (te : TE) (ρ : List Sl) (kls : List (Key × List D)) : Prop := ∀ (G0 H0 G H : Hp) (σ : L2.St) (Q : VK), En K G0 H0 G H σ ρ → (∀ l as G' H', Ext G H G' H' → (∀ a ∈ l :: as, H a = none ∧ G' a = none) → NeC K G' H' l as kls → Q (.ref l) H') → te σ H Q
def klD (k : Nat → Key) (f : Nat → List D) (n : Nat) : List (Key × List D) := (List.range n).map fun i => (k i, f i)
/-- EI at one state -/
def EIp (K : PySem.W.Frag) (wi : TI) (σ : L2.St) (G H : Hp) (n : Nat) (item : Nat → D) : Prop := ∀ (R : It → Hp → Prop),
  (∀ J G' H' Gd Y, Ext G H G' H' → Walk J n Gd Y → (∀ G2 H2, Ext G' H' G2 H2 → Gd H2) →
    (∀ i G2 H2 x H3, i < n → Ext G' H' G2 H2 → Y i H2 x H3 → ∃ G3, Ext G2 H2 G3 H3 ∧ Dq K G3 x (item i)) → R J H') → wi σ H R
theorem el_dc0 {wi : TI} {g : TG} {tt : TT} {tk tv : TE} {vs : List Nat} {n : Nat} {item : Nat → D} {k : Nat → Key} {f : Nat → List D} (E : En K G0 H0 G H σ ρ) (hi : EIp K wi σ G H n item) (hn : n ≤ 16000000) (hd : ∀ i, i < n → getL (klD k f i) (k i) = none)
    (hs : ∀ i, i < n → ∃ ρ2 ts, GT K g (wipeS ρ vs) (item i) ρ2 ts ∧ (∀ t ∈ ts, t ∈ vs) ∧ ET K tt ρ2 true ∧ EV K tk ρ2 (kD (k i)) ∧ EVN K tv ρ2 (.list (f i)))
    {Q : VK} (q : ∀ l as G' H', Ext G H G' H' → (∀ a ∈ l :: as, H a = none ∧ G' a = none) → NeC K G' H' l as (klD k f n) → Q (.ref l) H') : tDc wi g tt tk tv vs σ H Q :=
  hi _ fun J G1 H1 Gd Y x w hG hY Dl hD => by
    have E1 := E.go x
    refine dc_it w (fun i H' => ∃ G' es as, Ext G1 H1 G' H' ∧ G' Dl = none ∧ H' Dl = some (.dK es) ∧ NeL K G' H' es as (klD k f i) ∧ (Dl :: as).Nodup ∧ ∀ a ∈ as, H a = none ∧ G' a = none) ⟨G1, [], [], .fresh x.gh hD, x.gh.none hD, upd_same, .nil, List.nodup_cons.mpr ⟨fun h => (by cases h), List.nodup_nil⟩, fun a ha => (by cases ha)⟩ (fun i H' _ ⟨G', es, as, e, _⟩ => hG G' H' e) (fun i y H' H3 hlt ⟨G', es, as, e, n1, h1, r1, d1, f1⟩ hy => ?_)
      (fun H' ⟨G', es, as, e, n1, h1, r1, d1, f1⟩ => q Dl as G' H' (x.trans e) (fun a ha => (List.mem_cons.mp ha).elim (fun z => by rw [z]; exact ⟨x.gone hD, n1⟩) fun m => f1 a m) ⟨⟨es, h1, r1⟩, d1⟩)
    obtain ⟨G3, x3, hdq⟩ := hY i G' H' y H3 hlt e hy
    obtain ⟨ρ2, ts, hg, hts, ht, hk, hv⟩ := hs i hlt
    have E3 : En K G0 H0 G3 H3 (L2.wipe σ vs) (wipeS ρ vs) := ((E1.go e).go x3).wipe vs
    refine hg G0 H0 G3 H3 _ y _ E3 hdq fun σ2 E2 hl2 hk2 => ⟨wipe_eq (by rw [hl2, wipe_length]) hk2 hts, ?_⟩
    refine ht G0 H0 G3 H3 σ2 _ E2 fun G4 H4 x4 => ?_
    rw [if_pos rfl]
    refine hk G0 H0 G4 H4 σ2 _ (E2.go x4) fun u G5 H5 x5 hu => hv G0 H0 G5 H5 σ2 _ ((E2.go x4).go x5) fun p G6 H6 x6 hp5 hp6 ho => ?_
    have xx := ((x3.trans x4).trans x5).trans x6
    have eD := xx.at n1 h1
    have nD := xx.own _ _ h1 rfl n1
    have r6 := r1.ext xx fun a ha => (f1 a ha).2
    have e6 := e.trans xx
    cases ho with
    | @lst us _ hq hr =>
      have hpD : p ≠ Dl := fun z => by
        have := ((x3.trans x4).trans x5).at n1 h1
        rw [← z, hp5] at this
        cases this
      have hpa : p ∉ as := fun m => by
        obtain ⟨ws, hw⟩ := r1.there p m
        have := ((x3.trans x4).trans x5).at (f1 p m).2 hw
        rw [hp5] at this
        cases this
      have hpH : H p = none := x.gone (e.gone (((x3.trans x4).trans x5).gone hp5))
      have hput : putK es (k i) (.ref p) = es ++ [(k i, .ref p)] := putK_new _ (r1.none (hd i hlt))
      have hlen : es.length = i := by
        have : ∀ {es : List (Key × V)} {as : List Addr} {kls : List (Key × List D)}, NeL K G' H' es as kls → es.length = kls.length := by
          intro es as kls z
          induction z with
          | nil => rfl
          | cons _ _ _ ih => exact congrArg Nat.succ ih
        rw [this r1]
        unfold klD
        rw [List.length_map, List.length_range]
      obtain ⟨d2, d3⟩ := List.nodup_cons.mp d1
      have dup : Dl ∉ as ++ [p] := fun m => (List.mem_append.mp m).elim d2 fun z => hpD (List.mem_singleton.mp z).symm
      refine ⟨es, k i, key_dq hu, eD, by rw [hlen, sizeLine_eq]; omega, G6, es ++ [(k i, .ref p)], as ++ [p], ?_, nD, by rw [hput]; exact upd_same, ?_, ?_, fun a ha => ?_⟩
      · refine ⟨e6.gg, fun a o z => ?_, fun a o z => ?_, e6.own⟩
        · rw [upd_ne (ne_of_none z hD)]
          exact e6.hh a o z
        · exact (e6.gh a o z).eq (upd_ne (ne_of_none z nD))
      · have hkl : klD k f (i + 1) = klD k f i ++ [(k i, f i)] := by
          unfold klD
          rw [List.range_succ, List.map_append]
          rfl
        rw [hkl]
        exact (r6.snoc hq hr).keep dup
      · refine List.nodup_cons.mpr ⟨dup, List.nodup_append.mpr ⟨d3, List.nodup_cons.mpr ⟨fun h => (by cases h), List.nodup_nil⟩, fun a ha c hc z => ?_⟩⟩
        rw [List.mem_singleton.mp hc] at z
        subst z
        exact hpa ha
      · rcases List.mem_append.mp ha with ha | ha
        · obtain ⟨ws, hw⟩ := r1.there a ha
          exact ⟨(f1 a ha).1, xx.own _ _ hw rfl (f1 a ha).2⟩
        · rw [List.mem_singleton.mp ha]
          exact ⟨hpH, hp6⟩
theorem el_dc {wi : TI} {g : TG} {tt : TT} {tk tv : TE} {vs : List Nat} {n : Nat} {item : Nat → D} {k : Nat → Key} {f : Nat → List D} (hi : EI K wi ρ n item) (hn : n ≤ 16000000) (hd : ∀ i, i < n → getL (klD k f i) (k i) = none)
    (hs : ∀ i, i < n → ∃ ρ2 ts, GT K g (wipeS ρ vs) (item i) ρ2 ts ∧ (∀ t ∈ ts, t ∈ vs) ∧ ET K tt ρ2 true ∧ EV K tk ρ2 (kD (k i)) ∧ EVN K tv ρ2 (.list (f i))) :
    EVL K (tDc wi g tt tk tv vs) ρ (klD k f n) := fun G0 H0 G H σ Q E q => el_dc0 E (fun R z => hi G0 H0 G H σ R E fun J G' H' Gd Y x w hG hY => z J G' H' Gd Y x w (fun G2 H2 e => hG G2 H2 e.gg e.gh) fun i G2 H2 x' H3 l e y => hY i G2 H2 x' H3 l e.gg e.gh y) hn hd hs q
theorem En.setL {G' H' : Hp} (E : En K G0 H0 G H σ ρ) {n : Nat} {l : Addr} {as : List Addr} {kls : List (Key × List D)} (hno : ∀ (j : Nat) (x : List (Key × List D)), j ≠ n → ρ[j]? ≠ some (.ne x)) (x : Ext G H G' H') (hf : ∀ a ∈ l :: as, H a = none ∧ G' a = none) (h : NeC K G' H' l as kls) :
    En K G0 H0 G' H' (σ.set n (some (.ref l))) (ρ.set n (.ne kls)) := by
  have E1 := E.go x
  refine ⟨by rw [List.length_set, List.length_set, E.len], E1.ext, fun j e q => ?_, fun j e q => ?_, fun j b dd fl q => ?_, fun j k e e' b q q' r r' => ?_, fun j ks q => ?_, fun j k y z q q' => ?_⟩
  · rcases set_get? q with ⟨_, _, z⟩ | ⟨nj, q⟩
    · cases z
    · rw [List.getElem?_set_ne (Ne.symm nj)]
      exact E1.fr j e q
  · rcases set_get? q with ⟨_, _, z⟩ | ⟨nj, q⟩
    · cases z
    · rw [List.getElem?_set_ne (Ne.symm nj)]
      exact E1.ow j e q
  · rcases set_get? q with ⟨_, _, z⟩ | ⟨nj, q⟩
    · cases z
    · rw [List.getElem?_set_ne (Ne.symm nj)]
      exact E1.ex j b dd fl q
  · rcases set_get? q with ⟨_, _, z⟩ | ⟨nj, q⟩
    · cases z
    · rcases set_get? q' with ⟨_, _, z⟩ | ⟨nk, q'⟩
      · cases z
      · rw [List.getElem?_set_ne (Ne.symm nj)] at r
        rw [List.getElem?_set_ne (Ne.symm nk)] at r'
        exact E1.dis j k e e' b q q' r r'
  · rcases set_get? q with ⟨rfl, hi, z⟩ | ⟨nj, q⟩
    · cases z
      refine ⟨l, as, by rw [List.getElem?_set_self (by rw [E.len]; exact hi)], h, fun a ha => ⟨?_, (hf a ha).2, fun k e z => ?_⟩⟩
      · exact E.ext.gone (hf a ha).1
      · rcases set_get? z with ⟨_, _, y⟩ | ⟨nk, z⟩
        · cases y
        · rw [List.getElem?_set_ne (Ne.symm nk)]
          intro y
          obtain ⟨b, b1, _, _, b4⟩ := E.ow k e z
          rw [b1] at y
          injection y with y
          injection y with y
          injection y with y
          obtain ⟨o, ho, _⟩ := b4.there
          rw [y, (hf a ha).1] at ho
          cases ho
    · exact absurd q (hno j ks nj)
  · have only : ∀ {j : Nat} {y : List (Key × List D)}, (ρ.set n (Sl.ne kls))[j]? = some (Sl.ne y) → j = n := fun {j y} q => by
      rcases set_get? q with ⟨e, _, _⟩ | ⟨nj, q⟩
      · exact e
      · exact absurd q (hno j y nj)
    rw [only q, only q']
theorem st_asgL {n : Nat} {kls : List (Key × List D)} (h : EVL K te ρ kls) (hno : ∀ (j : Nat) (x : List (Key × List D)), j ≠ n → ρ[j]? ≠ some (.ne x)) (q : P (.nx (ρ.set n (.ne kls)))) : ST K Ex (tAsg te (gName n)) ρ P := fun G0 H0 G H σ D E f =>
  h G0 H0 G H σ _ E fun l as G' H' x hf c => f.nx _ _ G' H' q (E.setL hno x hf c)
theorem NeL.len : ∀ {es : List (Key × V)} {as : List Addr} {kls : List (Key × List D)}, NeL K G H es as kls → es.length = kls.length
  | _, _, _, .nil => rfl
  | _, _, _, .cons _ _ t => congrArg Nat.succ (NeL.len t)
end
end DL
set_option maxHeartbeats 1000000
/-! DL16: d.items() of a local dict of lists, locked; list.pop(); such a dict returned. -/
namespace DL
open PySem PySem.Spec PyProof.Rows L2
section
variable {K : PySem.W.Frag} {G0 H0 G H : Hp} {σ : L2.St} {ρ : List Sl} {Ex : XK} {ta tb te : TE} {tt : TT} {tu : TS} {d : D} {P : Oc → Prop}
theorem DqV.at {κ : Type} {z : κ × D} : ∀ {es : List (κ × V)} {kvs : List (κ × D)} {i : Nat}, DqV K G es kvs → i < kvs.length → ∃ k v, es[i]? = some (k, v) ∧ k = (kvs.getD i z).1 ∧ Dq K G v (kvs.getD i z).2
  | _, _, _, .nil, h => absurd h (Nat.not_lt_zero _)
  | _, _, 0, .cons a b, h => ⟨_, _, rfl, rfl, a⟩
  | _, _, i + 1, .cons a b, h => by
    obtain ⟨k, v, h1, h2, h3⟩ := DqV.at (z := z) (i := i) b (by simpa using h)
    exact ⟨k, v, by rw [List.getElem?_cons_succ]; exact h1, by rw [List.getD_cons_succ]; exact h2, by rw [List.getD_cons_succ]; exact h3⟩
def notNe : Sl → Bool
  | .ne _ => false
  | _ => true
theorem hno_of {n : Nat} (h : (ρ.set n .no).all notNe = true) (j : Nat) (x : List (Key × List D)) (hj : j ≠ n) : ρ[j]? ≠ some (.ne x) := fun e => by
  have : (ρ.set n Sl.no)[j]? = some (.ne x) := by rw [List.getElem?_set_ne (Ne.symm hj)]; exact e
  have := List.all_eq_true.mp h _ (List.mem_of_getElem? this)
  cases this
/-- x = a new dict of lists -/
theorem q_asgL {n : Nat} {kls : List (Key × List D)} (h : EVL K te ρ kls) (hno : (ρ.set n .no).all notNe = true) (q : ST K Ex tu (ρ.set n (.ne kls)) P) : ST K Ex (tSeq (tAsg te (gName n)) tu) ρ P := st_seq (st_asgL h (hno_of hno) q)
end
end DL
set_option maxHeartbeats 1000000
/-! DL17: lists of texts and of pairs as data, picks by remainder. -/
namespace DL
open PySem PySem.Spec PyProof.Rows L2
def pI (ps : List Int) (i : Int) : Int := ps.getD i.toNat 0
def chS (z : Str) (i : Int) : Str := ⟨#[z.cps.toList.getD i.toNat 0]⟩
def addP (qs : List (Str × Str)) (p : Str × Str) : List (Str × Str) := if p ∈ qs then qs else qs ++ [p]
def sides4 : List Str := ["E", "N", "W", "S"]
theorem mod_nat {p m : Int} {k : Nat} (hm : m = (k : Nat)) (h : 0 < k) : (p % m).toNat < k := by
  subst hm
  have h0 : 0 ≤ p % (k : Int) := Int.emod_nonneg _ (by omega)
  have h1 : p % (k : Int) < k := Int.emod_lt_of_pos _ (by omega)
  omega
theorem chS_list (z : Str) (i : Int) : (chS z i).cps.toList = [z.cps.toList.getD i.toNat 0] := rfl
theorem eqv_str (a b : Str) : PyData.eqv (.str a) (.str b) = decide (a = b) := by
  by_cases h : a = b
  · subst h
    simp [PyData.eqv]
  · simp [PyData.eqv, h]
theorem map_cut {ns : List Int} (lo hi : Option Int) : ∃ ms : List Int, cutDs (ns.map PyData.int) lo hi = ms.map PyData.int ∧ ms.length ≤ ns.length := by
  refine ⟨(ns.drop (HT.sIx ns.length 0 lo)).take (HT.sIx ns.length ns.length hi - HT.sIx ns.length 0 lo), ?_, ?_⟩
  · unfold cutDs
    rw [List.length_map, List.map_take, List.map_drop]
  · rw [List.length_take, List.length_drop]
    omega
theorem lcD_all {b : Nat → Bool} {f : Nat → D} {g : Nat → Int} (hb : ∀ i, b i = true) : ∀ {n : Nat}, (∀ i, i < n → f i = .int (g i)) → lcD n b f = ((List.range n).map g).map PyData.int
  | 0, _ => rfl
  | n + 1, h => by
    unfold lcD
    rw [if_pos (hb n), lcD_all hb (fun i hi => h i (by omega)), List.range_succ, List.map_append, List.map_append, h n (by omega)]
    rfl
theorem getD_map_int {ms : List Int} {i : Nat} (hi : i < ms.length) : (ms.map PyData.int).getD i .none = .int (ms.getD i 0) := by
  rw [List.getD_eq_getElem?_getD, List.getD_eq_getElem?_getD, List.getElem?_map]
  simp [hi]
theorem map_set {ms : List Int} {j : Nat} {v : Int} : (ms.map PyData.int).set j (.int v) = (ms.set j v).map PyData.int := (List.map_set ..).symm
theorem map_add {ms : List Int} {v : Int} : ms.map PyData.int ++ [PyData.int v] = (ms ++ [v]).map PyData.int := by rw [List.map_append]; rfl
theorem pI_get {ps : List Int} {i : Int} (h0 : 0 ≤ i) (h1 : i < ps.length) : atI (ps.map PyData.int) i = some (.int (pI ps i)) := atI_ints h0 h1
theorem ch_at {z : Str} {i : Int} (h0 : 0 ≤ i) (h1 : i < z.cps.toList.length) : atI z.cps.toList i = some (z.cps.toList.getD i.toNat 0) := atI_nn (α := Nat) 0 h0 h1
theorem ite_str {c : Bool} {a b : Str} : (if c = true then (PyData.str a) else .str b) = .str (if c = true then a else b) := by cases c <;> rfl
theorem keyQ_inj {p q : Str × Str} (h : keyQ p = keyQ q) : p = q := by
  unfold keyQ at h
  injection h with h1 h2
  injection h2 with h2
  injection h1 with h1
  injection h2 with h2
  exact Prod.ext h1 h2
theorem putQ (qs : List (Str × Str)) (p : Str × Str) : putG (qs.map fun p => (keyQ p, PyData.bool true)) (keyQ p) (.bool true) = (addP qs p).map fun p => (keyQ p, PyData.bool true) := by
  have hany : ((qs.map fun p => (keyQ p, PyData.bool true)).any fun kv => decide (kv.1 = keyQ p)) = decide (p ∈ qs) := by
    rw [List.any_map, Bool.eq_iff_iff, List.any_eq_true, decide_eq_true_eq]
    constructor
    · rintro ⟨q, hq, e⟩
      rw [← keyQ_inj (of_decide_eq_true e)]
      exact hq
    · intro h
      exact ⟨p, h, decide_eq_true rfl⟩
  unfold putG addP
  rw [hany]
  by_cases h : p ∈ qs
  · rw [if_pos (decide_eq_true h), if_pos h, List.map_map]
    refine List.map_congr_left fun q _ => ?_
    simp only [Function.comp]
    split <;> rfl
  · rw [if_neg (by simpa using h), if_neg h, List.map_append]
    rfl
theorem addP_len (qs : List (Str × Str)) (p : Str × Str) : (addP qs p).length ≤ qs.length + 1 := by
  unfold addP
  split
  · omega
  · rw [List.length_append]
    exact Nat.le_refl _
theorem inD_str {z : Str} {ns : List Str} : inD (.str z) (ns.map PyData.str) = decide (z ∈ ns) := by
  unfold inD
  rw [List.any_map, Bool.eq_iff_iff, List.any_eq_true, decide_eq_true_eq]
  constructor
  · rintro ⟨x, hx, e⟩
    have e : PyData.eqv (.str x) (.str z) = true := e
    rw [eqv_str, decide_eq_true_eq] at e
    rw [← e]
    exact hx
  · intro h
    refine ⟨z, h, ?_⟩
    show PyData.eqv (.str z) (.str z) = true
    rw [eqv_str]
    exact decide_eq_true rfl
theorem sorted_lt {α : Type} {lt : α → α → Bool} (O : Sto lt) {l : List α} (hp : l.Pairwise fun x y => lt y x = false) (nd : l.Nodup) : l.Pairwise fun x y => lt x y = true := by
  have := hp.and nd
  refine this.imp fun {x y} h => ?_
  cases q : lt x y with
  | true => rfl
  | false => exact absurd (O.eq q h.1) h.2
theorem getD_str {zs : List Str} {i : Nat} (hi : i < zs.length) : (zs.map PyData.str).getD i .none = .str (zs.getD i Str.empty) := by
  rw [List.getD_eq_getElem?_getD, List.getD_eq_getElem?_getD, List.getElem?_map, List.getElem?_eq_getElem hi]
  rfl
theorem getD_mem {α : Type} {zs : List α} {i : Nat} {z : α} (hi : i < zs.length) : zs.getD i z ∈ zs := by
  rw [List.getD_eq_getElem?_getD, List.getElem?_eq_getElem hi]
  exact List.getElem_mem hi
theorem getD_map {qs : List (Str × Str)} {i : Nat} (hi : i < qs.length) : (qs.map pqD).getD i .none = pqD (qs.getD i (Str.empty, Str.empty)) := by
  rw [List.getD_eq_getElem?_getD, List.getD_eq_getElem?_getD, List.getElem?_map, List.getElem?_eq_getElem hi]
  rfl
theorem app_list (a b : Str) : (a ++ b).cps.toList = a.cps.toList ++ b.cps.toList := by
  show (a.cps ++ b.cps).toList = _
  rw [Array.toList_append]
theorem strs_flat (zs : List Str) : (zs.map PyData.str).all flatD = true := by
  rw [List.all_map]
  exact List.all_eq_true.mpr fun _ _ => rfl
/-! ### dicts of lists of texts -/
def mkL (keys : List Str) (f : Str → List Str) : List (Key × List D) := keys.map fun k => (.inr k, (f k).map PyData.str)
section
variable {keys : List Str} {f g : Str → List Str} {a v : Str}
theorem getL_mk : ∀ {keys : List Str}, a ∈ keys → getL (mkL keys f) (.inr a) = some ((f a).map PyData.str)
  | k :: ks, h => by
    show (if (Sum.inr k : Key) = .inr a then _ else _) = _
    by_cases e : k = a
    · subst e
      rw [if_pos rfl]
    · rw [if_neg fun z => e (Sum.inr.inj z)]
      exact getL_mk ((List.mem_cons.mp h).resolve_left (Ne.symm e))
theorem mkL_congr (h : ∀ k ∈ keys, f k = g k) : mkL keys f = mkL keys g := List.map_congr_left fun k hk => by rw [h k hk]
theorem appL_mk : ∀ {keys : List Str}, keys.Nodup → appL (mkL keys f) (.inr a) (.str v) = mkL keys fun k => if k = a then f k ++ [v] else f k
  | [], _ => rfl
  | k :: ks, nd => by
    obtain ⟨n1, n2⟩ := List.nodup_cons.mp nd
    show (if (Sum.inr k : Key) = .inr a then (Sum.inr k, (f k).map PyData.str ++ [PyData.str v]) :: mkL ks f else (Sum.inr k, (f k).map PyData.str) :: appL (mkL ks f) (.inr a) (.str v)) = (Sum.inr k, (if k = a then f k ++ [v] else f k).map PyData.str) :: mkL ks _
    by_cases e : k = a
    · subst e
      rw [if_pos rfl, if_pos rfl, List.map_append]
      refine congrArg _ (mkL_congr fun j hj => ?_)
      rw [if_neg fun z => n1 (by rw [← z]; exact hj)]
    · rw [if_neg fun z => e (Sum.inr.inj z), if_neg e, appL_mk n2]
theorem getG_mk : ∀ {keys : List Str}, a ∈ keys → getG ((mkL keys f).map fun p => (p.1, PyData.list p.2)) (.inr a) = some (.list ((f a).map PyData.str))
  | k :: ks, h => by
    by_cases e : k = a
    · subst e
      unfold getG mkL
      simp
    · have ih := getG_mk ((List.mem_cons.mp h).resolve_left (Ne.symm e))
      unfold getG mkL at ih ⊢
      rw [List.map_cons, List.map_cons, List.find?_cons_of_neg (by simpa using e)]
      exact ih
theorem klD_mk {kf : Nat → Key} {ff : Nat → List D} (hk : ∀ i, i < keys.length → kf i = .inr (keys.getD i Str.empty)) (hf : ∀ i, i < keys.length → ff i = (g (keys.getD i Str.empty)).map PyData.str) : klD kf ff keys.length = mkL keys g := by
  unfold klD mkL
  refine List.ext_getElem (by simp) fun i h1 h2 => ?_
  have hi : i < keys.length := by simpa using h2
  rw [List.getElem_map, List.getElem_range, List.getElem_map, hk i hi, hf i hi, List.getD_eq_getElem?_getD, List.getElem?_eq_getElem hi]
  rfl
theorem klD_new {kf : Nat → Key} {ff : Nat → List D} (nd : keys.Nodup) (hk : ∀ i, i < keys.length → kf i = .inr (keys.getD i Str.empty)) {i : Nat} (hi : i < keys.length) : getL (klD kf ff i) (kf i) = none := by
  have key : ∀ n, n ≤ i → getL (klD kf ff n) (kf i) = none := by
    intro n
    have hgen : ∀ (l : List (Key × List D)) (k : Key), (∀ p ∈ l, p.1 ≠ k) → getL l k = none := by
      intro l k h
      induction l with
      | nil => rfl
      | cons p r ih =>
        obtain ⟨k', ds⟩ := p
        show (if k' = k then _ else _) = _
        rw [if_neg (h (k', ds) (List.mem_cons_self ..))]
        exact ih fun p hp => h p (List.mem_cons_of_mem _ hp)
    intro hn
    refine hgen _ _ fun p hp e => ?_
    unfold klD at hp
    obtain ⟨j, hj, rfl⟩ := List.mem_map.mp hp
    have hj : j < n := List.mem_range.mp hj
    have e : kf j = kf i := e
    rw [hk j (by omega), hk i hi] at e
    have e := Sum.inr.inj e
    rw [List.getD_eq_getElem?_getD, List.getD_eq_getElem?_getD, List.getElem?_eq_getElem hi, List.getElem?_eq_getElem (by omega : j < keys.length)] at e
    exact List.pairwise_iff_getElem.mp nd j i (by omega) hi (by omega) e
  exact key i (Nat.le_refl _)
end
section
variable {K : PySem.W.Frag} {ρ : List Sl} {Ex : XK} {ta tb te : TE} {tt : TT} {u : TS} {P : Oc → Prop} {keys : List Str} {f : Str → List Str} {a v : Str}
theorem ev_nget (h : EV K ta ρ (neD (mkL keys f))) (hk : EV K tb ρ (.str a)) (ha : a ∈ keys) : EV K (tDGet ta tb) ρ (.list ((f a).map PyData.str)) := ev_getD (k := .inr a) h hk rfl (getG_mk ha)
theorem st_napp {n : Nat} (hi : ρ[n]? = some (.ne (mkL keys f))) (hk : EV K tb ρ (.str a)) (ha : a ∈ keys) (nd : keys.Nodup) (h : EV K te ρ (.str v)) (hz : (f a).length < 16000000) (q : P (.nx (ρ.set n (.ne (mkL keys fun k => if k = a then f k ++ [v] else f k))))) :
    ST K Ex (tDrop (tBM K "list" rAppend (tDGet (tVar n) tb) (tCons te tNil))) ρ P := st_nappend (k := .inr a) hi hk rfl (getL_mk ha) h (by rw [List.length_map]; exact hz) (by rw [appL_mk nd]; exact q)
/-- a dict that says True of each of its texts -/
def bS (ys : List Str) : List (Key × D) := ys.map fun y => (.inr y, .bool true)
theorem has_bS {ys : List Str} {y : Str} : hasG (bS ys) (.inr y) = decide (y ∈ ys) := by
  unfold hasG getG bS
  rw [Option.isSome_map, Bool.eq_iff_iff, List.find?_isSome, decide_eq_true_eq]
  constructor
  · rintro ⟨x, hx, e⟩
    obtain ⟨z, hz, rfl⟩ := List.mem_map.mp hx
    rw [← Sum.inr.inj (of_decide_eq_true e)]
    exact hz
  · exact fun h => ⟨_, List.mem_map.mpr ⟨y, h, rfl⟩, decide_eq_true rfl⟩
theorem put_bS {ys : List Str} {y : Str} (h : y ∉ ys) : putG (bS ys) (.inr y) (.bool true) = bS (ys ++ [y]) := by
  have : hasG (bS ys) (.inr y) = false := by rw [has_bS]; exact decide_eq_false h
  unfold putG
  rw [if_neg]
  · unfold bS
    rw [List.map_append]
    rfl
  · rw [List.any_eq_true]
    rintro ⟨x, hx, e⟩
    unfold bS at hx
    obtain ⟨z, hz, rfl⟩ := List.mem_map.mp hx
    exact h (by rw [← Sum.inr.inj (of_decide_eq_true e)]; exact hz)
end
/-! ### walking lists of texts, of pairs -/
section
variable {K : PySem.W.Frag} {ρ : List Sl} {te : TE}
theorem ei_tupS {zs : List Str} (h : EV K te ρ (.tuple (zs.map PyData.str))) : EI K (iSeqU K te) ρ zs.length (fun i => .str (zs.getD i Str.empty)) := by
  have e := ei_tup h
  rw [List.length_map] at e
  exact ei_mono e fun i hi => getD_str hi
theorem ei_listS {zs : List Str} (h : EV K te ρ (.list (zs.map PyData.str))) : EI K (iSeqU K te) ρ zs.length (fun i => .str (zs.getD i Str.empty)) := by
  have e := ei_list h
  rw [List.length_map] at e
  exact ei_mono e fun i hi => getD_str hi
theorem ei_tupQ {qs : List (Str × Str)} (h : EV K te ρ (.tuple (qs.map pqD))) : EI K (iSeqU K te) ρ qs.length (fun i => pqD (qs.getD i (Str.empty, Str.empty))) := by
  have e := ei_tup h
  rw [List.length_map] at e
  exact ei_mono e fun i hi => getD_map hi
theorem ei_listQ {qs : List (Str × Str)} (h : EV K te ρ (.list (qs.map pqD))) : EI K (iSeqU K te) ρ qs.length (fun i => pqD (qs.getD i (Str.empty, Str.empty))) := by
  have e := ei_list h
  rw [List.length_map] at e
  exact ei_mono e fun i hi => getD_map hi
end
/-! ### plain lists -/
theorem nodup_le {α : Type} [DecidableEq α] : ∀ {l m : List α}, l.Nodup → (∀ x ∈ l, x ∈ m) → l.length ≤ m.length
  | [], _, _, _ => Nat.zero_le _
  | a :: l, m, nd, h => by
    obtain ⟨n1, n2⟩ := List.nodup_cons.mp nd
    have ha := h a (List.mem_cons_self ..)
    have := nodup_le (l := l) (m := m.erase a) n2 fun x hx => (List.mem_erase_of_ne fun e => n1 (by rw [← e]; exact hx)).mpr (h x (List.mem_cons_of_mem _ hx))
    rw [List.length_erase_of_mem ha] at this
    have h1 : 0 < m.length := List.length_pos_of_mem ha
    rw [List.length_cons]
    omega
theorem mem_srt {α : Type} {lt : α → α → Bool} {l : List α} {x : α} : x ∈ srt lt l ↔ x ∈ l := (srt_perm l).mem_iff
theorem lc_filterG {α : Type} {p : α → Bool} {h : α → D} (z : α) (rs : List α) : ∀ n, n ≤ rs.length → lcD n (fun i => p (rs.getD i z)) (fun i => h (rs.getD i z)) = ((rs.take n).filter p).map h
  | 0, _ => rfl
  | n + 1, hn => by
    unfold lcD
    rw [lc_filterG z rs n (by omega), List.take_succ, List.getElem?_eq_getElem (by omega), List.filter_append, List.map_append]
    have e1 : rs.getD n z = rs[n] := by rw [List.getD_eq_getElem?_getD, List.getElem?_eq_getElem (by omega)]; rfl
    show (if p (rs.getD n z) = true then _ ++ [h (rs.getD n z)] else _) = _
    rw [e1]
    show _ = _ ++ (([rs[n]] : List α).filter p).map h
    cases q : p rs[n] with
    | true =>
      rw [if_pos rfl, List.filter_cons_of_pos q]
      rfl
    | false =>
      rw [if_neg Bool.false_ne_true, List.filter_cons_of_neg (by rw [q]; exact Bool.false_ne_true)]
      show _ = _ ++ []
      rw [List.append_nil]
theorem lc_filterA {α : Type} {p : α → Bool} {h : α → D} (z : α) (rs : List α) : lcD rs.length (fun i => p (rs.getD i z)) (fun i => h (rs.getD i z)) = (rs.filter p).map h := by
  rw [lc_filterG z rs _ (Nat.le_refl _), List.take_length]
end DL
set_option maxHeartbeats 1000000
/-! DL18: in, not in of an owned dict. -/
namespace DL
open PySem PySem.Spec PyProof.Rows L2
end DL
set_option maxHeartbeats 1000000
/-! DL19: values that are told by a predicate (EVX ..): what a def answers that changes a list it was handed. -/
namespace DL
open PySem PySem.Spec PyProof.Rows L2
section
variable (K : PySem.W.Frag)
def EVX (te : TE) (ρ : List Sl) (Pd : D → Prop) : Prop := ∀ (G0 H0 G H : Hp) (σ : L2.St) (Q : VK), En K G0 H0 G H σ ρ → (∀ d v G' H', Pd d → Ext G H G' H' → Dq K G' v d → Q v H') → te σ H Q
def EAX (ta : TA) (ρ : List Sl) (Pl : List D → Prop) : Prop := ∀ (G0 H0 G H : Hp) (σ : L2.St) (Q : List V → Hp → Prop), En K G0 H0 G H σ ρ → (∀ ds vs G' H', Pl ds → Ext G H G' H' → DqA K G' vs ds → Q vs H') → ta σ H Q
end
section
variable {K : PySem.W.Frag} {ρ : List Sl} {Ex : XK} {ta tb te : TE} {tt tu : TT} {t u : TS} {d : D} {P : Oc → Prop} {Pd Pa Pc : D → Prop} {Pl Pm : List D → Prop} {Pb Pe : Bool → Prop}
theorem eax_of {t : TA} {ds : List D} (h : EA K t ρ ds) (p : Pl ds) : EAX K t ρ Pl := fun G0 H0 G H σ Q E q => h G0 H0 G H σ Q E fun vs G' H' => q ds vs G' H' p
theorem evx_callQ {Pre : List D → Prop} {Post : List D → D → Prop} {Ey : XK} {t : TA} (h : EAX K t ρ Pl) (hr : ∀ ds, Pl ds → Pre ds ∧ ∀ d, Post ds d → Pd d) : EVX K (tCall (PQ K Pre Post) [] Ey t) ρ Pd := fun G0 H0 G H σ Q E q =>
  h G0 H0 G H σ _ E fun ds vs G1 H1 p e1 h1 => by
    rw [List.append_nil]
    exact ⟨G1, ds, e1.gh, h1, (hr ds p).1, fun d v G2 H2 hd x hv => q d v G2 H2 ((hr ds p).2 d hd) (e1.trans x) hv⟩
/-! tests -/
/-! statements -/
theorem st_asgV {i : Nat} (h : EVX K te ρ Pd) (q : ∀ d, Pd d → P (.nx (ρ.set i (.fr d)))) : ST K Ex (tAsg te (gName i)) ρ P := fun G0 H0 G H σ D E f =>
  h G0 H0 G H σ _ E fun d v G' H' p x hd => f.nx _ _ G' H' (q d p) ((E.go x).setF i hd)
theorem q_asgV {i : Nat} (h : EVX K te ρ Pd) (q : ∀ d, Pd d → ST K Ex u (ρ.set i (.fr d)) P) : ST K Ex (tSeq (tAsg te (gName i)) u) ρ P := st_seq (st_asgV h q)
/-! loops -/
end
end DL
set_option maxHeartbeats 1000000
/-! DL20: a list [int, list of ints, int, int] that defs change (stD), lists of ints that defs change (opD); abs, max, min; sorted lists of ints. -/
namespace DL
open PySem PySem.Spec PyProof.Rows L2
theorem GH.only {H : Hp} (h : Only H) : GH H H := GH.refl fun a u e => by
  rcases h a with z | ⟨o, xs, z⟩
  · rw [z] at e
    cases e
  · rw [z] at e
    cases e
    rfl
theorem b_max : bootBuiltins "max" = some (.builtin "max") := by decide +kernel
def rAbs : List V → Hp → VK → Prop := fun xs H Q => ∃ i, xs = [.int i] ∧ Q (.int (if i < 0 then -i else i)) H
def rMax2 : List V → Hp → VK → Prop := fun xs H Q => ∃ i j, xs = [.int i, .int j] ∧ Q (.int (if j > i then j else i)) H
def rMin2 : List V → Hp → VK → Prop := fun xs H Q => ∃ i j, xs = [.int i, .int j] ∧ Q (.int (if j < i then j else i)) H
section
variable {K : PySem.W.Frag}
theorem cd_abs {i : Int} : CD K rAbs [.int i] (.int (if i < 0 then -i else i)) := fun xs G H Q g hx q => by
  cases hx with
  | cons a b => cases a; cases b; exact ⟨i, rfl, q _ G H (.refl g) (.int _)⟩
theorem cd_max {i j : Int} : CD K rMax2 [.int i, .int j] (.int (max i j)) := fun xs G H Q g hx q => by
  cases hx with
  | cons a b =>
    cases a
    cases b with
    | cons a b =>
      cases a; cases b
      have e : (if j > i then j else i) = max i j := by split <;> omega
      exact ⟨i, j, rfl, by rw [e]; exact q _ G H (.refl g) (.int _)⟩
theorem cd_min {i j : Int} : CD K rMin2 [.int i, .int j] (.int (min i j)) := fun xs G H Q g hx q => by
  cases hx with
  | cons a b =>
    cases a
    cases b with
    | cons a b =>
      cases a; cases b
      have e : (if j < i then j else i) = min i j := by split <;> omega
      exact ⟨i, j, rfl, by rw [e]; exact q _ G H (.refl g) (.int _)⟩
theorem ints_dq {G : Hp} : ∀ {ns : List Int} {vs : List V}, DqA K G vs (ns.map PyData.int) → vs = ns.map V.int
  | [], _, h => by cases h; rfl
  | n :: ns, _, h => by
    cases h with
    | cons a b => cases a; rw [ints_dq b]; rfl
end
end DL
set_option maxHeartbeats 1000000
/-! DL21: such lists made, asked, lengthened. -/
namespace DL
open PySem PySem.Spec PyProof.Rows L2
theorem okL.len {lo : Int} {ns : List Int} (h : okL lo ns) : ns.length ≤ 5010001 := by
  obtain ⟨h0, h1, h2, h3⟩ := h
  have h4 : (ns.drop lo.toNat).length ≤ 10001 := by
    have := nodup_le (l := ns.drop lo.toNat) (m := (List.range 10001).map Int.ofNat) h2 fun x hx => by
      obtain ⟨a, b⟩ := h3 x hx
      exact List.mem_map.mpr ⟨x.toNat, List.mem_range.mpr (by omega), by show ((x.toNat : Nat) : Int) = x; omega⟩
    rw [List.length_map, List.length_range] at this
    exact this
  rw [List.length_drop] at h4
  omega
theorem okL.push {lo : Int} {ns : List Int} {x : Int} (h : okL lo ns) (hl : lo.toNat ≤ ns.length ∨ True) (hx : 0 ≤ x ∧ x ≤ 10000) (hn : x ∉ ns) : okL lo (ns ++ [x]) := by
  obtain ⟨h0, h1, h2, h3⟩ := h
  refine ⟨h0, h1, ?_, fun n hm => ?_⟩
  · rw [List.drop_append]
    refine List.nodup_append.mpr ⟨h2, (List.nodup_cons.mpr ⟨fun h => (by cases h), List.nodup_nil⟩ : [x].Nodup).sublist (List.drop_sublist _ _), fun a ha b hb e => hn ?_⟩
    have hb := List.mem_of_mem_drop hb
    rw [List.mem_singleton.mp hb] at e
    rw [← e]
    exact List.mem_of_mem_drop ha
  · rw [List.drop_append] at hm
    rcases List.mem_append.mp hm with m | m
    · exact h3 n m
    · rw [List.mem_singleton.mp (List.mem_of_mem_drop m)]
      exact hx
end DL
set_option maxHeartbeats 1000000
/-! DL22: sorted of a list of pairs of texts, of any length; d[x], x a pair of texts; zip; dict displays. -/
namespace DL
open PySem PySem.Spec PyProof.Rows L2
theorem IsPS.inj {h : Heap} {v : Value} {p q : Str × Str} (x : IsPS h v p) (y : IsPS h v q) : p = q := by
  obtain ⟨a, o, t, u, n, rfl, ho, _, hd⟩ := x
  obtain ⟨b, o', t', u', n', e, ho', _, hd'⟩ := y
  cases e
  rw [ho] at ho'
  cases ho'
  rw [hd] at hd'
  injection hd' with e _
  have e := congrArg Array.toList e
  injection e with e1 e2
  injection e2 with e2 _
  injection e1 with e1 _
  injection e2 with e2 _
  exact Prod.ext e1 e2
open Classical in
noncomputable def pk (h : Heap) (v : Value) : Str × Str := if hx : ∃ p, IsPS h v p then hx.choose else (Str.empty, Str.empty)
theorem pk_is {h : Heap} {v : Value} {p : Str × Str} (x : IsPS h v p) : pk h v = p := by
  have hx : ∃ p, IsPS h v p := ⟨p, x⟩
  unfold pk
  rw [dif_pos hx]
  exact hx.choose_spec.inj x
theorem psq_is {X : Cx} {pins : List (Addr × Obj)} {σ : L2.St} {H : Hp} {s : Shared} (I : Inv X pins σ H s) {b : Addr} {q : Str × Str} (h : SqT X.K H b [.str q.1, .str q.2]) : IsPS s.heap (.ref b) q := by
  obtain ⟨its, r, ⟨o, ho, hc, n, hd⟩, _⟩ := I.tuple h
  obtain ⟨u1, u2, rfl, ri, rj⟩ := vals2 r
  obtain ⟨t1, rfl⟩ := ri
  obtain ⟨t2, rfl⟩ := rj
  exact ⟨b, o, t1, t2, _, rfl, ho, hc, by first | exact hd | simpa using hd⟩
def adV : Value → Addr
  | .ref a => a
  | _ => 0
end DL
set_option maxHeartbeats 1000000
/-! DL23: d[x], x a pair of texts; zip of tuples; dict displays; list(d) walked, d a dict with keys that are pairs. -/
namespace DL
open PySem PySem.Spec PyProof.Rows L2 RZ
end DL
set_option maxHeartbeats 1000000
/-! DL24: defs that answer a new list that the caller may change; boxes.append(rest.pop(i)). -/
namespace DL
open PySem PySem.Spec PyProof.Rows L2
end DL
set_option maxHeartbeats 1000000
/-! DL25: counting points: a dict whose keys are pairs of ints, d[p] = d.get(p, 0) + 1; any, sum of lists. -/
namespace DL
open PySem PySem.Spec PyProof.Rows L2
def cnt (ps : List ((Int × Int) × Int)) (k : Int × Int) : Int := ((ps.find? fun p => decide (p.1 = k)).map (·.2)).getD 0
end DL
set_option maxHeartbeats 1000000
/-! DL26: any, sum of lists; the values of a dict with tuple keys; for k in list(d), d a dict with tuple keys, with a return within; d[k], k a tuple. -/
namespace DL
open PySem PySem.Spec PyProof.Rows L2
end DL
set_option maxHeartbeats 1000000
/-! DL27: d.values() of a dict whose keys are tuples. -/
namespace DL
open PySem PySem.Spec PyProof.Rows L2
end DL
set_option maxHeartbeats 1000000
/-! DL28: return any([.. for x in d.values()]). -/
namespace DL
open PySem PySem.Spec PyProof.Rows L2
end DL
set_option maxHeartbeats 1000000
/-! DL29: a < b < c < d. -/
namespace DL
open PySem PySem.Spec PyProof.Rows L2
end DL
set_option maxHeartbeats 1000000
/-! DL30: a def that is lent two lists of ints and puts more into them. -/
namespace DL
open PySem PySem.Spec PyProof.Rows L2
/-- as Ext, but for what stands at a, b -/
structure ExtL (G H G' H' : Hp) (a b : Addr) (ns ms : List Int) : Prop where
  gg : ∀ c o, G c = some o → G' c = some o
  hh : ∀ c o, c ≠ a → c ≠ b → H c = some o → H' c = some o ∨ mkd G c
  gh : GH G' H'
  own : ∀ c o, c ≠ a → c ≠ b → H c = some o → noTup o = true → G c = none → G' c = none
  ga : G' a = none
  gb : G' b = none
  la : H' a = some (.lst (ns.map V.int))
  lb : H' b = some (.lst (ms.map V.int))
theorem ExtL.of {G H G' H' : Hp} {a b : Addr} {ns ms : List Int} (x : Ext G H G' H') (ga : G a = none) (gb : G b = none) (la : H a = some (.lst (ns.map V.int))) (lb : H b = some (.lst (ms.map V.int))) : ExtL G H G' H' a b ns ms :=
  ⟨x.gg, fun c o _ _ => x.hh c o, x.gh, fun c o _ _ => x.own c o, x.own a _ la rfl ga, x.own b _ lb rfl gb, x.at ga la, x.at gb lb⟩
section
variable {K : PySem.W.Frag} {ρ : List Sl} {Ex : XK} {ta tb te : TE} {tt tu : TT} {t u : TS} {d : D} {P : Oc → Prop} {a b : Addr} {ns ms : List Int} {Post : D → List Int → List Int → Prop}
theorem ExtL.back {G0 H0 G H G' H' : Hp} {ns' ms' : List Int} {o : HO} {c : Addr} (x : Ext G0 H0 G H) (hc : c = a ∨ c = b) (y : ExtL G (upd H0 c o) G' H' a b ns' ms') : ExtL G0 H0 G' H' a b ns' ms' := by
  have nc : ∀ z, z ≠ a → z ≠ b → z ≠ c := fun z h1 h2 e => by rcases hc with h | h <;> rw [h] at e <;> contradiction
  refine ⟨fun z o h => y.gg z o (x.gg z o h), fun z o' h1 h2 h => ?_, y.gh, fun z o' h1 h2 h t n => ?_, y.ga, y.gb, y.la, y.lb⟩
  · exact (y.hh z o' h1 h2 (by rw [upd_ne (nc z h1 h2)]; exact h)).imp id (x.mark h)
  · exact y.own z o' h1 h2 (by rw [upd_ne (nc z h1 h2)]; exact h) t (x.own z o' h t n)
end
end DL
set_option maxHeartbeats 2000000
/-! DL31: raising with a known context (L2N), parallel assignments within an except suite. -/
namespace DL
open PySem PySem.Spec PyProof.Rows L2
section
variable {X : Cx} {pos p : Pos}
/-- C(e, ..), its context None -/
theorem pmk_oexN {X : Cx} {CX : CXT} {x : Str} {e : Expr} {es : List Expr} {ta : TA} {p pos : Pos} {C fI : Addr} {k : Nat} {fd : FuncData} {ps : List Str} {sp : Sp} (T : OexC X.K C) (iC : PySem.W.findIn X.K (.ref C) "__init__" = some (some (.ref fI))) (tI : PySem.W.typeIn X.K (.ref fI) = some (.type "function"))
    (F1 : FnOk X.prog X.w X.K X.mg X.base CX k fI fd ps sp) (hr : Room (k + 1) X.A) (hb : Binds X.K fd ps []) (hx : Passes CX X (fun _ _ _ => False)) (hg : Gl X x) (hm : X.mg x = some (.ref C)) (ha : PA X (e :: es) ta)
    (hdb : (x == ("__debug__" : Str)) = false := by decide) (he : starEach (e :: es) X.env = (false, eval e X.env) :: starEach es X.env := by rfl) (hpl : (backTo pos (starEach es X.env)).any (·.1) = false := by rfl) :
    L2N.PMk X (.Call (.Name x p) (e :: es) [] pos) (tMkO C sp [] ta) := by
  intro pins s σ H Q I h
  obtain ⟨nm, q, N, bs, bm, sn, sub, ab, col, dd, k0, k1, k2, k3, k5, hC, hbm⟩ := T.cls
  refine wpAny_Call_Name_kw (ld_glob I hg hm ?_ hdb)
  refine PySem.W.callWith_K (h₀ := X.base) I.ok.mod.kin T.kC (thn (ha.run pos pins s σ H _ I h) fun us s1 ⟨vs, H1, I1, r1, hz, q1⟩ => ⟨I1.kIn, ?_⟩) he hpl
  show wpAny _ _ (call (.ref C) us) _ _ _
  obtain ⟨hp, g, dr, tk, os⟩ := s1
  have hsz : hp.objs.size ≤ hp.objs.size + 1 := Nat.le_succ _
  have hn : H1 (hp.objs.size + 1) = none := I1.hok.fresh hsz
  have hq := q1 (hp.objs.size + 1) hn
  rw [List.append_nil] at hq
  have kk : ∀ b o, hp.get? b = some o → ((hp.push (PySem.W.kdv_tup us)).push (PySem.HandSPX.excO C hp.objs.size)).get? b = some o := fun b o e => Heap.get?_push_of_some _ (Heap.get?_push_of_some _ e)
  have hget : ((hp.push (PySem.W.kdv_tup us)).push (PySem.HandSPX.excO C hp.objs.size)).get? (hp.objs.size + 1) = some (PySem.HandSPX.excO C hp.objs.size) := by heap_get
  have I2 : Inv X pins σ (upd H1 (hp.objs.size + 1) (exo (hp.objs.size + 1) C none)) ⟨(hp.push (PySem.W.kdv_tup us)).push (PySem.HandSPX.excO C hp.objs.size), g, dr, tk, os⟩ :=
    I1.laid (t' := tk) (a := hp.objs.size + 1) (o := exo (hp.objs.size + 1) C none) (h' := (hp.push (PySem.W.kdv_tup us)).push (PySem.HandSPX.excO C hp.objs.size)) kk hsz (exo_ok hget)
  have r2 : Vals (V.ref (hp.objs.size + 1) :: vs) (Value.ref (hp.objs.size + 1) :: us) := .cons rfl r1
  have hl : (Value.ref (hp.objs.size + 1) :: us ++ []).length = ps.length := by
    have e := r2.length
    rw [F1.len _ _ _ _ hq] at e
    rw [List.append_nil]
    exact e.symm
  have hus : us.length ≤ sizeLine := by
    rw [← Paired.length r1, sizeLine_eq]
    omega
  have b2 := hb _ (Value.ref (hp.objs.size + 1) :: us) I2.kIn hl
  rw [List.append_nil] at b2
  refine wpAny_call (PySem.HandSPX.call_own F.excBase_ValueError (fun Y => PySem.HandSPX.refsVE_contains Y bm hbm) (I1.kIn _ _ hC) (PySem.W.looks_findIn I1.kIn iC) (fun self => PySem.W.bind_fn I1.kIn self tI) hus
    (codeAny_mono (F1.run _ X.stack _ _ ⟨Value.ref (hp.objs.size + 1) :: us, []⟩ (Value.ref (hp.objs.size + 1) :: us) _ _ (fun _ _ _ => False) (hr.make C us []) (I2.env0.make C us []) b2 r2 hq) fun r s' hq' => ?_))
  cases r with
  | error er => exact hx pins σ _ _ er s' I2 hq'
  | ok fl =>
    cases fl with
    | ret u =>
      obtain ⟨v, H2, os2, bare2, un2, hok2, rv, ev, d, fs, ea, ed, hd1, q2⟩ := hq'
      subst ev
      obtain ⟨h2, g2, d2, t2, os'⟩ := s'
      obtain ⟨t0, G, J, kG, ge, hoe, na⟩ := mk_end0 (d2 := d2) (t2 := t2) I1 hsz kk un2 hok2 os2 bare2 ea ed hd1
      refine ⟨rv, hp.objs.size + 1, _, _, ⟨G, g2, d2, t2, os'⟩, _, .ref C, some d, rfl, J, kG, ge, hoe, ⟨rfl, rfl, fun vs hv => ?_⟩, rfl, rfl, na, rfl, bare2, raises_own T.exC T.tyC, q2⟩
      cases hv
      rfl
    | next => exact False.elim hq'
    | brk => exact False.elim hq'
    | cont => exact False.elim hq'
theorem ps_raiseON {k j : Nat} {x : Str} {fls : List Str} {Ex : XK} {e : Expr} {es : List Expr} {t : TA} {pos2 : Pos} (O : ExOk X.prog X.w X.K X.mg X.base k x fls) (hr : Room j X.A) (hk : k + 1 ≤ j) (hc : X.calm = true) (tk : L2N.Takes X (fun cls d _ H => Ex cls d H)) (ha : PA X (e :: es) t) (hg : Gl X x := by rfl)
    (hdb : (x == ("__debug__" : Str)) = false := by decide) (he : starEach (e :: es) X.env = (false, eval e X.env) :: starEach es X.env := by rfl) (hpl : (backTo pos (starEach es X.env)).any (·.1) = false := by rfl) :
    PS X (.Raise (some (.Call (.Name x p) (e :: es) [] pos)) none pos2) (tRaiseO X.K (He.ga X.K x) fls Ex t) := by
  obtain ⟨m, ef, ⟨i1, i2⟩, fd, F, b⟩ := O
  exact L2N.ps_raise hc tk (pmk_oexN ef.oex i1 i2 F (hr.mono hk) b (fun _ _ _ _ _ _ _ h => h.elim) hg m ha hdb he hpl)
theorem pe_callDSN {k j : Nat} {x : Str} {ps : List Str} {sp : Sp} {e : Expr} {es : List Expr} {t : TA} {W : WX} (O : Okd X.prog X.w X.K X.mg X.base (L2N.CX X.prog X.w) k x ps sp) (hr : Room j X.A) (hk : k ≤ j) (tk : L2N.Takes X W) (ha : PA X (e :: es) t) (hg : Gl X x := by rfl)
    (hdb : (x == ("__debug__" : Str)) = false := by decide) (he : starEach (e :: es) X.env = (false, eval e X.env) :: starEach es X.env := by rfl) (hpl : (backTo pos (starEach es X.env)).any (·.1) = false := by rfl) :
    PE X (.Call (.Name x p) (e :: es) [] pos) (tCallS sp (WE W) t) := by
  obtain ⟨m, fd, F, b, kp⟩ := O
  exact pe_callS F (hr.mono hk) hg m kp b (fun σ => L2N.passAt tk σ) ha hdb he hpl
theorem takes0N {X : Cx} : L2N.Takes X (fun _ _ _ _ => False) := fun u s' ⟨a, B, sI, pins, σ, H, cls, d, e, I, nb, up, sky, na, os, ag, h⟩ => h.elim
end
section
variable {P : Program} {w : World} {K : PySem.W.Frag} {mg : Str → Option Value} {base : Heap}
/-- a def that may raise keeps its word, by its body's (any wish about exceptions) -/
theorem fn_pxC {CX : CXT} {x qual : Str} {params : Arguments} {body : List Stmt} {scope : Scope} {f : Addr} {fd : FuncData} {N ps : List Str} {k : Nat} {R : List D → D → Prop} {Y : List D → Addr → List (Str × D) → Prop} (F : FunD K x qual params body scope [] [] f fd) (S : FnScope N ps scope)
    (len : ∀ ds d, R ds d → ds.length = ps.length) (lenY : ∀ ds C fl, Y ds C fl → ds.length = ps.length)
    (hb : ∀ (cdv : Value) (A : Around) (outer : List PySem.Env) (s : Shared) (H : Hp) (E : XK), Room k (A.deeper (envOfC qual scope s.heap.objs.size f cdv)) →
      ∃ t, PSs (cxOf CX P w K mg base N qual scope f cdv A outer s H E) body t ∧ (∀ ds d, R ds d → DL.ST K E t (start0 N.length ds) (fun o => o = .rt d ∨ (d = .none ∧ ∃ ρ, o = .nx ρ))) ∧
        (∀ ds C fl, Y ds C fl → DL.ST K E t (start0 N.length ds) (fun o => o = .ex C fl))) : FnOk P w K mg base CX (k + 1) f fd ps (PX K R Y) := by
  refine F.ok S (fun vs H Q E h => ?_) (fun cdv A outer s H vs Q E hr h => ?_)
  · obtain ⟨G, ds, g, ha, h⟩ := h
    rcases h with ⟨d, hR, _⟩ | ⟨C, fl, hY, _⟩
    · exact ha.length.trans (len ds d hR)
    · exact ha.length.trans (lenY ds C fl hY)
  · obtain ⟨t, h1, h2, h3⟩ := hb cdv A outer s H E hr
    obtain ⟨G, ds, g, ha, h⟩ := h
    rcases h with ⟨d, hR, q⟩ | ⟨C, fl, hY, q⟩
    · refine ⟨t, h1, h2 ds d hR G H G H _ _ (en_start g ha) ⟨fun ρ' σ' G' H' p E' => ?_, fun d' v G' H' p x hv => ?_, fun ρ' σ' G' H' p E' => ?_, fun ρ' σ' G' H' p E' => ?_, fun C fl dd fs G' H' p => ?_⟩⟩
      · rcases p with p | ⟨rfl, _⟩
        · cases p
        · exact q _ G' H' E'.ext .non
      · rcases p with p | ⟨rfl, ρ, p⟩
        · cases p
          exact q v G' H' x hv
        · cases p
      · rcases p with p | ⟨_, _, p⟩ <;> cases p
      · rcases p with p | ⟨_, _, p⟩ <;> cases p
      · rcases p with p | ⟨_, _, p⟩ <;> cases p
    · exact ⟨t, h1, h3 ds C fl hY G H G H _ _ (en_start g ha) ⟨(fun _ _ _ _ p _ => nomatch p), (fun _ _ _ _ p _ => nomatch p), (fun _ _ _ _ p _ => nomatch p), (fun _ _ _ _ p _ => nomatch p), fun C' fl' dd fs G' H' p x h4 h5 => by
        cases p
        exact q dd fs G' H' x h4 h5⟩⟩
end
end DL
set_option maxHeartbeats 1000000
/-! DL32: lists and tuples of values that pass a test (AllP, LstP, OkP); parallel assignment by data. -/
namespace DL
open PySem PySem.Spec PyProof.Rows L2
def AllP (n : Nat) (p : D → Bool) : List D → Prop := fun ds => ds.length = n ∧ ds.all p = true
theorem AllP.app {n m : Nat} {p : D → Bool} {ds es : List D} (h : AllP n p ds) (k : AllP m p es) : AllP (n + m) p (ds ++ es) := ⟨by rw [List.length_append, h.1, k.1], by rw [List.all_append, h.2, k.2]; rfl⟩
theorem AllP.one {p : D → Bool} {d : D} (h : p d = true) : AllP 1 p [d] := ⟨rfl, by rw [List.all_cons, h]; rfl⟩
section
variable {K : PySem.W.Frag} {ρ : List Sl} {Ex : XK} {ta tb te : TE} {tr : TA} {t u : TS} {d d1 d2 : D} {P : Oc → Prop} {p q : D → Bool} {n m : Nat}
theorem st_par {i j : Nat} (ha : EV K ta ρ d1) (hb : EV K tb ρ d2) (q : P (.nx ((ρ.set i (.fr d1)).set j (.fr d2)))) : ST K Ex (tPar i j (tCons ta (tCons tb tNil))) ρ P := fun G0 H0 G H σ D E f =>
  ha G0 H0 G H σ _ E fun v G1 H1 e1 h1 => hb G0 H0 G1 H1 σ _ (E.go e1) fun w G2 H2 e2 h2 => ⟨v, w, rfl, f.nx _ _ G2 H2 q ((((E.go e1).go e2).setF i (h1.mono e2.g)).setF j h2)⟩
end
end DL
set_option maxHeartbeats 2000000
/-! DT1: tables of sets with any mask from whose slots the leaps lead everywhere: 7, 31, 127 (the kit's) and 511. -/
namespace DL
open PySem PySem.Spec PyProof.Rows L2
/-- the leaps lead from every slot to every slot -/
def Leads (m : Nat) : Prop := ∀ a b, a ≤ m → b ≤ m → ∃ c, c ≤ m ∧ lcgI m a c = b
theorem leads_of {m : Nat} (h : MaskOk m) : Leads m := fun _ _ ha hb => lcgI_all h ha hb
/-- the number of leaps from 0 to b, sought -/
def seek (m : Nat) : Nat → Nat → Nat → Nat → Option Nat
  | 0, _, _, _ => none
  | f + 1, n, x, b => if x = b then some n else seek m f (n + 1) ((x * 5 + 1) % (m + 1)) b
theorem seek_ok (m b : Nat) : ∀ f n c, seek m f n (lcgN m n) b = some c → lcgN m c = b ∧ c < n + f
  | 0, _, _, h => nomatch h
  | f + 1, n, c, h => by
    unfold seek at h
    by_cases q : lcgN m n = b
    · rw [if_pos q] at h
      have e : n = c := Option.some.inj h
      subst e
      exact ⟨q, by omega⟩
    · rw [if_neg q] at h
      obtain ⟨u, v⟩ := seek_ok m b f (n + 1) c h
      exact ⟨u, by omega⟩
theorem seek511 : ((List.range 512).all fun b => (seek 511 512 0 0 b).isSome) = true := by decide +kernel
theorem back511 : lcgN 511 512 = 0 := by decide +kernel
theorem from0 {b : Nat} (hb : b ≤ 511) : ∃ c, c ≤ 511 ∧ lcgN 511 c = b := by
  have h := List.all_eq_true.mp seek511 b (List.mem_range.mpr (by omega))
  obtain ⟨c, hc⟩ := Option.isSome_iff_exists.mp h
  obtain ⟨u, v⟩ := seek_ok 511 b 512 0 c hc
  exact ⟨c, by omega, u⟩
theorem again511 : ∀ k, lcgN 511 (512 + k) = lcgN 511 k := fun k => by
  induction k with
  | zero => exact back511
  | succ k ih =>
    have e : lcgN 511 (512 + k + 1) = (lcgN 511 (512 + k) * 5 + 1) % 512 := rfl
    rw [show 512 + (k + 1) = 512 + k + 1 from rfl, e, ih] <;> rfl
theorem leads511 : Leads 511 := fun a b ha hb => by
  obtain ⟨x, hx, ex⟩ := from0 ha
  obtain ⟨y, hy, ey⟩ := from0 hb
  subst ex
  by_cases c : x ≤ y
  · exact ⟨y - x, by omega, by rw [lcgN_add, show x + (y - x) = y by omega]; exact ey⟩
  · exact ⟨512 + y - x, by omega, by rw [lcgN_add, show x + (512 + y - x) = 512 + y by omega, again511]; exact ey⟩
/-! ### the way meets every slot -/
theorem runs_to {m : Nat} (F : Leads m) (h : Int) {b : Nat} (hb : b ≤ m) : ∃ n, n < m + 13 ∧ runI m (SetTable.bits h) n = b := by
  obtain ⟨c, hc, e⟩ := F _ b (runI_le m (SetTable.bits h) 12) hb
  refine ⟨12 + c, by omega, ?_⟩
  rw [runI_tail (bits_lt h), e]
theorem way_to {m : Nat} (F : Leads m) (h : Int) {b : Nat} (hb : b ≤ m) : ∃ k, k < 10 * SetTable.turns m ∧ way m h k = b := by
  obtain ⟨n, hn, e⟩ := runs_to F h hb
  obtain ⟨k, hk, r⟩ := run_nth m (SetTable.bits h) n
  refine ⟨k, ?_, ?_⟩
  · show k < 10 * (m + 15)
    omega
  · unfold way
    rw [r]
    exact e
theorem way_in (m : Nat) (h : Int) (k : Nat) : way m h k ≤ m := by
  have a : SetTable.bits h % (m + 1) ≤ m := Nat.le_of_lt_succ (Nat.mod_lt _ (Nat.succ_pos _))
  have b := runEnd_bd a
  have c : (runAt m (SetTable.bits h % (m + 1)) (SetTable.bits h)).j + (runAt m (SetTable.bits h % (m + 1)) (SetTable.bits h)).more ≤ m := by
    dsimp only [runAt]
    omega
  have d := nth_in k _ c
  unfold way
  omega
/-! ### tables -/
/-- every hash leads to its slot, over slots that are taken -/
structure TabZ (t : SetTable) (hs : List Int) : Prop where
  up : Ris t.place.toList
  dm : t.dummies = #[]
  sz : t.place.size = hs.length
  led : Leads t.mask
  low : ∀ x ∈ t.place.toList, x ≤ t.mask
  way : ∀ (i : Nat) (h : Int) (j : Nat), hs[i]? = some h → t.place.toList[i]? = some j → ∃ k, L2.way t.mask h k = j ∧ ∀ k', k' < k → L2.way t.mask h k' ∈ t.place.toList
variable {t : SetTable} {hs : List Int}
theorem TabZ.first (Z : TabZ t hs) (hl : hs.length ≤ t.mask) (h : Int) :
    ∃ K, K < 10 * SetTable.turns t.mask ∧ L2.way t.mask h K ∉ t.place.toList ∧ ∀ k, k < K → L2.way t.mask h k ∈ t.place.toList := by
  have short : t.place.toList.length < t.mask + 1 := by
    have := Z.sz
    simp only [Array.length_toList]
    omega
  obtain ⟨b, hb, nb⟩ := st_missing _ _ short
  obtain ⟨n, hn, e⟩ := way_to Z.led h (b := b) (by omega)
  obtain ⟨K, u, v, x⟩ := st_least (p := fun c => L2.way t.mask h c ∉ t.place.toList) n (by simp only [e]; exact nb)
  exact ⟨K, by omega, v, fun k hk => Classical.byContradiction (x k hk)⟩
theorem TabZ.before (Z : TabZ t hs) {h : Int} {K i j : Nat} (free : L2.way t.mask h K ∉ t.place.toList) (hi : hs[i]? = some h) (hj : t.place.toList[i]? = some j) :
    ∃ k, k < K ∧ L2.way t.mask h k = j := by
  obtain ⟨k, e, b⟩ := Z.way i h j hi hj
  have ne : ¬ K < k := fun c => free (b K c)
  have nk : k ≠ K := fun c => free (by rw [← c, e]; exact List.mem_of_getElem? hj)
  exact ⟨k, by omega, e⟩
/-- one put in at the first free slot of its way -/
theorem TabZ.put (Z : TabZ t hs) {h : Int} {K j p : Nat} (ej : j = L2.way t.mask h K) (ep : p = SetTable.below t.place j) (free : j ∉ t.place.toList) (taken : ∀ k, k < K → L2.way t.mask h k ∈ t.place.toList) :
    (t.put j).2 = p ∧ p ≤ hs.length ∧ TabZ (t.put j).1 (hs.take p ++ h :: hs.drop p) ∧ (t.put j).1.fill = hs.length + 1 := by
  have cut := (below_cut Z.up j).1
  rw [← ep] at cut
  have pl : p ≤ t.place.toList.length := by simpa using cut
  have ph : p ≤ hs.length := by rw [← Z.sz]; exact cut
  have pp : (t.put j).1.place.toList = t.place.toList.take p ++ j :: t.place.toList.drop p := by rw [ep]; exact put_place t j
  have fresh : t.place[SetTable.below t.place j]? ≠ some j := fun e => free (List.mem_of_getElem? (by rw [Array.getElem?_toList]; exact e))
  have size : (t.put j).1.place.size = hs.length + 1 := by
    have := congrArg List.length pp
    rw [len_ins _ pl, Array.length_toList, Array.length_toList, Z.sz] at this
    exact this
  have more : ∀ x, x ∈ t.place.toList → x ∈ (t.put j).1.place.toList := fun x hx => by rw [pp]; exact mem_ins.2 (.inr hx)
  refine ⟨ep.symm, ph, ?_, ?_⟩
  · constructor
    · exact ris_insert Z.up fresh
    · exact put_dm Z.dm j
    · rw [len_ins _ ph]; exact size
    · exact Z.led
    · intro x hx
      rw [pp] at hx
      rcases mem_ins.1 hx with e | e
      · rw [e, ej]; exact way_in _ _ _
      · exact Z.low x e
    · intro i g y hi hy
      rw [tins_get hs ph] at hi
      rw [pp, tins_get _ pl] at hy
      change ∃ k, L2.way t.mask g k = y ∧ ∀ k', k' < k → L2.way t.mask g k' ∈ (t.put j).1.place.toList
      have old : ∀ i0, hs[i0]? = some g → t.place.toList[i0]? = some y → ∃ k, L2.way t.mask g k = y ∧ ∀ k', k' < k → L2.way t.mask g k' ∈ (t.put j).1.place.toList := fun i0 a b => by
        obtain ⟨k, e, f⟩ := Z.way i0 g y a b
        exact ⟨k, e, fun k' hk' => more _ (f k' hk')⟩
      rcases Nat.lt_trichotomy i p with c | c | c
      · simp only [if_pos c] at hi hy
        exact old i hi hy
      · subst c
        simp only [Nat.lt_irrefl, if_false, if_true] at hi hy
        cases hi
        cases hy
        exact ⟨K, ej.symm, fun k' hk' => more _ (taken k' hk')⟩
      · simp only [if_neg (Nat.lt_asymm c), if_neg (Nat.ne_of_gt c)] at hi hy
        exact old (i - 1) hi hy
  · show (t.put j).1.place.size + (t.put j).1.dummies.size = hs.length + 1
    rw [size, put_dm Z.dm j] <;> rfl
/-! ### all laid anew -/
theorem finds_free {m : Nat} (F : Leads m) (owner : Array (Option Nat)) (h : Int) {b : Nat} (hb : b ≤ m) (e : oAt owner b = none) :
    ∃ K, SetTable.layClean.free m owner (SetTable.turns m) (SetTable.bits h % (m + 1)) (SetTable.bits h) = some (way m h K) ∧ oAt owner (way m h K) = none ∧ ∀ k, k < K → oAt owner (way m h k) ≠ none := by
  obtain ⟨n, hn, r⟩ := runs_to F h hb
  generalize hi : SetTable.bits h % (m + 1) = i0
  have at_n : way m h (off m i0 (SetTable.bits h) n) = b := by
    unfold way
    rw [hi, nth_off, ← hi, itL_run]
    exact r
  obtain ⟨K, u, v, x⟩ := st_least (p := fun k => oAt owner (way m h k) = none) (off m i0 (SetTable.bits h) n) (by rw [at_n]; exact e)
  refine ⟨K, ?_, v, x⟩
  have fs := free_spec m owner (SetTable.turns m) n i0 (SetTable.bits h) K (by show n < m + 15; omega) u
  rw [← hi] at fs ⊢
  apply fs
  · intro k hk
    have := x k hk
    generalize oAt owner (nth m (runAt m (SetTable.bits h % (m + 1)) (SetTable.bits h)) k).j = o at this
    cases o with
    | none => exact absurd rfl this
    | some _ => rfl
  · have y : oAt owner (nth m (runAt m (SetTable.bits h % (m + 1)) (SetTable.bits h)) K).j = none := v
    rw [y]; rfl
theorem own_put {m : Nat} (F : Leads m) {done : List Int} {owner : Array (Option Nat)} (W : Own m done owner) (hl : done.length ≤ m) (h : Int) :
    ∃ j, SetTable.layClean.free m owner (SetTable.turns m) (SetTable.bits h % (m + 1)) (SetTable.bits h) = some j ∧ Own m (done ++ [h]) (owner.setIfInBounds j (some done.length)) := by
  obtain ⟨ps, len, all⟩ := W.ps
  obtain ⟨b, hb, nb⟩ := st_missing ps (m + 1) (by omega)
  have eb : oAt owner b = none := Classical.byContradiction fun c => nb (all b (by omega) c)
  obtain ⟨K, ef, en, eo⟩ := finds_free F owner h (b := b) (by omega) eb
  generalize hj : way m h K = j at ef en
  have jm : j ≤ m := by rw [← hj]; exact way_in m h K
  have js : j < owner.size := by rw [W.sz]; omega
  have self := oAt_set_self (some done.length) js
  have keep : ∀ i, oAt owner i ≠ none → oAt (owner.setIfInBounds j (some done.length)) i ≠ none := fun i hi => by
    by_cases c : i = j
    · rw [c, self]; exact Option.some_ne_none _
    · rw [oAt_set_ne _ c]; exact hi
  refine ⟨j, ef, ?_⟩
  constructor
  · rw [Array.size_setIfInBounds, W.sz]
  · intro i k hi e
    by_cases c : i = j
    · rw [c, self] at e
      cases e
      exact ⟨h, K, by simp, hj.trans c.symm, fun k' hk' => keep _ (eo k' hk')⟩
    · rw [oAt_set_ne _ c] at e
      obtain ⟨g, K2, a1, a2, a3⟩ := W.at_ i k hi e
      exact ⟨g, K2, by rw [List.getElem?_append_left (List.getElem?_eq_some_iff.mp a1).1]; exact a1, a2, fun k' hk' => keep _ (a3 k' hk')⟩
  · intro k hk
    rw [List.length_append, List.length_singleton] at hk
    by_cases c : k = done.length
    · exact ⟨j, jm, by rw [c]; exact self⟩
    · obtain ⟨i, hi, e⟩ := W.all k (by omega)
      refine ⟨i, hi, ?_⟩
      rw [oAt_set_ne _ fun z => by rw [z, en] at e; cases e]
      exact e
  · refine ⟨j :: ps, by simp [len], fun i hi e => ?_⟩
    by_cases c : i = j
    · rw [c]; exact List.mem_cons_self
    · rw [oAt_set_ne _ c] at e
      exact List.mem_cons_of_mem _ (all i hi e)
theorem lay_all {m : Nat} (F : Leads m) : ∀ (rest done : List Int) (owner : Array (Option Nat)), Own m done owner → done.length + rest.length ≤ m →
    ∃ o2, rest.foldl (stepF m) (some (owner, done.length)) = some (o2, (done ++ rest).length) ∧ Own m (done ++ rest) o2 := by
  intro rest
  induction rest with
  | nil => intro done owner W _; exact ⟨owner, by simp, by simpa using W⟩
  | cons h rest ih =>
    intro done owner W hl
    simp only [List.length_cons] at hl
    obtain ⟨j, e, W2⟩ := own_put F W (by omega) h
    obtain ⟨o2, f, W3⟩ := ih (done ++ [h]) _ W2 (by simp only [List.length_append, List.length_singleton]; omega)
    simp only [List.append_assoc, List.singleton_append, List.length_append, List.length_singleton] at f W3
    refine ⟨o2, ?_, W3⟩
    rw [List.foldl_cons, stepF_some e, f]
    simp only [List.length_append]
theorem relaid_z (t : SetTable) {hs : Array Int} {wanted M : Nat} (hw : SetTable.sizeAbove wanted - 1 = M) (F : Leads M) (hn : hs.size ≤ M) :
    ∃ t2 order, t.relaid hs wanted = some (t2, order) ∧ order.toList.Perm (List.range hs.size) ∧ TabZ t2 (order.toList.map fun i => hs.getD i 0) ∧ t2.mask = M ∧ t2.led = t.led := by
  obtain ⟨owner, f, W⟩ := lay_all F hs.toList [] _ (Own.init M) (by simpa using hn)
  rw [List.nil_append] at W
  have e : SetTable.layClean M hs = some owner := by
    rw [layClean_eq]
    have f2 : hs.toList.foldl (stepF M) (some (Array.replicate (M + 1) none, 0)) = some (owner, ([] ++ hs.toList).length) := f
    rw [f2] <;> rfl
  have r : t.relaid hs wanted = some (tabOf t M owner, ((liveOf M owner).map (·.2)).toArray) := by
    rw [relaid_eq, hw, e] <;> rfl
  obtain ⟨up, sub⟩ := ris_live (fun j => owner.getD j none) (List.range (M + 1)) (by
    unfold Ris
    first | exact List.pairwise_lt_range | exact List.pairwise_lt_range _)
  change Ris ((liveOf M owner).map (·.1)) at up
  have nd : ((liveOf M owner).map (·.1)).Nodup := List.Pairwise.imp (fun c => Nat.ne_of_lt c) up
  have cnt : (liveOf M owner).length = hs.size := by
    obtain ⟨ps, p1, p2⟩ := W.ps
    have most := nat_nodup_len ((liveOf M owner).map (·.1)) ps nd fun x hx => by
      obtain ⟨⟨y, k⟩, hq, rfl⟩ := List.mem_map.mp hx
      obtain ⟨u, v⟩ := (mem_live W.sz).1 hq
      exact p2 y u (by rw [v]; exact Option.some_ne_none _)
    have least := nat_nodup_len (List.range hs.size) ((liveOf M owner).map (·.2)) List.nodup_range fun k hk => by
      obtain ⟨j, u, v⟩ := W.all k (by simpa using hk)
      exact List.mem_map.mpr ⟨(j, k), (mem_live W.sz).2 ⟨u, v⟩, rfl⟩
    simp only [List.length_map, List.length_range] at most least
    have : hs.toList.length = hs.size := rfl
    omega
  refine ⟨tabOf t M owner, ((liveOf M owner).map (·.2)).toArray, r, ?_, ?_, rfl, rfl⟩
  · refine perm_range hs.size _ (by simpa using cnt) fun k hk => ?_
    obtain ⟨j, u, v⟩ := W.all k (by simpa using hk)
    exact List.mem_map.mpr ⟨(j, k), (mem_live W.sz).2 ⟨u, v⟩, rfl⟩
  · constructor
    · exact up
    · rfl
    · show ((liveOf M owner).map (·.1)).toArray.size = (((liveOf M owner).map (·.2)).map fun i => hs.getD i 0).length
      simp
    · exact F
    · intro x hx
      have := List.mem_range.mp (sub x hx)
      show x ≤ M
      omega
    · intro i g j hi hj
      change (((liveOf M owner).map (·.2)).map fun i => hs.getD i 0)[i]? = some g at hi
      change ((liveOf M owner).map (·.1))[i]? = some j at hj
      simp only [List.getElem?_map] at hi hj
      generalize hq : (liveOf M owner)[i]? = q at hi hj
      rcases q with _ | ⟨y, k⟩
      · cases hj
      · simp only [Option.map_some, Option.some.injEq] at hi hj
        subst hj
        obtain ⟨u, v⟩ := (mem_live W.sz).1 (List.mem_of_getElem? hq)
        obtain ⟨g0, K, a1, a2, a3⟩ := W.at_ y k u v
        have : hs.getD k 0 = g0 := by
          rw [Array.getD_eq_getD_getElem?, ← Array.getElem?_toList, a1] <;> rfl
        have eg : g0 = g := this.symm.trans hi
        subst eg
        refine ⟨K, a2, fun k' hk' => ?_⟩
        show way M g0 k' ∈ (liveOf M owner).map (·.1)
        obtain ⟨k2, z⟩ := Option.ne_none_iff_exists'.mp (a3 k' hk')
        exact List.mem_map.mpr ⟨(way M g0 k', k2), (mem_live W.sz).2 ⟨way_in M g0 k', z⟩, rfl⟩
theorem size_308 : SetTable.sizeAbove (SetTable.grown 77) = 512 := by decide +kernel
end DL
set_option maxHeartbeats 2000000
/-! DL33: sets of tuples of keys (ints, texts): the search, adding. The tables' theory is HandS.TupSets'; here it is used for keys whose hash is not told by the value alone. -/
namespace DL
open PySem PySem.Spec PyProof.Rows L2
abbrev ksH (P : Program) (w : World) (k : List Key) : Int := tupleKeyHash (mixKind P w) k
abbrev IsK (P : Program) (w : World) (h : Heap) (k : List Key) (a : Addr) : Prop := IsTupleKey (mixKind P w) h k a
abbrev KRow := Addr × List Key
/-- where the search for k stands behind c steps -/
abbrev Wy (P : Program) (w : World) (t : SetTable) (k : List Key) (c : Nat) : Nat := way t.mask (ksH P w k) c
abbrev Pr (P : Program) (w : World) (t : SetTable) (k : List Key) (c : Nat) : SetTable.Probe := nth t.mask (runAt t.mask (SetTable.bits (ksH P w k) % (t.mask + 1)) (SetTable.bits (ksH P w k))) c
section
variable {P : Program} {w : World} {A : Around} {E : Value → Shared → Prop} {s : Shared}
theorem items_key {k : List Key} {vs : List Value} (h : ItemsAre (mixKind P w) k vs) : ∀ v ∈ vs, (∃ i t, v = Value.int i t) ∨ ∃ x t, v = Value.str x t := by
  induction h with
  | nil => intro v hv; cases hv
  | @cons k0 v' ks vs h1 _ ih =>
    intro v hv
    rcases List.mem_cons.mp hv with rfl | hv
    · rcases keyIs_shape h1 with ⟨i, t, _, e⟩ | ⟨x, t, _, e⟩
      · exact .inl ⟨i, t, e⟩
      · exact .inr ⟨x, t, e⟩
    · exact ih v hv
theorem ofA_key (n : Nat) {v : Value} (h : (∃ i t, v = Value.int i t) ∨ ∃ x t, v = Value.str x t) : ofAClassStatement n v = pure false := by
  rcases h with ⟨i, t, rfl⟩ | ⟨x, t, rfl⟩ <;> cases n <;> rfl
theorem hashBy_key (n : Nat) {v : Value} (h : (∃ i t, v = Value.int i t) ∨ ∃ x t, v = Value.str x t) : ∃ b, hashByValue n v = pure b := by
  rcases h with ⟨i, t, rfl⟩ | ⟨x, t, rfl⟩
  · exact ⟨true, by cases n <;> rfl⟩
  · exact ⟨false, by cases n <;> rfl⟩
theorem ofA_ks {k : List Key} {b : Addr} {Q : Bool → Shared → Prop} (hk : IsK P w s.heap k b) (h : Q false s) : wpAny (model P w) A (ofAClassStatement 8 (.ref b)) Q E s := by
  have hT := hk.typeIs
  obtain ⟨o, items, n, ho, _, hd, hi⟩ := hk
  unfold ofAClassStatement
  refine wpAny_bind (wpAny_typeOf hT ?_)
  dsimp only
  have e : (("tuple" : String) == "tuple") = true := by decide
  simp only [e, if_true, Bool.not_true, Bool.false_eq_true, if_false]
  try refine wpAny_bind (wpAny_pure ?_)
  try simp only [Bool.not_true, Bool.false_eq_true, if_false]
  show wpAny _ _ (seqItems? (.ref b) >>= _) _ _ s
  refine wpAny_bind (wpAny_seqItems ho hd ?_)
  dsimp only
  refine wpAny_bind ?_
  show wpAny _ _ (forIn items _ _) _ _ s
  rw [← Array.forIn_toList]
  refine wpAny_forIn_list _ (fun rest r s' => r.1 = none ∧ s' = s ∧ ∀ v ∈ rest, (∃ i t, v = Value.int i t) ∨ ∃ x t, v = Value.str x t) _ ?_ ?_ _ _ ⟨rfl, rfl, items_key hi⟩
  · rintro v rest r s' ⟨hr, rfl, hall⟩
    rw [ofA_key _ (hall v List.mem_cons_self)]
    refine wpAny_bind (wpAny_pure ?_)
    simp only [Bool.false_eq_true, if_false]
    exact wpAny_pure ⟨rfl, rfl, fun u hu' => hall u (List.mem_cons_of_mem _ hu')⟩
  · rintro ⟨r1, r2⟩ s' ⟨hr, rfl, _⟩
    simp only at hr
    subst hr
    exact wpAny_pure h
/-- whether a tuple's hash is told by its value: nobody asks -/
theorem hashBy_ks {k : List Key} {b : Addr} {Q : Bool → Shared → Prop} (hk : IsK P w s.heap k b) (h : ∀ x, Q x s) : wpAny (model P w) A (hashByValue 8 (.ref b)) Q E s := by
  have hT := hk.typeIs
  obtain ⟨o, items, n, ho, _, hd, hi⟩ := hk
  unfold hashByValue
  refine wpAny_bind (wpAny_specialOf hT F.slot_tuple_hash.lookup ?_)
  show wpAny _ _ (seqItems? (.ref b) >>= _) _ _ s
  refine wpAny_bind (wpAny_seqItems ho hd ?_)
  refine wpAny_bind ?_
  show wpAny _ _ (forIn items _ _) _ _ s
  rw [← Array.forIn_toList]
  refine wpAny_forIn_list _ (fun rest r s' => s' = s ∧ ∀ v ∈ rest, (∃ i t, v = Value.int i t) ∨ ∃ x t, v = Value.str x t) _ ?_ ?_ _ _ ⟨rfl, items_key hi⟩
  · rintro v rest r s' ⟨rfl, hall⟩
    obtain ⟨x, hx⟩ := hashBy_key 7 (hall v List.mem_cons_self)
    rw [hx]
    refine wpAny_bind (wpAny_pure ?_)
    cases x with
    | true =>
      simp only [Bool.not_true, Bool.false_eq_true, if_false]
      exact wpAny_pure ⟨rfl, fun u hu' => hall u (List.mem_cons_of_mem _ hu')⟩
    | false =>
      simp only [Bool.not_false, if_true]
      exact wpAny_pure (wpAny_pure (h _))
  · rintro ⟨r1, r2⟩ s' ⟨rfl, _⟩
    cases r1 with
    | none => exact wpAny_pure (h _)
    | some b => exact wpAny_pure (h _)
theorem seen_ks {k : List Key} {b : Addr} {Q : Bool → Shared → Prop} (hk : IsK P w s.heap k b) {ys : List Value} (hy : ∀ y ∈ ys, ∃ k' c, y = Value.ref c ∧ IsK P w s.heap k' c) (h : Q false s) :
    wpAny (model P w) A (searchCouldBeSeen (.ref b) ys) Q E s := by
  unfold searchCouldBeSeen
  refine wpAny_bind ?_
  refine wpAny_forIn_list _ (fun rest r s' => r.1 = none ∧ s' = s ∧ ∀ y ∈ rest, ∃ k' c, y = Value.ref c ∧ IsK P w s.heap k' c) _ ?_ ?_ _ _ ⟨rfl, rfl, hy⟩
  · rintro v rest r s' ⟨hr, rfl, hall⟩
    obtain ⟨k', c, rfl, hc⟩ := hall v List.mem_cons_self
    have later : ∀ y ∈ rest, ∃ k' c, y = Value.ref c ∧ IsK P w s'.heap k' c := fun u hu' => hall u (List.mem_cons_of_mem _ hu')
    dsimp only
    by_cases hv : (b == c || (carriedByValue (.ref b) && carriedByValue (.ref c))) = true
    · exact wp_if_pos hv (wpAny_pure ⟨rfl, rfl, later⟩)
    · refine wp_if_neg hv ?_
      refine wpAny_bind (wpAny_eqIsQuiet_tuple hk ?_)
      simp only [Bool.not_true, Bool.false_eq_true, if_false]
      refine wpAny_bind (wpAny_eqIsQuiet_tuple hc ?_)
      simp only [Bool.not_true, Bool.false_eq_true, if_false]
      refine wpAny_bind (ofA_ks hk ?_)
      simp only [Bool.false_eq_true, if_false]
      refine wpAny_bind (ofA_ks hc ?_)
      simp only [Bool.false_eq_true, if_false]
      exact wpAny_pure ⟨rfl, rfl, later⟩
  · rintro ⟨r1, r2⟩ s' ⟨hr, rfl, _⟩
    simp only at hr
    subst hr
    exact wpAny_pure h
/-! ### the set -/
def ksRows (P : Program) (w : World) (L : List KRow) : List (Int × Value) := L.map fun p => (ksH P w p.2, Value.ref p.1)
/-- the masks that come -/
def MkZ (m : Nat) : Prop := m = 7 ∨ m = 31 ∨ m = 127 ∨ m = 511
theorem mk_leads {m : Nat} (h : MkZ m) : Leads m := by
  rcases h with e | e | e | e
  · exact leads_of (.inl e)
  · exact leads_of (.inr (.inl e))
  · exact leads_of (.inr (.inr e))
  · rw [e]; exact leads511
theorem mz_odd {m : Nat} (h : MkZ m) : m % 2 = 1 := by
  rcases h with e | e | e | e <;> rw [e]
structure SetK3 (P : Program) (w : World) (h : Heap) (a : Addr) (L : List KRow) (es : Array (Int × Value)) (ep : Nat) (t : SetTable) : Prop where
  ob : ∃ o, h.get? a = some o ∧ o.ExactSet ∧ o.data = .set es ep t
  rows : es.toList = ksRows P w L
  tab : TabZ t (L.map fun p => ksH P w p.2)
  mz : MkZ t.mask
  nd : (L.map (·.2)).Nodup
  tup : ∀ p ∈ L, IsK P w h p.2 p.1
  led : w.params.followText "set-order" = true ∨ t.led = true
  room : L.length * 5 < t.mask * 3
  few : L.length ≤ 306
variable {a : Addr} {L : List KRow} {es : Array (Int × Value)} {ep : Nat} {t : SetTable}
theorem rows_len (h : es.toList = ksRows P w L) : es.size = L.length := by
  have h := congrArg List.length h
  unfold ksRows at h
  rw [Array.length_toList, List.length_map] at h
  exact h
theorem rows_at (h : es.toList = ksRows P w L) {i : Nat} {p : KRow} (hi : L[i]? = some p) : es[i]? = some (ksH P w p.2, Value.ref p.1) := by
  rw [← Array.getElem?_toList, h]
  unfold ksRows
  rw [List.getElem?_map, hi] <;> rfl
theorem fits_of (hs : t.place.size = es.size) (hd : t.dummies = #[]) (hl : es.size ≤ t.mask) : t.fits es.size = true := by
  unfold SetTable.fits SetTable.fill
  rw [hd, Bool.and_eq_true, beq_iff_eq, decide_eq_true_eq]
  show t.place.size = es.size ∧ t.place.size + 0 ≤ t.mask
  omega
theorem SetK3.psz (R : SetK3 P w s.heap a L es ep t) : t.place.size = es.size := by
  have h := R.tab.sz
  rw [List.length_map] at h
  rw [h, rows_len R.rows]
theorem SetK3.fits (R : SetK3 P w s.heap a L es ep t) : t.fits es.size = true := fits_of R.psz R.tab.dm (by
  have := R.room
  rw [rows_len R.rows]
  omega)
theorem SetK3.gw (R : SetK3 P w s.heap a L es ep t) : ¬ t.gaveWay = true := by
  unfold SetTable.gaveWay
  rw [mz_odd R.mz]
  decide
theorem pr_dummy (t : SetTable) (k : List Key) (c : Nat) : (Pr P w t k c).dummy = none := by
  have key : ∀ (n : Nat) (p : SetTable.Probe), p.dummy = none → (nth t.mask p n).dummy = none := by
    intro n
    induction n with
    | zero => intro p h; exact h
    | succ n ih =>
      intro p h
      refine ih (adv t.mask p) ?_
      unfold adv
      split <;> exact h
  exact key c _ rfl
theorem pr_add (t : SetTable) (k : List Key) (c q : Nat) : nth t.mask (Pr P w t k c) q = Pr P w t k (c + q) := (nth_add t.mask c _ q).symm
/-- the search for k from the step c of its way on: it ends at the row of k, or at the first empty slot K -/
theorem k_search_from (R : SetK3 P w s.heap a L es ep t) {x : Addr} {k : List Key} (hx : IsK P w s.heap k x) (hu : A.units < cLine) {K : Nat} (hKf : K < 10 * SetTable.turns t.mask)
    (hK : Wy P w t k K ∉ t.place.toList) (hKb : ∀ c, c < K → Wy P w t k c ∈ t.place.toList) {Q : SetFound → Shared → Prop}
    (hin : k ∈ L.map (·.2) → Q (.there none) s) (hout : k ∉ L.map (·.2) → Q (.free (Wy P w t k K) false) s) :
    ∀ (f c : Nat) (stand : Option SetTable.Probe), stand.getD (t.probeStart (ksH P w k)) = Pr P w t k c → c ≤ K → K - c < f →
      (∀ (i : Nat) p, L[i]? = some p → p.2 = k → ∃ c', c ≤ c' ∧ c' < K ∧ t.place.toList[i]? = some (Wy P w t k c')) →
      wpAny (model P w) A (setSearchFrom a (.ref x) (ksH P w k) true f stand) Q E s
  | 0, c, stand, _, _, hf, _ => absurd hf (Nat.not_lt_zero _)
  | f + 1, c, stand, hst, hc, hf, hre => by
    obtain ⟨o, ho, hex, hd⟩ := R.ob
    rw [setSearchFrom_succ]
    refine wpAny_bind (wpAny_setState_of ho hd R.fits ?_)
    dsimp only
    refine wp_if_neg R.gw ?_
    try refine wpAny_bind (wpAny_pure ?_)
    have e1 : ∀ q, (nth t.mask (Pr P w t k c) q).j = Wy P w t k (c + q) := fun q => congrArg SetTable.Probe.j (pr_add t k c q)
    have spec := go_spec t R.tab.up R.tab.dm (fun i => (es[i]?.map (·.1)).getD 0) (ksH P w k) (10 * SetTable.turns t.mask) (K - c) _ (pr_dummy (P := P) (w := w) t k c) (by omega)
      (fun q hq => by rw [e1]; exact hKb (c + q) (by omega)) (by rw [e1, show c + (K - c) = K by omega]; exact hK)
    have hashAt : ∀ (i : Nat) p, L[i]? = some p → (fun i => (es[i]?.map (·.1)).getD 0) i = ksH P w p.2 := fun i p hp => by
      show (es[i]?.map (·.1)).getD 0 = _
      rw [rows_at R.rows hp] <;> rfl
    rcases spec with ⟨q, i, hq, hi, hh, hno, hpr⟩ | ⟨hno, hpr⟩
    · have hpr' : t.probe (fun i => (es[i]?.map (·.1)).getD 0) (ksH P w k) (stand.getD (t.probeStart (ksH P w k))) = some (.candidate (Wy P w t k (c + q)) i (Pr P w t k (c + (q + 1)))) := by
        rw [hst, ← e1, ← pr_add]
        exact hpr
      rw [hpr']
      dsimp only
      rw [e1] at hi
      have hil : i < L.length := by
        have h1 : i < t.place.toList.length := (List.getElem?_eq_some_iff.mp hi).1
        have h2 := R.psz
        rw [rows_len R.rows] at h2
        rw [Array.length_toList] at h1
        omega
      have hp : L[i]? = some L[i] := List.getElem?_eq_getElem hil
      generalize hpe : L[i] = p at hp
      have hmem : p ∈ L := List.mem_of_getElem? hp
      have hpt := R.tup p hmem
      have hsl : t.slot (Wy P w t k (c + q)) = .live i := slot_live R.tab.up hi
      have onward : wpAny (model P w) A (searchRest a (.ref x) (ksH P w k) true f es t (Wy P w t k (c + q)) i (Pr P w t k (c + (q + 1)))) Q E s := by
        unfold searchRest
        rw [rows_at R.rows hp]
        dsimp only
        refine wpAny_bind (wpAny_holding (wpAny_eqBool_tuple hu hpt hx ?_))
        refine wpAny_bind (wpAny_setState_of ho hd R.fits ?_)
        dsimp only
        by_cases hkk : p.2 = k
        · refine wp_if_pos (by simp [hkk]) ?_
          exact wpAny_pure (hin (List.mem_map.mpr ⟨p, hmem, hkk⟩))
        · refine wp_if_neg (by simp [hkk]) ?_
          try refine wpAny_bind (wpAny_pure ?_)
          rw [sameMem]
          dsimp only
          simp only [if_true, hsl, rows_at R.rows hp]
          refine wpAny_bind (wpAny_isSame_ref_self (wpAny_bind (wpAny_pure ?_)))
          simp only [if_true]
          refine wp_if_neg (by simp [hkk]) ?_
          refine k_search_from R hx hu hKf hK hKb hin hout f (c + (q + 1)) _ rfl (by omega) (by omega) fun i0 p0 h0 hk0 => ?_
          obtain ⟨c', a1, a2, a3⟩ := hre i0 p0 h0 hk0
          refine ⟨c', ?_, a2, a3⟩
          rcases Nat.lt_trichotomy c' (c + q) with z | z | z
          · refine absurd ((hashAt i0 p0 h0).trans (congrArg (ksH P w) hk0)) (hno (c' - c) i0 (by omega) ?_)
            rw [e1, show c + (c' - c) = c' by omega]
            exact a3
          · rw [z] at a3
            have s0 := slot_live R.tab.up a3
            rw [hsl] at s0
            injection s0 with s0
            rw [← s0, hp] at h0
            exact absurd ((congrArg Prod.snd (Option.some.inj h0)).trans hk0) hkk
          · omega
      by_cases hl : t.led = true
      · refine wp_if_neg (by simp [hl]) ?_
        try refine wpAny_bind (wpAny_pure ?_)
        exact onward
      · refine wp_if_pos (by simp [hl]) ?_
        refine wpAny_bind (seen_ks hx (fun y hy => ?_) ?_)
        · obtain ⟨e, he, ee⟩ := List.mem_map.mp hy
          have he1 : e ∈ es ∧ e.1 = ksH P w k := by simpa using he
          have he2 : e ∈ es.toList := by simpa using he1.1
          rw [R.rows] at he2
          obtain ⟨p2, hp2, e2⟩ := List.mem_map.mp he2
          exact ⟨p2.2, p2.1, by rw [← ee, ← e2], R.tup p2 hp2⟩
        · refine wp_if_neg (by decide) ?_
          try refine wpAny_bind (wpAny_pure ?_)
          exact onward
    · have hpr' : t.probe (fun i => (es[i]?.map (·.1)).getD 0) (ksH P w k) (stand.getD (t.probeStart (ksH P w k))) = some (.empty (Wy P w t k K) none) := by
        have e2 : Wy P w t k K = (nth t.mask (Pr P w t k c) (K - c)).j := by rw [e1, show c + (K - c) = K by omega]
        rw [hst, e2]
        exact hpr
      rw [hpr']
      dsimp only
      refine wpAny_pure (hout fun hm => ?_)
      obtain ⟨p0, h0, hk0⟩ := List.mem_map.mp hm
      obtain ⟨i0, hi0, e0⟩ := List.getElem_of_mem h0
      have h00 : L[i0]? = some p0 := by rw [List.getElem?_eq_getElem hi0, e0]
      obtain ⟨c', a1, a2, a3⟩ := hre i0 p0 h00 hk0
      refine hno (c' - c) i0 (by omega) ?_ ((hashAt i0 p0 h00).trans (congrArg (ksH P w) hk0))
      rw [e1, show c + (c' - c) = c' by omega]
      exact a3
theorem k_search (R : SetK3 P w s.heap a L es ep t) {x : Addr} {k : List Key} (hx : IsK P w s.heap k x) (hu : A.units < cLine) {Q : SetFound → Shared → Prop}
    (hin : k ∈ L.map (·.2) → Q (.there none) s)
    (hout : ∀ K, k ∉ L.map (·.2) → Wy P w t k K ∉ t.place.toList → (∀ c, c < K → Wy P w t k c ∈ t.place.toList) → Q (.free (Wy P w t k K) false) s) :
    wpAny (model P w) A (setSearch a (.ref x) (ksH P w k) true) Q E s := by
  have hroom := R.room
  obtain ⟨K, hKf, hK, hKb⟩ := R.tab.first (by rw [List.length_map]; omega) (ksH P w k)
  have hbig : K < 100000 := by
    have : 10 * SetTable.turns t.mask ≤ 5260 := by
      unfold SetTable.turns
      rcases R.mz with e | e | e | e <;> omega
    omega
  unfold setSearch
  refine k_search_from R hx hu hKf hK hKb hin (fun hn => hout K hn hK hKb) 100000 0 none rfl (Nat.zero_le _) (by omega) fun i p hp hk => ?_
  have hi : (L.map fun p => ksH P w p.2)[i]? = some (ksH P w k) := by rw [List.getElem?_map, hp, ← hk] <;> rfl
  have hil : i < t.place.toList.length := by
    have h1 : i < L.length := (List.getElem?_eq_some_iff.mp hp).1
    have h2 := R.psz
    rw [rows_len R.rows] at h2
    rw [Array.length_toList]
    omega
  have hj := List.getElem?_eq_getElem hil
  obtain ⟨c, hc, e⟩ := R.tab.before hK hi hj
  exact ⟨c, Nat.zero_le _, hc, by rw [hj]; exact congrArg some e.symm⟩
/-- a tuple is no set -/
theorem isK_same {h h' : Heap} {k : List Key} {a b : Addr} {o : Obj} {es : Array (Int × Value)} {ep : Nat} {t : SetTable} (hb : IsK P w h k b) (ho : h.get? a = some o) (hd : o.data = .set es ep t) (hs : Heap.SameBut a h h') : IsK P w h' k b := by
  obtain ⟨o', items, n, ho', hc, hd', hi⟩ := hb
  refine ⟨o', items, n, (hs.2 b ?_).trans ho', hc, hd', hi⟩
  rintro rfl
  cases Option.some.inj (ho'.symm.trans ho)
  rw [hd] at hd'
  exact nomatch hd'
theorem TabZ.off {t : SetTable} {hs : List Int} (T : TabZ t hs) : TabZ { t with plain := false } hs := ⟨T.up, T.dm, T.sz, T.led, T.low, T.way⟩
theorem ksRows_put (L : List KRow) (p : Nat) (x : Addr) (k : List Key) : ksRows P w (L.take p ++ (x, k) :: L.drop p) = (ksRows P w L).take p ++ (ksH P w k, Value.ref x) :: (ksRows P w L).drop p := by
  unfold ksRows
  rw [List.map_append, List.map_cons, List.map_take, List.map_drop]
/-- the rows picked by an order of all places -/
theorem ksRows_order (L : List KRow) (es : Array (Int × Value)) (order : Array Nat) (hr : es.toList = ksRows P w L) (hp : order.toList.Perm (List.range L.length)) :
    ∃ L2, (order.filterMap (es[·]?)).toList = ksRows P w L2 ∧ L2.Perm L ∧ (L2.map fun p => ksH P w p.2) = order.toList.map fun i => (es.map (·.1)).getD i 0 := by
  have hsz := rows_len hr
  have key : ∀ l : List Nat, (∀ i ∈ l, i < L.length) → l.filterMap (fun i => es[i]?) = ksRows P w (l.filterMap fun i => L[i]?) ∧ ((l.filterMap fun i => L[i]?).map fun p => ksH P w p.2) = l.map fun i => (es.map (·.1)).getD i 0 := by
    intro l
    induction l with
    | nil => intro _; exact ⟨rfl, rfl⟩
    | cons i l ih =>
      intro hl
      have hi := hl i List.mem_cons_self
      obtain ⟨e1, e3⟩ := ih fun j hj => hl j (List.mem_cons_of_mem _ hj)
      have eL : L[i]? = some L[i] := List.getElem?_eq_getElem hi
      have eE := rows_at hr eL
      rw [List.filterMap_cons_some eE, List.filterMap_cons_some eL, e1, List.map_cons, List.map_cons, e3]
      refine ⟨rfl, ?_⟩
      have e5 : (es.map (·.1))[i]? = some (ksH P w (L[i]).2) := by rw [Array.getElem?_map, eE] <;> rfl
      have e4 : (es.map (·.1)).getD i 0 = ksH P w (L[i]).2 := by simp [Array.getD_eq_getD_getElem?, e5]
      rw [e4]
  obtain ⟨e1, e3⟩ := key order.toList fun i hi => List.mem_range.mp (hp.mem_iff.mp hi)
  refine ⟨_, by first | (rw [Array.toList_filterMap]; exact e1) | simpa using e1, ?_, e3⟩
  have h1 := hp.filterMap fun i => L[i]?
  have h2 : ∀ n, n ≤ L.length → (List.range n).filterMap (fun i => L[i]?) = L.take n := by
    intro n
    induction n with
    | zero => intro _; rfl
    | succ n ih =>
      intro hn
      have hlt : n < L.length := hn
      rw [List.range_succ, List.filterMap_append, ih (Nat.le_of_lt hlt), List.take_succ, List.getElem?_eq_getElem hlt]
      rw [List.filterMap_cons_some (List.getElem?_eq_getElem hlt)] <;> rfl
  rw [h2 L.length (Nat.le_refl _), List.take_length] at h1
  exact h1
/-- the table is laid anew -/
theorem k_relay {o : Obj} (ho : s.heap.get? a = some o) (hex : o.ExactSet) (hd : o.data = .set es ep t) (hrows : es.toList = ksRows P w L) (hsz : t.place.size = es.size) (hdm : t.dummies = #[]) (hfl : es.size ≤ t.mask)
    (nd : (L.map (·.2)).Nodup) (tup : ∀ p ∈ L, IsK P w s.heap p.2 p.1) (ld : w.params.followText "set-order" = true ∨ t.led = true) (few : L.length ≤ 306) {wanted M : Nat}
    (hw : SetTable.sizeAbove wanted - 1 = M) (hM : MkZ M) (hw2 : SetTable.sizeAbove wanted ≤ 512) (hn : L.length * 5 < M * 3) {Q : Unit → Shared → Prop}
    (hQ : ∀ h' L' es' ep' t', Heap.SameBut a s.heap h' → SetK3 P w h' a L' es' ep' t' → L'.Perm L → Q () { s with heap := h' }) : wpAny (model P w) A (setRelay a wanted) Q E s := by
  have hsl := rows_len hrows
  have hfits := fits_of hsz hdm hfl
  obtain ⟨t', order, e, hp, T, em, el⟩ := relaid_z t (hs := es.map (·.1)) (wanted := wanted) hw (mk_leads hM) (by rw [Array.size_map, hsl]; omega)
  rw [Array.size_map, hsl] at hp
  obtain ⟨L2, r1, r2, r3⟩ := ksRows_order L es order hrows hp
  rw [← r3] at T
  have hs2 : (order.filterMap (es[·]?)).size = es.size := by rw [rows_len r1, r2.length_eq, hsl]
  rw [setRelay_eq]
  refine wpAny_bind (wpAny_setState_of ho hd hfits ?_)
  dsimp only
  refine wp_if_neg (by rw [sizeLine_eq]; omega) ?_
  try refine wpAny_bind (wpAny_pure ?_)
  rw [e]
  dsimp only
  refine wpAny_bind ?_
  refine wp_if_neg (by rw [hs2]; simp) ?_
  try refine wpAny_bind (wpAny_pure ?_)
  refine wpAny_pure ?_
  dsimp only
  refine wpAny_storeSet_of ho hd ?_ (by rw [hs2, hsl, sizeLine_eq]; omega)
  have sb : Heap.SameBut a s.heap (s.heap.update a (Obj.putSet (order.filterMap (es[·]?)) t')) := Heap.SameBut.update ..
  refine hQ _ L2 (order.filterMap (es[·]?)) (ep + 1) t' sb ?_ r2
  refine ⟨⟨_, store_at ho hd, ⟨hex.1, hex.2.1, hex.2.2⟩, rfl⟩, r1, T, by rw [em]; exact hM, (r2.map (·.2)).nodup_iff.mpr nd, fun p hpm => isK_same (tup p (r2.mem_iff.mp hpm)) ho hd sb, by rw [el]; exact ld, ?_, by rw [r2.length_eq]; exact few⟩
  rw [r2.length_eq, em]
  exact hn
/-- the row is laid, and the table anew where it is too full -/
theorem k_lay (R : SetK3 P w s.heap a L es ep t) {x : Addr} {k : List Key} (hx : IsK P w s.heap k x) (hfew : L.length + 1 ≤ 306) (hm : k ∉ L.map (·.2)) {p : Nat} {t1 : SetTable}
    (q2 : p ≤ (L.map fun p => ksH P w p.2).length) (q3 : TabZ t1 ((L.map fun p => ksH P w p.2).take p ++ ksH P w k :: (L.map fun p => ksH P w p.2).drop p)) (q4 : t1.mask = t.mask) (q5 : t1.led = t.led) (q9 : t1.fill = L.length + 1) {Q : Bool → Shared → Prop}
    (hQ : ∀ h' L' es' ep' t', Heap.SameBut a s.heap h' → SetK3 P w h' a L' es' ep' t' → L'.Perm ((x, k) :: L) → Q true { s with heap := h' }) :
    wpAny (model P w) A (storeSet a (SetTable.insertAt es p (ksH P w k, .ref x)) t1) (fun _ s1 => (t1.tooFull = true → wpAny (model P w) A (setRelay a (SetTable.grown (es.size + 1))) (fun _ s2 => Q true s2) E s1) ∧ (t1.tooFull = false → Q true s1)) E s := by
  obtain ⟨o, ho, hex, hd⟩ := R.ob
  have hsl := rows_len R.rows
  have hroom := R.room
  have hin : (SetTable.insertAt es p (ksH P w k, Value.ref x)).toList = ksRows P w (L.take p ++ (x, k) :: L.drop p) := by rw [SetTable.toList_insertAt, ksRows_put, R.rows]
  have pm := put_perm L p (x, k)
  have hlen : (L.take p ++ (x, k) :: L.drop p).length = L.length + 1 := pm.length_eq
  have hhs : (L.take p ++ (x, k) :: L.drop p).map (fun p => ksH P w p.2) = (L.map fun p => ksH P w p.2).take p ++ ksH P w k :: (L.map fun p => ksH P w p.2).drop p := by
    rw [List.map_append, List.map_cons, List.map_take, List.map_drop]
  rw [← hhs] at q3
  have nd1 : ((L.take p ++ (x, k) :: L.drop p).map (·.2)).Nodup := by
    refine (pm.map (·.2)).nodup_iff.mpr ?_
    rw [List.map_cons]
    exact List.nodup_cons.mpr ⟨hm, R.nd⟩
  have hes : (SetTable.insertAt es p (ksH P w k, Value.ref x)).size = L.length + 1 := by rw [rows_len hin, hlen]
  generalize SetTable.insertAt es p (ksH P w k, Value.ref x) = es1 at hin hes ⊢
  generalize L.take p ++ (x, k) :: L.drop p = L1 at pm hlen q3 nd1 hin
  refine wpAny_storeSet_of ho hd ?_ (by rw [hes, sizeLine_eq]; omega)
  have sb : Heap.SameBut a s.heap (s.heap.update a (Obj.putSet es1 t1)) := Heap.SameBut.update ..
  have ho1 := store_at (es' := es1) (t' := t1) ho hd
  generalize s.heap.update a (Obj.putSet es1 t1) = h1 at sb ho1 ⊢
  have tup1 : ∀ p ∈ L1, IsK P w h1 p.2 p.1 := fun p hp => by
    rcases List.mem_cons.mp (pm.mem_iff.mp hp) with e | hp
    · rw [e]; exact isK_same hx ho hd sb
    · exact isK_same (R.tup p hp) ho hd sb
  have ld1 : w.params.followText "set-order" = true ∨ t1.led = true := by rw [q5]; exact R.led
  have full : t1.tooFull = decide (t1.fill * 5 ≥ t1.mask * 3) := rfl
  refine ⟨fun hf => ?_, fun hf => ?_⟩
  · have hfull : (L.length + 1) * 5 ≥ t.mask * 3 := by
      rw [full, decide_eq_true_eq, q9, q4] at hf
      exact hf
    have hsz1 : t1.place.size = es1.size := by
      have h := q3.sz
      rw [List.length_map, hlen] at h
      rw [h, hes]
    have two : (t.mask = 7 ∧ L.length = 4) ∨ (t.mask = 31 ∧ L.length = 18) ∨ (t.mask = 127 ∧ L.length = 76) := by
      rcases R.mz with e | e | e | e
      · left; rw [e] at hfull hroom; exact ⟨e, by omega⟩
      · right; left; rw [e] at hfull hroom; exact ⟨e, by omega⟩
      · right; right; rw [e] at hfull hroom; exact ⟨e, by omega⟩
      · exfalso; rw [e] at hfull; omega
    have go : ∀ M, SetTable.sizeAbove (SetTable.grown (L.length + 1)) - 1 = M → MkZ M → SetTable.sizeAbove (SetTable.grown (L.length + 1)) ≤ 512 → (L.length + 1) * 5 < M * 3 →
        wpAny (model P w) A (setRelay a (SetTable.grown (es.size + 1))) (fun _ s2 => Q true s2) E { s with heap := h1 } := fun M h1' h2' h3' h4' => by
      rw [hsl]
      refine k_relay (s := { s with heap := h1 }) ho1 ⟨hex.1, hex.2.1, hex.2.2⟩ rfl hin hsz1 q3.dm (by rw [hes, q4]; rcases two with ⟨e, e2⟩ | ⟨e, e2⟩ | ⟨e, e2⟩ <;> omega) nd1 tup1 ld1 (by rw [hlen]; exact hfew) h1' h2' h3' (by rw [hlen]; exact h4') ?_
      intro h2 L2 es2 ep2 t2 sb2 R2 pm2
      exact hQ h2 L2 es2 ep2 t2 (sb.trans sb2) R2 (pm2.trans pm)
    rcases two with ⟨_, e2⟩ | ⟨_, e2⟩ | ⟨_, e2⟩
    · exact go 31 (by rw [e2, size_20]) (.inr (.inl rfl)) (by rw [e2, size_20]; decide) (by omega)
    · exact go 127 (by rw [e2, size_76]) (.inr (.inr (.inl rfl))) (by rw [e2, size_76]; decide) (by omega)
    · exact go 511 (by rw [e2, size_308]) (.inr (.inr (.inr rfl))) (by rw [e2, size_308]; decide) (by omega)
  · have hnot : ¬ (L.length + 1) * 5 ≥ t1.mask * 3 := by
      rw [full, decide_eq_false_iff_not, q9] at hf
      exact hf
    exact (hQ h1 L1 es1 (ep + 1) t1 sb ⟨⟨_, ho1, ⟨hex.1, hex.2.1, hex.2.2⟩, rfl⟩, hin, q3, by rw [q4]; exact R.mz, nd1, tup1, ld1, by rw [hlen]; omega, by rw [hlen]; exact hfew⟩ pm)
/-- the set takes the tuple at x -/
theorem k_add (R : SetK3 P w s.heap a L es ep t) {x : Addr} {k : List Key} (hx : IsK P w s.heap k x) (hu : A.units < cLine) (hfew : L.length + 1 ≤ 306) {Q : Bool → Shared → Prop}
    (hQ : ∀ b h' L' es' ep' t', Heap.SameBut a s.heap h' → SetK3 P w h' a L' es' ep' t' → (k ∈ L.map (·.2) → L' = L) → (k ∉ L.map (·.2) → L'.Perm ((x, k) :: L)) → Q b { s with heap := h' }) :
    wpAny (model P w) A (setAddHashed a (.ref x) (ksH P w k)) Q E s := by
  obtain ⟨o, ho, hex, hd⟩ := R.ob
  have hfits := R.fits
  unfold setAddHashed
  refine wpAny_holding ?_
  rw [show (100000 : Nat) = 99999 + 1 from rfl, setAddHashedIn_succ]
  refine wpAny_bind (wpAny_setState_of ho hd hfits ?_)
  dsimp only
  refine wp_if_neg (by simp [byScan, Value.scannable]) ?_
  try refine wpAny_bind (wpAny_pure ?_)
  refine wpAny_bind (k_search R hx hu (fun hm => ?_) fun K hm hK hb => ?_)
  · dsimp only
    exact wpAny_pure (hQ false s.heap L es ep t (Heap.SameBut.refl a s.heap) R (fun _ => rfl) fun z => absurd hm z)
  · dsimp only
    refine wpAny_bind (wpAny_setState_of ho hd hfits ?_)
    dsimp only
    obtain ⟨q1, q2, q3, q9⟩ := R.tab.put (h := ksH P w k) (K := K) rfl rfl hK hb
    have q4 : (t.put (Wy P w t k K)).1.mask = t.mask := rfl
    have q5 : (t.put (Wy P w t k K)).1.led = t.led := rfl
    rw [List.length_map] at q9
    change (t.put (Wy P w t k K)).2 = SetTable.below t.place (Wy P w t k K) at q1
    generalize hpt : t.put (Wy P w t k K) = pt at q1 q3 q4 q5 q9 ⊢
    obtain ⟨t1, p⟩ := pt
    dsimp only at q1 q3 q4 q5 q9 ⊢
    change p = SetTable.below t.place (way t.mask (ksH P w k) K) at q1
    rw [← q1] at q2 q3
    have fin : ∀ t2 : SetTable, t2 = t1 ∨ t2 = { t1 with plain := false } → ∀ (G : Unit → Sem Bool), (∀ s1, (t2.tooFull = true → wpAny (model P w) A (setRelay a (SetTable.grown (es.size + 1))) (fun _ s2 => Q true s2) E s1) ∧ (t2.tooFull = false → Q true s1) → wpAny (model P w) A (G ()) Q E s1) →
        wpAny (model P w) A (storeSet a (SetTable.insertAt es p (ksH P w k, .ref x)) t2 >>= G) Q E s := fun t2 ht G hG => by
      refine wpAny_bind (wpAny_mono (k_lay (Q := Q) R hx hfew hm (p := p) (t1 := t2) q2 ?_ ?_ ?_ ?_ fun h' L' es' ep' t' sb R' pm => hQ true h' L' es' ep' t' sb R' (fun z => absurd z hm) fun _ => pm) (fun _ s1 h1 => hG s1 h1) fun _ _ h => h)
      · rcases ht with rfl | rfl
        · exact q3
        · exact TabZ.off q3
      · rcases ht with rfl | rfl <;> exact q4
      · rcases ht with rfl | rfl <;> exact q5
      · rcases ht with rfl | rfl <;> exact q9
    have tail : ∀ (t2 : SetTable) s1, (t2.tooFull = true → wpAny (model P w) A (setRelay a (SetTable.grown (es.size + 1))) (fun _ s2 => Q true s2) E s1) ∧ (t2.tooFull = false → Q true s1) → wpAny (model P w) A (do
        if !false && t2.tooFull then setRelay a (SetTable.grown (es.size + 1))
        pure true) Q E s1 := fun t2 s1 ⟨h1, h2⟩ => by
      cases hf : t2.tooFull with
      | true =>
        first
          | exact wp_if_pos rfl (wpAny_bind (wpAny_mono (h1 hf) (fun _ _ h => wpAny_pure h) fun _ _ h => h))
          | (refine wpAny_bind ?_; exact wp_if_pos rfl (wpAny_mono (h1 hf) (fun _ _ h => wpAny_pure h) fun _ _ h => h))
      | false =>
        first
          | exact wp_if_neg (by decide) (wpAny_pure (h2 hf))
          | (refine wpAny_bind ?_; exact wp_if_neg (by decide) (wpAny_pure (wpAny_pure (h2 hf))))
    by_cases hp1 : t1.plain = true
    · first
        | refine wp_if_pos hp1 (wpAny_bind (hashBy_ks hx fun b => ?_))
        | (refine wpAny_bind ?_; refine wp_if_pos hp1 ?_; refine hashBy_ks hx fun b => ?_)
      cases b with
      | true =>
        simp only [if_true]
        exact fin t1 (.inl rfl) _ (tail t1)
      | false =>
        simp only [Bool.false_eq_true, if_false]
        exact fin _ (.inr rfl) _ (tail _)
    · first
        | (refine wp_if_neg hp1 (wpAny_bind (wpAny_pure ?_)))
        | (refine wpAny_bind ?_; refine wp_if_neg hp1 ?_; refine wpAny_pure ?_)
        | refine wp_if_neg hp1 ?_
      simp only [if_true]
      exact fin t1 (.inl rfl) _ (tail t1)
theorem setK3_fresh {h : Heap} {a : Addr} (ho : h.get? a = some { cls := .type "set", dict := none, data := .set #[] 0 (.fresh 0 0 (!w.params.followText "set-order")) }) : SetK3 P w h a [] #[] 0 (.fresh 0 0 (!w.params.followText "set-order")) :=
  ⟨⟨_, ho, ⟨rfl, rfl, rfl⟩, rfl⟩, rfl, ⟨List.Pairwise.nil, rfl, rfl, leads_of (.inl rfl), fun x hx => (by cases hx), fun i h j hi => (by simp at hi)⟩, .inl rfl, List.nodup_nil, fun p hp => (by cases hp), by
    show _ ∨ (!w.params.followText "set-order") = true
    cases w.params.followText "set-order"
    · exact .inr rfl
    · exact .inl rfl, by show 0 * 5 < 7 * 3; decide, by show 0 ≤ 306; decide⟩
end
end DL
set_option maxHeartbeats 3200000
/-! DL34: sets of texts: made of a list or a tuple of texts. -/
namespace DL
open PySem PySem.Spec PyProof.Rows L2 PySem.Froz
/-- the set at a holds the texts l -/
def SS (P : Program) (w : World) (h : Heap) (a : Addr) (l : List Str) : Prop := ∃ D : SD, h.get? a = some (sObj "set" D) ∧ TxOk P w D l ∧ l.Nodup ∧ Ris D.2.2.place.toList ∧ (w.params.followText "set-order" = true ∨ D.2.2.led = true)
section
variable {P : Program} {w : World} {A : Around} {E : Value → Shared → Prop} {s : Shared}
theorem SS.at {h h' : Heap} {a : Addr} {l : List Str} (x : SS P w h a l) (k : ∀ o, h.get? a = some o → h'.get? a = some o) : SS P w h' a l := by
  obtain ⟨D, ho, r⟩ := x
  exact ⟨D, k _ ho, r⟩
theorem addTx_ris (h : Int) (v : Value) (D : SD) (r : Ris D.2.2.place.toList) : Ris (addTx h v D).2.2.place.toList ∧ (addTx h v D).2.2.led = D.2.2.led := by
  have r1 := layNew_ris D.2.2 D.1 h v r
  have l1 := layNew_led D.2.2 D.1 h v
  unfold addTx tailTx
  have key : ∀ t2 : SetTable, Ris t2.place.toList → t2.led = D.2.2.led → ∀ (es1 : Array (Int × Value)) (b : Bool), Ris (if (!b && t2.tooFull) = true then ((relayAll t2 es1 (SetTable.grown es1.size)).1, D.2.1 + 2, (relayAll t2 es1 (SetTable.grown es1.size)).2.1) else (es1, D.2.1 + 1, t2)).2.2.place.toList ∧
      (if (!b && t2.tooFull) = true then ((relayAll t2 es1 (SetTable.grown es1.size)).1, D.2.1 + 2, (relayAll t2 es1 (SetTable.grown es1.size)).2.1) else (es1, D.2.1 + 1, t2)).2.2.led = D.2.2.led := fun t2 h1 h2 es1 b => by
    split
    · exact ⟨relayAll_ris _ _ _, (relayAll_led _ _ _).trans h2⟩
    · exact ⟨h1, h2⟩
  refine key _ ?_ ?_ _ _
  · split
    · exact r1
    · exact r1
  · split
    · exact l1
    · exact l1
/-- a text that is there already -/
theorem add_old {a : Addr} {T : String} {D : SD} {l : List Str} {k : Str} {u : Tok} {Q : Bool → Shared → Prop} (ho : s.heap.get? a = some (sObj T D)) (F : TxOk P w D l) (hk : k ∈ l) (hb : l.length < scanBound) (h : Q false s) : wpAny (model P w) A (setAddHashed a (.str k u) (hashStr w k)) Q E s := by
  obtain ⟨es, ep, t⟩ := D
  have hd : (sObj T (es, ep, t)).data = .set es ep t := rfl
  have hf : t.fits es.size = true := F.fit
  have hel : ElemsOf (strKind P w) es.toList := F.el
  have hsz : es.size = l.length := F.sz
  have hkey : (strKind P w).is k (.str k u) = true := is_str k u
  unfold setAddHashed setAddHashedIn
  refine wpAny_holding (wpAny_bind (wpAny_setState_of ho hd hf ?_))
  dsimp only
  rw [byScan_of rfl (by omega) hel]
  simp only [↓reduceIte]
  unfold setAddByScan
  refine wpAny_bind ?_
  refine wpAny_bind (wpAny_rule ?_)
  refine wpAny_bind (wpAny_setScan_of (knd := strKind P w) (k := k) hkey ho hd hf hel ?_)
  cases hr : List.findIdx? (fun e => (strKind P w).is k e.2) es.toList with
  | none =>
    obtain ⟨e, he, q⟩ := (F.mem k).mp hk
    have c := List.findIdx?_eq_none_iff.mp hr e he
    rw [q] at c
    cases c
  | some j =>
    dsimp only
    exact wpAny_pure (wpAny_pure h)
/-- the set takes a text -/
theorem ss_add {a : Addr} {l : List Str} {k : Str} {u : Tok} {Q : Bool → Shared → Prop} (R : SS P w s.heap a l) (hb : l.length + 1 < scanBound)
    (hQ : ∀ b h', Heap.SameBut a s.heap h' → SS P w h' a (if k ∈ l then l else k :: l) → Q b { s with heap := h' }) : wpAny (model P w) A (setAddHashed a (.str k u) (hashStr w k)) Q E s := by
  obtain ⟨D, ho, F, nd, r, ld⟩ := R
  by_cases hk : k ∈ l
  · rw [if_pos hk] at hQ
    exact add_old ho F hk (by omega) (hQ false s.heap (Heap.SameBut.refl a s.heap) ⟨D, ho, F, nd, r, ld⟩)
  · rw [if_neg hk] at hQ
    refine add_x ho F hk hb (hQ true _ (Heap.SameBut.update ..) ⟨_, get_upd _ ho rfl, add_ok u F, List.nodup_cons.mpr ⟨hk, nd⟩, ?_, ?_⟩)
    · exact (addTx_ris _ _ D r).1
    · exact ld.imp id fun z => by rw [(addTx_ris _ _ D r).2]; exact z
/-- what the set has got from the first i texts -/
structure GotS (xs : List Str) (i : Nat) (l : List Str) : Prop where
  mem : ∀ x, x ∈ l ↔ x ∈ xs.take i
  len : l.length ≤ i
theorem GotS.step {xs l : List Str} {i : Nat} {x : Str} (g : GotS xs i l) (h : xs[i]? = some x) : GotS xs (i + 1) (if x ∈ l then l else x :: l) := by
  have e : xs.take (i + 1) = xs.take i ++ [x] := take_next h
  have hm : ∀ y, y ∈ xs.take (i + 1) ↔ y ∈ l ∨ y = x := fun y => by
    rw [e, List.mem_append, List.mem_singleton, g.mem y]
  split
  · rename_i hx
    refine ⟨fun y => ?_, Nat.le_succ_of_le g.len⟩
    rw [hm y]
    exact ⟨.inl, fun z => z.elim id fun q => q ▸ hx⟩
  · refine ⟨fun y => ?_, Nat.succ_le_succ g.len⟩
    rw [hm y, List.mem_cons]
    exact Or.comm
/-- set.update's loop -/
theorem set_update_strs {I : Addr} {fp wr : List Addr} {G : Array GenState → Array GenState → Prop} {n : Nat} {Pv : Nat → Value → Prop} {St : Nat → Shared → Prop} {R : Result → Shared → Prop}
    (W : WalksS P w A.in1 I fp wr G n Pv St) (S : Addr) (hSf : S ∉ fp) (xs : List Str) (hn : n = xs.length) (hfew : xs.length + 1 < scanBound) (hval : ∀ i v, Pv i v → ∃ x t, xs[i]? = some x ∧ v = .str x t)
    (h0 : Heap) (hS0 : h0.get? S = none) (hw0 : ∀ b ∈ wr, h0.get? b = none) :
    ∀ (k i : Nat) (s : Shared), n - i = k → i ≤ n → St i s → (∀ b o, h0.get? b = some o → s.heap.get? b = some o) → (∃ l, SS P w s.heap S l ∧ GotS xs i l) →
      (∀ s' l, Moved (S :: wr) G s s' → SS P w s'.heap S l → GotS xs n l → (∀ b o, h0.get? b = some o → s'.heap.get? b = some o) → R (.ok (.ret .none)) s') →
      codeAny (model P w) A (.builtin "set.update.loop" ⟨[.ref S, .ref I], []⟩) R s := by
  have hSw : S ∉ wr := fun h => hSf (W.sub _ h)
  have hsub : ∀ b ∈ wr, b ∈ S :: wr := fun b hb => List.mem_cons_of_mem _ hb
  have keepM : ∀ {s s' : Shared}, Moved wr G s s' → (∀ b o, h0.get? b = some o → s.heap.get? b = some o) → ∀ b o, h0.get? b = some o → s'.heap.get? b = some o := fun hm hkp b o e =>
    hm.heap b o (fun hb => by rw [hw0 b hb] at e; cases e) (hkp b o e)
  intro k
  induction k with
  | zero =>
    intro i s hk' hi hst hkp ⟨l, hS, g⟩ hR
    have hin : i = n := by omega
    subst hin
    refine codeAny_builtin F.entry_set_update_loop ?_
    rw [Around.under_plainId F.plain_set_update_loop _]
    show wpAny _ A.in1 (pyNext (.ref I) >>= _) _ _ s
    refine wpAny_bind (W.done s _ _ hst fun s' hm => ?_)
    show wpAny _ A.in1 (ret Value.none) _ _ s'
    exact wpAny_pure (hR s' l (hm.mono hsub) (hS.at fun o e => hm.heap S o hSw e) g (keepM hm hkp))
  | succ k ih =>
    intro i s hk' hi hst hkp ⟨l, hS, g⟩ hR
    have hlt : i < n := by omega
    refine codeAny_builtin F.entry_set_update_loop ?_
    rw [Around.under_plainId F.plain_set_update_loop _]
    show wpAny _ A.in1 (pyNext (.ref I) >>= _) _ _ s
    refine wpAny_bind (W.item i s _ _ hlt hst fun v s' hP hst' hm => ?_)
    obtain ⟨x, t, hp, rfl⟩ := hval i v hP
    have hkp' := keepM hm hkp
    have hS' : SS P w s'.heap S l := hS.at fun o e => hm.heap S o hSw e
    show wpAny _ A.in1 (holding [Value.str x t] (setAdd S (.str x t)) >>= _) _ _ s'
    refine wpAny_bind (wpAny_holding ?_)
    unfold setAdd
    refine wpAny_holding ?_
    refine wpAny_bind ((strKind P w).pyHash (is_str x t) ?_)
    refine ss_add (s := { s' with toks := s'.toks + 1 }) hS' (by have := g.len; omega) fun b h' hsb hS2 => ?_
    have hkp2 : ∀ b o, h0.get? b = some o → h'.get? b = some o := fun b o e => (hsb.2 b (fun z => by rw [z, hS0] at e; cases e)).trans (hkp' b o e)
    refine wpAny_pure ⟨plainId_quiet F.plain_set_update_loop _, ih (i + 1) _ (by omega) hlt (W.frame _ s' _ _ hst' (Nat.le_add_right _ _) fun b hb o e => ?_) hkp2 ⟨_, hS2, g.step hp⟩ fun s'' l2 hm'' hS'' g'' hkp'' => ?_⟩
    · rw [hsb.2 b (fun h : b = S => hSf (by rw [← h]; exact hb))]; exact e
    · refine hR s'' l2 (Moved.trans W.gtrans ((hm.mono hsub).then_heap (Nat.le_add_right _ _) fun b o hb e => ?_) hm'') hS'' g'' hkp''
      rw [hsb.2 b (fun h : b = S => hb (by rw [h]; exact List.mem_cons_self))]; exact e
/-- set(xs), xs a list of texts -/
theorem call_setS_list {l : Addr} {items : Array Value} (xs : List Str) {Q : Value → Shared → Prop} (hh : A.handled = none) (hl : s.heap.IsList l items) (hval : ∀ (i : Nat) (v : Value), items[i]? = some v → ∃ x t, xs[i]? = some x ∧ v = .str x t) (hisz : items.size = xs.length) (hfew : xs.length + 1 < scanBound)
    (h : ∀ (h' : Heap) (tk : Nat) ys, SS P w h' s.heap.objs.size ys → (∀ x, x ∈ ys ↔ x ∈ xs) → (∀ b o, s.heap.get? b = some o → h'.get? b = some o) → Q (.ref s.heap.objs.size) { s with heap := h', toks := tk }) :
    wpAny (model P w) A (call (.type "set") [.ref l]) Q E s := by
  obtain ⟨c, tl, hmro⟩ := F.called_set.mro
  have hmade := F.called_set.made
  have hsub := F.called_set.sub
  refine wpAny_call (codeAny_of_tree ?_)
  show wpAny _ _ (callAny (.type "set") _) _ _ _
  refine wpAny_pure ⟨Code.quiet_builtin _ (by decide +kernel), codeAny_builtin F.entry_type_call ?_⟩
  rw [Around.under_plain (weight_type_call_type "set" [.ref l] []) rfl]
  have h1 := F.called_set.notType
  have h2 := F.called_set.canCreate
  have hct := F.typeCall_set_1 (.ref l)
  repeat (any_goals (first | assumption | wp_step))

  refine codeAny_mono (code_set_led1 (.ref l) (E := E) (Q₁ := fun obj s₁ => obj = .ref s.heap.objs.size ∧ s₁ = { s with heap := s.heap.push { cls := .type "set", dict := none, data := .set #[] 0 (.fresh 0 0 (!w.params.followText "set-order")) } }) ⟨rfl, rfl⟩) fun r s₁ hr => ?_
  cases r with
  | error e => exact hr
  | ok fl =>
    cases fl with
    | ret obj =>
      obtain ⟨rfl, rfl⟩ := hr
      generalize hob : ({ cls := .type "set", dict := none, data := .set #[] 0 (.fresh 0 0 (!w.params.followText "set-order")) } : Obj) = ob0
      have hfr : ob0.isFreed = false := by rw [← hob]; rfl
      have hcl0 : ob0.cls = .type "set" := by rw [← hob]
      have hS : (s.heap.push ob0).get? s.heap.objs.size = some ob0 := Heap.get?_push_size _ hfr
      have hT : Shared.TypeIs { s with heap := s.heap.push ob0 } (.ref s.heap.objs.size) "set" := ⟨_, hS, hcl0⟩
      have hli := F.called_set.init.lookup
      have hbi := F.called_set.init.bind (.ref s.heap.objs.size)
      repeat (any_goals (first | assumption | wp_step))

      refine codeAny_mono (codeAny_call_builtin (R := wants (fun r s₂ => r = .none ∧ ∃ h' tk ys, s₂ = { s with heap := h', toks := tk } ∧ SS P w h' s.heap.objs.size ys ∧ (∀ x, x ∈ ys ↔ x ∈ xs) ∧
          (∀ b o, s.heap.get? b = some o → h'.get? b = some o)) E) F.called_set.init.plain F.entry_set_init (check_set_init_1 hT ?_)) fun r₂ s₂ hr₂ => ?_
      · obtain ⟨ol, hol, hcl, nl, hdl⟩ := hl
        obtain ⟨ocls, odict, odata, oslots⟩ := ol
        simp only at hcl hdl
        subst hcl; subst hdl
        have hol' : (s.heap.push ob0).get? l = some { cls := .type "list", dict := odict, data := .seq items nl, slots := oslots } := Heap.get?_push_of_some _ hol
        have hsls := F.sub_list_set
        have hslf := F.sub_list_frozenset
        have hne : (Value.type "list" == Value.type "dict") = false := by decide
        have hl1 : (s.heap.push ob0).IsList l items := ⟨_, hol', rfl, nl, rfl⟩
        subst hob
        unfold Builtin.«set.__init__» noKeywords Builtin.Frozenset.updateFrom
        generalize hPI : pyIter = PI
        wp_walk
        subst hPI

        refine wpAny_pyIter_list hl1 ?_
        refine wpAny_bind (wpAny_runValue ?_)
        have hlS : l < s.heap.objs.size := Heap.lt_size hol
        have hh3 : A.in1.in1.in1.handled = none := by simp [hh]
        have hz1 : (s.heap.push { cls := .type "set", dict := none, data := .set #[] 0 (.fresh 0 0 (!w.params.followText "set-order")) }).objs.size = s.heap.objs.size + 1 := Heap.size_push ..
        have hneI : l ≠ (s.heap.push { cls := .type "set", dict := none, data := .set #[] 0 (.fresh 0 0 (!w.params.followText "set-order")) }).objs.size := by rw [hz1]; exact Nat.ne_of_lt (Nat.lt_succ_of_lt hlS)
        have hSf : s.heap.objs.size ∉ [(s.heap.push { cls := .type "set", dict := none, data := .set #[] 0 (.fresh 0 0 (!w.params.followText "set-order")) }).objs.size, l] := by
          rw [hz1]; simp only [List.mem_cons, List.mem_singleton, List.not_mem_nil, or_false, not_or]
          exact ⟨Nat.ne_of_lt (Nat.lt_succ_self _), Nat.ne_of_gt hlS⟩
        have none_of : ∀ b, s.heap.objs.size ≤ b → s.heap.get? b = none := fun b hb => by
          cases q : s.heap.get? b with
          | none => rfl
          | some o => exact absurd (Nat.lt_of_lt_of_le (Heap.lt_size q) hb) (Nat.lt_irrefl _)
        refine set_update_strs ((Walks.list hh3 _ l hneI items).toS) s.heap.objs.size
          hSf xs hisz hfew hval s.heap (none_of _ (Nat.le_refl _)) (fun b hb => none_of b (by
            rw [List.mem_singleton.mp hb, hz1]
            exact Nat.le_succ _)) (items.size - 0) 0 _ (by omega) (Nat.zero_le _)
          ⟨⟨_, Heap.get?_push_size _ rfl, rfl, rfl⟩, (hl1.push _)⟩ (fun b o e => Heap.get?_push_of_some _ (Heap.get?_push_of_some _ e)) ?hS0 ?hR
        case hS0 =>
          have hget : ((s.heap.push { cls := .type "set", dict := none, data := .set #[] 0 (.fresh 0 0 (!w.params.followText "set-order")) }).push { cls := .type "list_iterator", data := .fields #[.ref l, .int 0 0] }).get? s.heap.objs.size = some { cls := .type "set", dict := none, data := .set #[] 0 (.fresh 0 0 (!w.params.followText "set-order")) } := Heap.get?_push_of_some _ hS
          refine ⟨[], ⟨(#[], 0, .fresh 0 0 (!w.params.followText "set-order")), ?_, TxOk.nil rfl, List.nodup_nil, List.Pairwise.nil, ?_⟩, fun x => by simp, Nat.le_refl _⟩
          · show Heap.get? _ _ = some _
            rw [hget]
            rfl
          · show _ ∨ (!w.params.followText "set-order") = true
            cases w.params.followText "set-order"
            · exact .inr rfl
            · exact .inl rfl
        case hR =>
          intro s' ys hm hS' g' hkp
          obtain ⟨h', g2, d', tk', os'⟩ := s'
          have eg : g2 = s.gens := hm.gens
          have ed : d' = s.drawn := hm.drawn
          have eo : os' = s.os := hm.os
          subst eg; subst ed; subst eo
          show wpAny _ _ _ _ _ _
          refine wpAny_pure ?_
          show wpAny _ _ (ret Value.none) _ _ _
          rw [hisz] at g'
          exact wpAny_pure ⟨rfl, h', tk', ys, rfl, hS', fun x => by rw [g'.mem x, List.take_length], hkp⟩

      · cases r₂ with
        | error e => exact hr₂
        | ok fl₂ =>
          cases fl₂ with
          | ret r =>
            obtain ⟨rfl, h', tk, ys, rfl, hS', g', hk'⟩ := hr₂
            repeat (any_goals (first | assumption | wp_step))
            exact h _ _ _ hS' g' hk'
          | _ => exact hr₂.elim
    | _ => exact hr.elim
/-- set(xs), xs a tuple of texts -/
theorem call_setS_tuple {l : Addr} {items : Array Value} (xs : List Str) {Q : Value → Shared → Prop} (hh : A.handled = none) (hl : s.heap.IsTuple l items) (hval : ∀ (i : Nat) (v : Value), items[i]? = some v → ∃ x t, xs[i]? = some x ∧ v = .str x t) (hisz : items.size = xs.length) (hfew : xs.length + 1 < scanBound)
    (h : ∀ (h' : Heap) (tk : Nat) ys, SS P w h' s.heap.objs.size ys → (∀ x, x ∈ ys ↔ x ∈ xs) → (∀ b o, s.heap.get? b = some o → h'.get? b = some o) → Q (.ref s.heap.objs.size) { s with heap := h', toks := tk }) :
    wpAny (model P w) A (call (.type "set") [.ref l]) Q E s := by
  obtain ⟨c, tl, hmro⟩ := F.called_set.mro
  have hmade := F.called_set.made
  have hsub := F.called_set.sub
  refine wpAny_call (codeAny_of_tree ?_)
  show wpAny _ _ (callAny (.type "set") _) _ _ _
  refine wpAny_pure ⟨Code.quiet_builtin _ (by decide +kernel), codeAny_builtin F.entry_type_call ?_⟩
  rw [Around.under_plain (weight_type_call_type "set" [.ref l] []) rfl]
  have h1 := F.called_set.notType
  have h2 := F.called_set.canCreate
  have hct := F.typeCall_set_1 (.ref l)
  repeat (any_goals (first | assumption | wp_step))

  refine codeAny_mono (code_set_led1 (.ref l) (E := E) (Q₁ := fun obj s₁ => obj = .ref s.heap.objs.size ∧ s₁ = { s with heap := s.heap.push { cls := .type "set", dict := none, data := .set #[] 0 (.fresh 0 0 (!w.params.followText "set-order")) } }) ⟨rfl, rfl⟩) fun r s₁ hr => ?_
  cases r with
  | error e => exact hr
  | ok fl =>
    cases fl with
    | ret obj =>
      obtain ⟨rfl, rfl⟩ := hr
      generalize hob : ({ cls := .type "set", dict := none, data := .set #[] 0 (.fresh 0 0 (!w.params.followText "set-order")) } : Obj) = ob0
      have hfr : ob0.isFreed = false := by rw [← hob]; rfl
      have hcl0 : ob0.cls = .type "set" := by rw [← hob]
      have hS : (s.heap.push ob0).get? s.heap.objs.size = some ob0 := Heap.get?_push_size _ hfr
      have hT : Shared.TypeIs { s with heap := s.heap.push ob0 } (.ref s.heap.objs.size) "set" := ⟨_, hS, hcl0⟩
      have hli := F.called_set.init.lookup
      have hbi := F.called_set.init.bind (.ref s.heap.objs.size)
      repeat (any_goals (first | assumption | wp_step))

      refine codeAny_mono (codeAny_call_builtin (R := wants (fun r s₂ => r = .none ∧ ∃ h' tk ys, s₂ = { s with heap := h', toks := tk } ∧ SS P w h' s.heap.objs.size ys ∧ (∀ x, x ∈ ys ↔ x ∈ xs) ∧
          (∀ b o, s.heap.get? b = some o → h'.get? b = some o)) E) F.called_set.init.plain F.entry_set_init (check_set_init_1 hT ?_)) fun r₂ s₂ hr₂ => ?_
      · obtain ⟨ol, hol, hcl, nl, hdl⟩ := hl
        obtain ⟨ocls, odict, odata, oslots⟩ := ol
        simp only at hcl hdl
        subst hcl; subst hdl
        have hol' : (s.heap.push ob0).get? l = some { cls := .type "tuple", dict := odict, data := .seq items nl, slots := oslots } := Heap.get?_push_of_some _ hol
        have hsls := F.sub_tuple_set
        have hslf := F.sub_tuple_frozenset
        have hne : (Value.type "tuple" == Value.type "dict") = false := by decide
        have hl1 : (s.heap.push ob0).IsTuple l items := ⟨_, hol', rfl, nl, rfl⟩
        subst hob
        unfold Builtin.«set.__init__» noKeywords Builtin.Frozenset.updateFrom
        generalize hPI : pyIter = PI
        wp_walk
        subst hPI

        refine wpAny_pyIter_tuple hl1 ?_
        refine wpAny_bind (wpAny_runValue ?_)
        have hlS : l < s.heap.objs.size := Heap.lt_size hol
        have hh3 : A.in1.in1.in1.handled = none := by simp [hh]
        have hz1 : (s.heap.push { cls := .type "set", dict := none, data := .set #[] 0 (.fresh 0 0 (!w.params.followText "set-order")) }).objs.size = s.heap.objs.size + 1 := Heap.size_push ..
        have hneI : l ≠ (s.heap.push { cls := .type "set", dict := none, data := .set #[] 0 (.fresh 0 0 (!w.params.followText "set-order")) }).objs.size := by rw [hz1]; exact Nat.ne_of_lt (Nat.lt_succ_of_lt hlS)
        have hSf : s.heap.objs.size ∉ [(s.heap.push { cls := .type "set", dict := none, data := .set #[] 0 (.fresh 0 0 (!w.params.followText "set-order")) }).objs.size, l] := by
          rw [hz1]; simp only [List.mem_cons, List.mem_singleton, List.not_mem_nil, or_false, not_or]
          exact ⟨Nat.ne_of_lt (Nat.lt_succ_self _), Nat.ne_of_gt hlS⟩
        have none_of : ∀ b, s.heap.objs.size ≤ b → s.heap.get? b = none := fun b hb => by
          cases q : s.heap.get? b with
          | none => rfl
          | some o => exact absurd (Nat.lt_of_lt_of_le (Heap.lt_size q) hb) (Nat.lt_irrefl _)
        refine set_update_strs ((Walks.tuple hh3 _ l hneI items).toS) s.heap.objs.size
          hSf xs hisz hfew hval s.heap (none_of _ (Nat.le_refl _)) (fun b hb => none_of b (by
            rw [List.mem_singleton.mp hb, hz1]
            exact Nat.le_succ _)) (items.size - 0) 0 _ (by omega) (Nat.zero_le _)
          ⟨⟨_, Heap.get?_push_size _ rfl, rfl, rfl⟩, (hl1.push _)⟩ (fun b o e => Heap.get?_push_of_some _ (Heap.get?_push_of_some _ e)) ?hS0 ?hR
        case hS0 =>
          have hget : ((s.heap.push { cls := .type "set", dict := none, data := .set #[] 0 (.fresh 0 0 (!w.params.followText "set-order")) }).push { cls := .type "tuple_iterator", data := .fields #[.ref l, .int 0 0] }).get? s.heap.objs.size = some { cls := .type "set", dict := none, data := .set #[] 0 (.fresh 0 0 (!w.params.followText "set-order")) } := Heap.get?_push_of_some _ hS
          refine ⟨[], ⟨(#[], 0, .fresh 0 0 (!w.params.followText "set-order")), ?_, TxOk.nil rfl, List.nodup_nil, List.Pairwise.nil, ?_⟩, fun x => by simp, Nat.le_refl _⟩
          · show Heap.get? _ _ = some _
            rw [hget]
            rfl
          · show _ ∨ (!w.params.followText "set-order") = true
            cases w.params.followText "set-order"
            · exact .inr rfl
            · exact .inl rfl
        case hR =>
          intro s' ys hm hS' g' hkp
          obtain ⟨h', g2, d', tk', os'⟩ := s'
          have eg : g2 = s.gens := hm.gens
          have ed : d' = s.drawn := hm.drawn
          have eo : os' = s.os := hm.os
          subst eg; subst ed; subst eo
          show wpAny _ _ _ _ _ _
          refine wpAny_pure ?_
          show wpAny _ _ (ret Value.none) _ _ _
          rw [hisz] at g'
          exact wpAny_pure ⟨rfl, h', tk', ys, rfl, hS', fun x => by rw [g'.mem x, List.take_length], hkp⟩

      · cases r₂ with
        | error e => exact hr₂
        | ok fl₂ =>
          cases fl₂ with
          | ret r =>
            obtain ⟨rfl, h', tk, ys, rfl, hS', g', hk'⟩ := hr₂
            repeat (any_goals (first | assumption | wp_step))
            exact h _ _ _ hS' g' hk'
          | _ => exact hr₂.elim
    | _ => exact hr.elim
end
end DL
set_option maxHeartbeats 3200000
/-! DL35: sorted(set(xs)), len(set(xs)) of texts; sorted({pair of texts for .. in ..}). -/
namespace DL
open PySem PySem.Spec PyProof.Rows L2 PySem.Froz
/-! ### without doubles -/
def dd {α : Type} [DecidableEq α] : List α → List α
  | [] => []
  | x :: l => if x ∈ dd l then dd l else x :: dd l
section
variable {α : Type} [DecidableEq α]
theorem mem_dd {x : α} : ∀ {l : List α}, x ∈ dd l ↔ x ∈ l
  | [] => Iff.rfl
  | y :: l => by
    unfold dd
    split
    · rename_i h
      rw [mem_dd, List.mem_cons]
      exact ⟨.inr, fun z => z.elim (fun e => e ▸ mem_dd.mp h) id⟩
    · rw [List.mem_cons, List.mem_cons, mem_dd]
theorem nodup_dd : ∀ l : List α, (dd l).Nodup
  | [] => List.nodup_nil
  | y :: l => by
    unfold dd
    split
    · exact nodup_dd l
    · rename_i h
      exact List.nodup_cons.mpr ⟨h, nodup_dd l⟩
theorem dd_perm {ys l : List α} (nd : ys.Nodup) (h : ∀ x, x ∈ ys ↔ x ∈ l) : ys.Perm (dd l) := (List.perm_ext_iff_of_nodup nd (nodup_dd l)).mpr fun x => (h x).trans mem_dd.symm
theorem dd_of {l : List α} (h : l.Nodup) : dd l = l := by
  induction l with
  | nil => rfl
  | cons x l ih =>
    obtain ⟨h1, h2⟩ := List.nodup_cons.mp h
    unfold dd
    rw [ih h2, if_neg h1]
theorem dd_len (l : List α) : (dd l).length ≤ l.length := by
  induction l with
  | nil => exact Nat.le_refl _
  | cons x l ih =>
    unfold dd
    split
    · exact Nat.le_succ_of_le ih
    · exact Nat.succ_le_succ ih
end
theorem perm_of_sub {α : Type} [DecidableEq α] : ∀ {l m : List α}, l.Nodup → (∀ x ∈ l, x ∈ m) → m.length ≤ l.length → l.Perm m
  | [], m, _, _, h => by
    rw [List.length_nil] at h
    rw [List.eq_nil_of_length_eq_zero (Nat.le_zero.mp h)]
  | x :: l, m, nd, hs, h => by
    obtain ⟨h1, h2⟩ := List.nodup_cons.mp nd
    have hx : x ∈ m := hs x List.mem_cons_self
    have e := List.length_erase_of_mem hx
    rw [List.length_cons] at h
    have ih := perm_of_sub (m := m.erase x) h2 (fun y hy => (List.mem_erase_of_ne (fun (z : y = x) => h1 (z ▸ hy))).2 (hs y (List.mem_cons_of_mem _ hy))) (by omega)
    exact (ih.cons x).trans (List.perm_cons_erase hx).symm
theorem strs_of : ∀ {vs : List Value} {ss : List Str}, StrsAre vs ss → ss = vs.map strOf
  | _, _, .nil => rfl
  | _, _, .cons x t h => by rw [List.map_cons, ← strs_of h]; rfl
/-! ### sets of texts as things of the heap -/
def SSO (P : Program) (w : World) (a : Addr) (l : List Str) : HO := .ext fun h => SS P w h a l
section
variable {X : Cx}
theorem sso_new {P : Program} {w : World} {H : Hp} {h : Heap} {a : Addr} {l : List Str} (R : SS P w h a l) : ObjOk P w H h a (SSO P w a l) := by
  have ⟨D, ho, _⟩ := R
  exact ⟨R, ⟨_, ho⟩, fun h1 h2 p k => SS.at p k⟩
theorem strs_get : ∀ {zs : List Str} {us : List Value}, Vals (zs.map V.str) us → ∀ (i : Nat) (v : Value), us[i]? = some v → ∃ x t, zs[i]? = some x ∧ v = .str x t
  | [], _, .nil, i, v, h => by simp at h
  | z :: zs, _, .cons r t, i, v, h => by
    cases i with
    | zero =>
      rw [List.getElem?_cons_zero] at h
      cases h
      obtain ⟨tk, rfl⟩ := r
      exact ⟨z, tk, rfl, rfl⟩
    | succ i =>
      rw [List.getElem?_cons_succ] at h
      obtain ⟨x, tk, e1, e2⟩ := strs_get t i v h
      exact ⟨x, tk, by rw [List.getElem?_cons_succ]; exact e1, e2⟩
/-- set(xs) -/
def rSetS (K : PySem.W.Frag) (P : Program) (w : World) : List V → Hp → VK → Prop := fun xs H Q => ∃ (l : Addr) (zs : List Str), xs = [V.ref l] ∧ (SqL K H l (zs.map V.str) ∨ SqT K H l (zs.map V.str)) ∧ zs.length + 1 < 4096 ∧
  ∀ a ys, H a = none → ys.Nodup → (∀ x, x ∈ ys ↔ x ∈ zs) → Q (.ref a) (upd H a (SSO P w a ys))
theorem cr_setS (hc : X.calm = true) : CallR X (.type "set") (rSetS X.K X.prog X.w) := by
  intro pins s σ H xs us Q I r h
  obtain ⟨l, zs, rfl, hl, hf, q⟩ := h
  rw [Vals.ref1 r]
  have hn : H s.heap.objs.size = none := I.hok.fresh (Nat.le_refl _)
  have hf' : zs.length + 1 < scanBound := hf
  have fin : ∀ (h' : Heap) (tk : Nat) ys, SS X.prog X.w h' s.heap.objs.size ys → (∀ x, x ∈ ys ↔ x ∈ zs) → (∀ b o, s.heap.get? b = some o → h'.get? b = some o) → EP X pins σ Q (.ref s.heap.objs.size) { s with heap := h', toks := tk } := fun h' tk ys R hm k =>
    ⟨.ref s.heap.objs.size, upd H s.heap.objs.size (SSO X.prog X.w s.heap.objs.size ys), I.laid (t' := tk) k (Nat.le_refl _) (sso_new R), rfl, q _ ys hn R.choose_spec.2.2.1 hm⟩
  rcases hl with hl | hl
  · obtain ⟨its, rv, pl, hz⟩ := I.list hl
    have hlen : its.toArray.size = zs.length := by
      have := rv.length
      rw [List.length_map] at this
      rw [List.size_toArray]
      exact this.symm
    exact call_setS_list (P := X.prog) (w := X.w) zs (I.ok.hd hc) pl.isList (fun i v hv => strs_get rv i v (by simpa using hv)) hlen hf' fin
  · obtain ⟨its, rv, ⟨o, ho, hcl, n, hd⟩, hz⟩ := I.tuple hl
    have hlen : its.toArray.size = zs.length := by
      have := rv.length
      rw [List.length_map] at this
      rw [List.size_toArray]
      exact this.symm
    exact call_setS_tuple (P := X.prog) (w := X.w) zs (I.ok.hd hc) ⟨o, ho, hcl, n, hd⟩ (fun i v hv => strs_get rv i v (by simpa using hv)) hlen hf' fin
theorem ss_strs {P : Program} {w : World} {D : SD} {l : List Str} (F : TxOk P w D l) (nd : l.Nodup) : ∃ ss : List Str, StrsAre (D.1.toList.map (·.2)) ss ∧ ss.Perm l := by
  have key : ∀ es : List (Int × Value), ElemsOf (strKind P w) es → ∃ ss : List Str, StrsAre (es.map (·.2)) ss ∧ ∀ k, (∃ e ∈ es, (strKind P w).is k e.2 = true) ↔ k ∈ ss := by
    intro es
    induction es with
    | nil => intro _; exact ⟨[], .nil, fun k => ⟨fun ⟨e, he, _⟩ => (by cases he), fun h => (by cases h)⟩⟩
    | cons e es ih =>
      intro h
      obtain ⟨ss, h1, h2⟩ := ih fun x hx => h x (List.mem_cons_of_mem _ hx)
      obtain ⟨⟨k, hk, _⟩, _⟩ := h e List.mem_cons_self
      obtain ⟨t, et⟩ : ∃ t, e.2 = Value.str k t := by
        have hk : Value.isStrOf k e.2 = true := hk
        cases he : e.2 with
        | str y t =>
          rw [he] at hk
          have : y = k := by simpa [Value.isStrOf] using hk
          exact ⟨t, by rw [this]⟩
        | _ => rw [he] at hk; cases hk
      refine ⟨k :: ss, by rw [List.map_cons, et]; exact .cons k t h1, fun k' => ?_⟩
      constructor
      · rintro ⟨e', he', q⟩
        rcases List.mem_cons.mp he' with rfl | he'
        · rw [(strKind P w).inj _ k' k q hk]; exact List.mem_cons_self
        · exact List.mem_cons_of_mem _ ((h2 k').mp ⟨e', he', q⟩)
      · intro hm
        rcases List.mem_cons.mp hm with rfl | hm
        · exact ⟨e, List.mem_cons_self, hk⟩
        · obtain ⟨e', he', q⟩ := (h2 k').mpr hm
          exact ⟨e', List.mem_cons_of_mem _ he', q⟩
  obtain ⟨ss, h1, h2⟩ := key D.1.toList F.el
  refine ⟨ss, h1, ?_⟩
  have hlen : ss.length = l.length := by
    have := StrsAre.length h1
    rw [List.length_map, Array.length_toList, F.sz] at this
    omega
  have hsub : ∀ x, x ∈ l ↔ x ∈ ss := fun x => (F.mem x).trans (h2 x)
  exact (perm_of_sub nd (fun x hx => (hsub x).mp hx) (by omega)).symm
/-- sorted of a set of texts -/
def rSortSS (P : Program) (w : World) : List V → Hp → VK → Prop := fun vs H Q => ∃ (a : Addr) (ys : List Str), vs = [V.ref a] ∧ H a = some (SSO P w a ys) ∧ ys.length < 4096 ∧
  ∀ p, H p = none → Q (.ref p) (upd H p (.lst ((srt ltS ys).map V.str)))
theorem cr_sortSS (hc : X.calm = true) : CallR X (.builtin "sorted") (rSortSS X.prog X.w) := by
  intro pins s σ H vs us Q I r h
  obtain ⟨a, ys, rfl, ha, hl, q⟩ := h
  obtain ⟨D, ho, F, nd, ris, ld⟩ : SS X.prog X.w s.heap a ys := (I.hok a _ ha).1
  rw [Vals.ref1 r]
  obtain ⟨ss, hss, hps⟩ := ss_strs F nd
  refine Calls.call_function_entry kind_sorted plain_sorted entry_sorted (args_sorted1 _) ?_
  unfold Builtin.«sorted»
  refine wpAny_bind (m := checkCount "sorted" 1 1 _) (wpAny_pure ?_)
  have hsz : D.1.size = ys.length := F.sz
  refine wpAny_bind (collect_set (A := X.A.in1) (es := D.1) (ep := D.2.1) (t := D.2.2) (I.ok.hd hc) ⟨_, ho, rfl, rfl⟩ F.fit (by rw [hsz]; exact hl) ris ld fun s1 out k1 hz g1 o1 pm => ?_)
  obtain ⟨ss1, hs1, hp1⟩ : ∃ ss1, StrsAre out ss1 ∧ ss1.Perm ss := by
    refine ⟨out.map strOf, ?_, ?_⟩
    · have : ∀ v ∈ out, ∃ x t, v = Value.str x t := fun v hv => by
        obtain ⟨x, t, e⟩ := hss.all v (pm.mem_iff.mp hv)
        exact ⟨x, t, e⟩
      clear pm
      induction out with
      | nil => exact .nil
      | cons v out ih =>
        obtain ⟨x, t, rfl⟩ := this v List.mem_cons_self
        exact .cons x t (ih fun u hu => this u (List.mem_cons_of_mem _ hu))
    · rw [strs_of hss]
      exact pm.map strOf
  have hvl : out.length ≤ sizeLine := by
    rw [pm.length_eq, List.length_map, Array.length_toList, hsz, sizeLine_eq]
    omega
  refine wpAny_bind (wpAny_newList ?_ hvl)
  have hoL : (s1.heap.push (seqObj "list" out.toArray 0)).get? s1.heap.objs.size = some (seqObj "list" out.toArray 0) := Heap.get?_push_size _ rfl
  refine wpAny_bind (wpAny_holding (wpAny_call_entry (s := { s1 with heap := s1.heap.push (seqObj "list" out.toArray 0) }) slot_list_sort ⟨_, hoL, rfl⟩ entry_list_sort (list_sort_treeKAny strKind_oneLt hoL hs1.keysOf (fun v₁ v₂ rest e => keyKind_strs (by rw [← e]; exact hs1)) hvl fun st' a1 a2 => ⟨_, rfl, ?_⟩) (args_list_sort _)))
  obtain ⟨ss', b1, b2, b3⟩ := sorted_out_str hs1 a1 a2
  have e' : ss' = srt ltS ys := srt_uniq stoS ((b2.trans hp1).trans hps) (sortedS_pw b3)
  subst e'
  obtain ⟨c, hcc⟩ := sortedHeap_at (vs := out) (out := (arrOf st').map (·.2)) hoL
  have hp : s.heap.objs.size ≤ s1.heap.objs.size := hz
  have hn : H s1.heap.objs.size = none := I.hok.fresh hp
  have keep : ∀ b o, s.heap.get? b = some o → (sortedHeap (s1.heap.push (seqObj "list" out.toArray 0)) s1.heap.objs.size out ((arrOf st').map (·.2))).get? b = some o := fun b o e => by
    have qb := k1 b o e
    have hlt := Heap.lt_size qb
    rw [sortedHeap_old (Nat.ne_of_lt hlt) (by rw [size_push']; exact Nat.lt_succ_of_lt hlt)]
    exact Heap.get?_push_of_some _ qb
  have hlen : ((srt ltS ys).map V.str).length ≤ sizeLine := by
    rw [List.length_map, b2.length_eq, hp1.length_eq, hps.length_eq, sizeLine_eq]
    omega
  obtain ⟨hp1h, g1', d1', t1', os1'⟩ := s1
  dsimp only at g1 o1 k1 hz hp hn keep hcc hoL ⊢
  subst g1
  subst o1
  have J : Inv X pins σ (upd H hp1h.objs.size (.lst ((srt ltS ys).map V.str))) { s with heap := sortedHeap (hp1h.push (seqObj "list" out.toArray 0)) hp1h.objs.size out ((arrOf st').map (·.2)), drawn := d1', toks := t1' } :=
    I.call (ch := []) (Un.laid keep hp hn) (I.hok.laid keep hp ⟨hlen, _, c, vals_of_strs b1, hcc⟩) I.bare (fun _ z => nomatch z)
  exact wpAny_pure ⟨_, rfl, .ref _, _, J, rfl, q _ hn⟩
/-- len of a set of texts -/
def rLenSS (P : Program) (w : World) : List V → Hp → VK → Prop := fun vs H Q => ∃ (a : Addr) (ys : List Str), vs = [V.ref a] ∧ H a = some (SSO P w a ys) ∧ ys.length < 4096 ∧ Q (.int ys.length) H
theorem cr_lenSS : CallR X (.builtin "len") (rLenSS X.prog X.w) := by
  intro pins s σ H vs us Q I r h
  obtain ⟨a, ys, rfl, ha, hl, q⟩ := h
  obtain ⟨D, ho, F, nd, ris, ld⟩ : SS X.prog X.w s.heap a ys := (I.hok a _ ha).1
  rw [Vals.ref1 r]
  have hsz : D.1.size = ys.length := F.sz
  refine call_len_set (es := D.1) (ep := D.2.1) (t := D.2.2) ho ⟨rfl, rfl, rfl⟩ rfl F.fit (by omega) ?_
  exact ⟨.int ys.length, H, (I.tok _).tok _, ⟨_, by rw [hsz]⟩, q⟩
end
/-! ### words that name no world -/
section
variable (K : PySem.W.Frag)
/-- sorted(set(e)) -/
def tSortSet (ta : TE) : TE := fun σ H Q => ta σ H fun x H1 => ∃ (l : Addr) (zs : List Str), x = V.ref l ∧ (SqL K H1 l (zs.map V.str) ∨ SqT K H1 l (zs.map V.str)) ∧ zs.length + 1 < 4096 ∧
  ∀ (a p : Addr) (ys : List Str) (φ : Heap → Prop), H1 a = none → p ≠ a → H1 p = none → ys.Nodup → (∀ x, x ∈ ys ↔ x ∈ zs) → Q (.ref p) (upd (upd H1 a (.ext φ)) p (.lst ((srt ltS ys).map V.str)))
/-- len(set(e)) -/
def tLenSet' (ta : TE) : TE := fun σ H Q => ta σ H fun x H1 => ∃ (l : Addr) (zs : List Str), x = V.ref l ∧ (SqL K H1 l (zs.map V.str) ∨ SqT K H1 l (zs.map V.str)) ∧ zs.length + 1 < 4096 ∧
  ∀ (a : Addr) (ys : List Str) (φ : Heap → Prop), H1 a = none → ys.Nodup → (∀ x, x ∈ ys ↔ x ∈ zs) → Q (.int ys.length) (upd H1 a (.ext φ))
end
theorem dd_lt {zs ys : List Str} {n : Nat} (nd : ys.Nodup) (hm : ∀ x, x ∈ ys ↔ x ∈ zs) (h : zs.length + 1 < n) : ys.length < n := by
  have := (dd_perm nd hm).length_eq
  have := dd_len zs
  omega
/-- whatever follows from a wish -/
def tUp (ta : TE) : TE := fun σ H Q => ∃ Q0 : VK, ta σ H Q0 ∧ ∀ v H', Q0 v H' → Q v H'
theorem pe_up {X : Cx} {e : Expr} {ta : TE} (h : PE X e ta) : PE X e (tUp ta) := ⟨fun pins s σ H Q I ⟨Q0, h1, h2⟩ => wpAny_mono (h.run pins s σ H Q0 I h1) (fun v s' ⟨x, H', I', r, q⟩ => ⟨x, H', I', r, h2 _ _ q⟩) fun _ _ h => h⟩
section
variable {X : Cx} {e : Expr} {ta : TE} {p p1 p2 p3 : Pos}
theorem b_set : bootBuiltins "set" = some (.type "set") := by decide +kernel
theorem pe_sortSet (hc : X.calm = true) (hm : X.mg "sorted" = none) (hm2 : X.mg "set" = none) (ha : PE X e ta) (hg : Gl X "sorted" := by rfl) (hg2 : Gl X "set" := by rfl)
    (he : starEach [Expr.Call (.Name "set" p1) [e] [] p2] X.env = [(false, eval (.Call (.Name "set" p1) [e] [] p2) X.env)] := by rfl) (he2 : starEach [e] X.env = [(false, eval e X.env)] := by rfl) :
    PE X (.Call (.Name "sorted" p) [.Call (.Name "set" p1) [e] [] p2] [] p3) (tSortSet X.K ta) := by
  have h := pe_callB (pos := p3) (p := p) (r := rSortSS X.prog X.w) (cr_sortSS hc) hg hm b_sorted (pa_cons (pe_callTy (pos := p2) (p := p1) (r := rSetS X.K X.prog X.w) (cr_setS hc) hg2 hm2 b_set (pa_cons (pe_up ha) pa_nil he2) (by decide) (by decide) he2 rfl) pa_nil he) (by decide) (by decide) he rfl
  refine ⟨fun pins s σ H Q I hq => h.run pins s σ H Q I ⟨_, hq, ?_⟩⟩
  rintro v H1 ⟨l, zs, rfl, hl, hz, q⟩
  refine ⟨l, zs, rfl, hl, hz, fun a ys ha' nd hm => ⟨a, ys, rfl, upd_same, dd_lt nd hm (by omega), fun p hp => ?_⟩⟩
  have hpa : p ≠ a := fun z => by rw [z, upd_same] at hp; cases hp
  exact q a p ys _ ha' hpa (by rw [upd_ne hpa] at hp; exact hp) nd hm
theorem pe_lenSet' (hc : X.calm = true) (hm : X.mg "len" = none) (hm2 : X.mg "set" = none) (ha : PE X e ta) (hg : Gl X "len" := by rfl) (hg2 : Gl X "set" := by rfl)
    (he : starEach [Expr.Call (.Name "set" p1) [e] [] p2] X.env = [(false, eval (.Call (.Name "set" p1) [e] [] p2) X.env)] := by rfl) (he2 : starEach [e] X.env = [(false, eval e X.env)] := by rfl) :
    PE X (.Call (.Name "len" p) [.Call (.Name "set" p1) [e] [] p2] [] p3) (tLenSet' X.K ta) := by
  have h := pe_callB (pos := p3) (p := p) (r := rLenSS X.prog X.w) cr_lenSS hg hm b_len (pa_cons (pe_callTy (pos := p2) (p := p1) (r := rSetS X.K X.prog X.w) (cr_setS hc) hg2 hm2 b_set (pa_cons (pe_up ha) pa_nil he2) (by decide) (by decide) he2 rfl) pa_nil he) (by decide) (by decide) he rfl
  refine ⟨fun pins s σ H Q I hq => h.run pins s σ H Q I ⟨_, hq, ?_⟩⟩
  rintro v H1 ⟨l, zs, rfl, hl, hz, q⟩
  exact ⟨l, zs, rfl, hl, hz, fun a ys ha' nd hm => ⟨a, ys, rfl, upd_same, dd_lt nd hm (by omega), q a ys _ ha' nd hm⟩⟩
end
/-! by data -/
section
variable {K : PySem.W.Frag} {ρ : List Sl} {ta : TE} {d : D}
theorem strs_dq {G : Hp} : ∀ zs : List Str, DqA K G (zs.map V.str) (zs.map PyData.str)
  | [] => .nil
  | z :: zs => .cons (.str z) (strs_dq zs)
/-- a new thing that nobody knows, then a new one -/
theorem Ext.two {G H : Hp} {a p : Addr} {φ : Heap → Prop} {o : HO} (g : GH G H) (ha : H a = none) (hp : H p = none) (hpa : p ≠ a) : Ext G H G (upd (upd H a (.ext φ)) p o) :=
  (Ext.fresh g ha).trans (Ext.fresh (Ext.fresh g ha).gh (by rw [upd_ne hpa]; exact hp))
theorem en_sortSet {zs : List Str} (h : EV K ta ρ d) (hd : d = .list (zs.map PyData.str) ∨ d = .tuple (zs.map PyData.str)) (hz : zs.length + 1 < 4096) : EVN K (tSortSet K ta) ρ (.list ((srt ltS (dd zs)).map PyData.str)) := fun G0 H0 G H σ Q E q =>
  h G0 H0 G H σ _ E fun v G1 H1 e1 h1 => by
    have key : ∃ l, v = V.ref l ∧ (SqL K H1 l (zs.map V.str) ∨ SqT K H1 l (zs.map V.str)) := by
      rcases hd with rfl | rfl
      · cases h1 with
        | @lst b xs _ hb hr =>
          have := map_str_dq hr
          subst this
          exact ⟨b, rfl, .inl (SqL.of (e1.gh.lst hb))⟩
      · cases h1 with
        | @tup b xs _ hb hr =>
          have := map_str_dq hr
          subst this
          exact ⟨b, rfl, .inr (e1.gh.t hb)⟩
    obtain ⟨l, rfl, hl⟩ := key
    refine ⟨l, zs, rfl, hl, hz, fun a p ys φ ha hpa hp nd hm => ?_⟩
    have e : srt ltS ys = srt ltS (dd zs) := srt_uniq stoS ((srt_perm ys).trans (dd_perm nd hm)) (srt_pw stoS ys)
    rw [e]
    have x := Ext.two (φ := φ) (o := .lst ((srt ltS (dd zs)).map V.str)) e1.gh ha hp hpa
    exact q p G1 _ (e1.trans x) (e1.gone hp) (e1.gh.none hp) (.lst upd_same (strs_dq _))
theorem ev_lenSet {zs : List Str} (h : EV K ta ρ d) (hd : d = .list (zs.map PyData.str) ∨ d = .tuple (zs.map PyData.str)) (hz : zs.length + 1 < 4096) : EV K (tLenSet' K ta) ρ (.int (dd zs).length) := fun G0 H0 G H σ Q E q =>
  h G0 H0 G H σ _ E fun v G1 H1 e1 h1 => by
    have key : ∃ l, v = V.ref l ∧ (SqL K H1 l (zs.map V.str) ∨ SqT K H1 l (zs.map V.str)) := by
      rcases hd with rfl | rfl
      · cases h1 with
        | @lst b xs _ hb hr =>
          have := map_str_dq hr
          subst this
          exact ⟨b, rfl, .inl (SqL.of (e1.gh.lst hb))⟩
      · cases h1 with
        | @tup b xs _ hb hr =>
          have := map_str_dq hr
          subst this
          exact ⟨b, rfl, .inr (e1.gh.t hb)⟩
    obtain ⟨l, rfl, hl⟩ := key
    refine ⟨l, zs, rfl, hl, hz, fun a ys φ ha nd hm => ?_⟩
    have x := Ext.fresh (o := .ext φ) e1.gh ha
    rw [(dd_perm nd hm).length_eq]
    exact q _ G1 _ (e1.trans x) (.int _)
end
end DL
set_option maxHeartbeats 3200000
/-! DL36: sorted({pair of texts for .. in ..}). -/
namespace DL
open PySem PySem.Spec PyProof.Rows L2
/-- the set of tuples at a, without the tuples themselves -/
def SetK0 (P : Program) (w : World) (h : Heap) (a : Addr) (L : List KRow) : Prop := ∃ (es : Array (Int × Value)) (ep : Nat) (t : SetTable), (∃ o, h.get? a = some o ∧ o.ExactSet ∧ o.data = .set es ep t) ∧ es.toList = ksRows P w L ∧ TabZ t (L.map fun p => ksH P w p.2) ∧ MkZ t.mask ∧ (L.map (·.2)).Nodup ∧
    (w.params.followText "set-order" = true ∨ t.led = true) ∧ L.length * 5 < t.mask * 3 ∧ L.length ≤ 306
def SetKO (P : Program) (w : World) (a : Addr) (L : List KRow) : HO := .ext fun h => SetK0 P w h a L
section
variable {P : Program} {w : World}
theorem SetK3.t0 {h : Heap} {a : Addr} {L : List KRow} {es : Array (Int × Value)} {ep : Nat} {t : SetTable} (R : SetK3 P w h a L es ep t) : SetK0 P w h a L := ⟨es, ep, t, R.ob, R.rows, R.tab, R.mz, R.nd, R.led, R.room, R.few⟩
theorem SetK0.full {h : Heap} {a : Addr} {L : List KRow} (R : SetK0 P w h a L) (ht : ∀ p ∈ L, IsK P w h p.2 p.1) : ∃ es ep t, SetK3 P w h a L es ep t := by
  obtain ⟨es, ep, t, h1, h2, h3, h8, h4, h5, h6, h7⟩ := R
  exact ⟨es, ep, t, h1, h2, h3, h8, h4, ht, h5, h6, h7⟩
theorem setKO_new {H : Hp} {h : Heap} {a : Addr} {L : List KRow} (R : SetK0 P w h a L) : ObjOk P w H h a (SetKO P w a L) := by
  have ⟨es, ep, t, ⟨o, ho, r⟩, q⟩ := R
  refine ⟨R, ⟨o, ho⟩, fun h1 h2 p k => ?_⟩
  have ⟨es', ep', t', ⟨o', ho', r'⟩, q'⟩ := p
  exact ⟨es', ep', t', ⟨o', k o' ho', r'⟩, q'⟩
theorem ks_vals : ∀ {k : List Key} {us : List Value}, Vals (k.map kV) us → ItemsAre (mixKind P w) k us
  | [], _, .nil => .nil
  | n :: k, _, .cons r t => .cons (kV_is r) (ks_vals t)
end
section
variable {X : Cx}
theorem inv_isK {pins : List (Addr × Obj)} {σ : L2.St} {H : Hp} {s : Shared} {b : Addr} {k : List Key} (I : Inv X pins σ H s) (h : SqT X.K H b (k.map kV)) : IsK X.prog X.w s.heap k b := by
  obtain ⟨its, r, ⟨o, ho, hc, n, hd⟩, _⟩ := I.tuple h
  exact ⟨o, its.toArray, n, ho, hc, hd, by simpa using ks_vals r⟩
/-- set.add of a tuple -/
theorem addK_ok {pins : List (Addr × Obj)} {σ : L2.St} {H : Hp} {s : Shared} {E : Value → Shared → Prop} {D x : Addr} {L : List KRow} {k : List Key} {Q : Value → Shared → Prop} (I : Inv X pins σ H s) (hD : H D = some (SetKO X.prog X.w D L)) (hx : SqT X.K H x (k.map kV)) (ht : ∀ p ∈ L, SqT X.K H p.1 (p.2.map kV)) (few : L.length + 1 ≤ 306) (hu : X.A.units + 64 < cLine)
    (h : ∀ s' L', (k ∈ L.map (·.2) → L' = L) → (k ∉ L.map (·.2) → L'.Perm ((x, k) :: L)) → Inv X pins σ (upd H D (SetKO X.prog X.w D L')) s' → Q .none s') : wpAny (model X.prog X.w) X.A (call (.builtin "set.add") [.ref D, .ref x]) Q E s := by
  have R0 : SetK0 X.prog X.w s.heap D L := (I.hok D _ hD).1
  obtain ⟨es, ep, t, R⟩ := R0.full fun p hp => inv_isK I (ht p hp)
  have hxk := inv_isK I hx
  obtain ⟨o, ho, hex, hd⟩ := R.ob
  have hu1 : X.A.in1.units < cLine := by
    show X.A.units + 1 < cLine
    omega
  refine wpAny_call_entry F.slot_set_add ⟨o, ho, hex.1⟩ F.entry_set_add ?_ (F.args_set_add_2 _ _)
  unfold Builtin.«set.add» Builtin.Frozenset.oneOther
  simp only [List.isEmpty_nil, bind_assoc]
  unfold Builtin.Frozenset.addrOf setAdd
  refine wpAny_bind (wpAny_pure ?_)
  try dsimp only
  refine wpAny_bind (wpAny_pure ?_)
  try dsimp only
  refine wpAny_bind ?_
  refine wpAny_holding ?_
  refine wpAny_bind (wpAny_pyHash_tuple (knd := mixKind X.prog X.w) hu1 hxk ?_)
  refine k_add (s := { s with toks := s.toks + (k.length + 1) }) R hxk hu1 few fun b h' L' es' ep' t' sb R' c1 c2 => ?_
  show wpAny _ _ (ret Value.none) _ _ _
  refine wpAny_pure ⟨_, rfl, h _ L' c1 c2 ?_⟩
  obtain ⟨o', ho', _⟩ := R'.ob
  exact I.write (e := D) (t' := s.toks + (k.length + 1)) (by rw [hD]; trivial) (.inl rfl) (fun b u hb hu => (sb.2 b hb).trans hu) ⟨o', ho'⟩ (setKO_new R'.t0)
/-- whatever follows from a walk's wish -/
def iUp (wi : TI) : TI := fun σ H R => ∃ R0 : It → Hp → Prop, wi σ H R0 ∧ ∀ J H', R0 J H' → R J H'
theorem pi_up {tg iter : Expr} {wi : TI} (h : PI X tg iter wi) : PI X tg iter (iUp wi) := ⟨fun pins s σ H R I ⟨R0, h1, h2⟩ => wpAny_mono (h.run pins s σ H R0 I h1) (fun v s1 h3 => wpAny_mono h3 (fun itv s2 h4 => by
  obtain ⟨it, fp, tn, J, H2, e, I2, T, st2, f2, q⟩ := h4
  exact ⟨it, fp, tn, J, H2, e, I2, T, st2, f2, h2 _ _ q⟩) fun _ _ h => h) fun _ _ h => h⟩
/-- {elt for target in iter}, elt a tuple of keys: D the new set -/
def tScK (P : Program) (w : World) (K : PySem.W.Frag) (wi : TI) (g : TG) (te : TE) (vs : List Nat) : TE := fun σ H Q => wi σ H fun J H1 => ∀ D, H1 D = none → ∃ W : Nat → Nat → Hp → Prop, (∃ m, W 0 m (upd H1 D (SetKO P w D []))) ∧ ∀ i m H, W i m H →
  (J.stop i H ∧ Q (.ref D) H) ∨ (J.go i H ∧ ∃ Nx : Hp → Prop, (∀ H', Nx H' → ∃ m', m' < m ∧ W (i + 1) m' H') ∧ ∀ x H', J.yld i H x H' → g x (wipe σ vs) H' fun σ2 H2 => wipe σ2 vs = wipe σ vs ∧
    te σ2 H2 fun y H4 => ∃ (c : Addr) (k : List Key) (L : List KRow), y = .ref c ∧ SqT K H4 c (k.map kV) ∧ H4 D = some (SetKO P w D L) ∧ (∀ p ∈ L, SqT K H4 p.1 (p.2.map kV)) ∧ L.length + 1 ≤ 306 ∧
      ∀ L', (k ∈ L.map (·.2) → L' = L) → (k ∉ L.map (·.2) → L'.Perm ((c, k) :: L)) → Nx (upd H4 D (SetKO P w D L')))
theorem pe_scK {elt tg iter : Expr} {scope : Scope} {own : List (PySem.Str × Nat)} {pos : Pos} {wi : TI} {g : TG} {te : TE} (hc : X.calm = true) (hu : X.A.units + 64 < cLine) (hN : X.N.Nodup) (hi : PI X tg iter wi) (ok : BlkOk X.N X.env.scope scope own)
    (hg : ∀ (s : Shared) (H : Hp) (C : Addr) (cl : List (PySem.Str × Addr)) (fp : List Addr), PG (X.blk s H scope (compEnvC scope cl C X.env) fp) tg g)
    (he : ∀ (s : Shared) (H : Hp) (C : Addr) (cl : List (PySem.Str × Addr)) (fp : List Addr), PE (X.blk s H scope (compEnvC scope cl C X.env) fp) elt te) (hs : ∀ x, foldedSetIterable iter X.env x = pure x := by intro _; rfl) :
    PE X (.SetComp elt [⟨tg, iter, [], 0⟩] scope pos) (tScK X.prog X.w X.K wi g te (own.map (·.2))) := by
  refine ⟨fun pins s σ H Q I h => ?_⟩
  rw [PpSet.eval_SetComp]
  have hRR : ∀ D C s' m H', Inv X pins σ H' s' → Q (.ref D) H' → s'.heap.Ns C m → FpOk X pins H' C → compPost (model X.prog X.w) X.A X.xe none (EP X pins σ Q) (.ref D) C (.ok .next) s' := fun D C s' m H' I' q hn f => ⟨m, hn, fun h'' sb => by
    obtain ⟨f0, f1, f2, f3, f4, f5⟩ := f
    exact ⟨.ref D, H', I'.turned (t' := s'.toks) (fun b o hb e => (sb.2 b hb).trans e) f0 f1 f3 f4 f5, rfl, q⟩⟩
  have hfree : ∀ y ∈ scope.names, y.2 = .free → ∃ c, X.env.cells.lookup y.1 = some c := fun y hy e => by
    rcases ok.free y hy e with k | k
    · exact I.ok.has _ (.inl k)
    · exact I.ok.has _ (.inr k)
  refine wpAny_comprehension_free (use := none) rfl hs (closure_ok hfree) ok.kind (fun y hy e => by rw [ok.uniq y hy, e])
    (thn (hi.run pins s σ H _ I h) fun xv s1 hx => thn hx fun itv s2 h2 => ?_)
  obtain ⟨it, fp, tn, J, H2, e, I2, T, st2, f2, q⟩ := h2
  subst e
  refine PpSet.newSet_ok (newEnv_comp ?_)
  generalize hD : s2.heap.objs.size = D
  have hDn : H2 D = none := I2.hok.fresh (Nat.le_of_eq hD)
  obtain ⟨W, ⟨m0, w0⟩, turn⟩ := q D hDn
  generalize hs3 : ({ s2 with heap := s2.heap.push { cls := .type "set", dict := none, data := .set #[] 0 (.fresh 0 0 (!X.w.params.followText "set-order")) } } : Shared) = s3
  have h3 : s3.heap = s2.heap.push { cls := .type "set", dict := none, data := .set #[] 0 (.fresh 0 0 (!X.w.params.followText "set-order")) } := by rw [← hs3]
  have I3 : Inv X pins σ (upd H2 D (SetKO X.prog X.w D [])) s3 := by
    rw [← hs3]
    refine I2.laid (t' := s2.toks) (fun b o e => Heap.get?_push_of_some _ e) (Nat.le_of_eq hD) ?_
    rw [← hD]
    exact setKO_new (setK3_fresh (Heap.get?_push_size _ rfl)).t0
  generalize hH3 : upd H2 D (SetKO X.prog X.w D []) = H3 at I3 w0
  have sz : ∀ b ∈ fp, b < s2.heap.objs.size := fun b hb => by
    obtain ⟨o, e, _⟩ := T.obj _ _ st2 b hb
    exact Heap.lt_size e
  have f3 : ∀ b ∈ fp, FpOk X pins H3 b ∧ b < s3.heap.objs.size := fun b hb => by
    have hlt := sz b hb
    refine ⟨⟨?_, (f2 b hb).2⟩, by rw [h3, Heap.size_push]; exact Nat.lt_succ_of_lt hlt⟩
    rw [← hH3, upd_ne (by rw [← hD]; exact Nat.ne_of_lt hlt)]
    exact (f2 b hb).1
  have st3 : tn 0 s3.heap := T.keep _ _ _ st2 fun b _ o e => by rw [h3]; exact Heap.get?_push_of_some _ e
  have I4 := block_start I3 ok hN f3
  have pg := hg s3 H3 s3.heap.objs.size (cellsFrom (s3.heap.objs.size + 1) scope.names (cloFrom X.env.cells scope.names [])) fp
  have pe := he s3 H3 s3.heap.objs.size (cellsFrom (s3.heap.objs.size + 1) scope.names (cloFrom X.env.cells scope.names [])) fp
  show codeAny _ _ (.compStart (.SetComp elt [⟨tg, iter, [], 0⟩] scope pos) 0 (.ref it) (.ref D) (compEnvC scope (cellsFrom (s3.heap.objs.size + 1) scope.names (cloFrom X.env.cells scope.names [])) s3.heap.objs.size X.env)) (compPost (model X.prog X.w) X.A X.xe none (EP X pins σ Q) (.ref D) s3.heap.objs.size) { s3 with heap := pushCells (s3.heap.push { cls := .type "dict", data := .dict #[] }) scope.names }
  have nfp : ∀ b ∈ fp, H3 b = none := fun b hb => (f3 b hb).1.1
  generalize hce : compEnvC scope (cellsFrom (s3.heap.objs.size + 1) scope.names (cloFrom X.env.cells scope.names [])) s3.heap.objs.size X.env = ce at I4 pg pe ⊢
  have cL : ce.locals = s3.heap.objs.size := by subst hce; rfl
  generalize hs4 : ({ s3 with heap := pushCells (s3.heap.push { cls := .type "dict", data := .dict #[] }) scope.names } : Shared) = s4 at I4 ⊢
  have st4 : tn 0 s4.heap := T.keep _ _ _ st3 fun b _ o e => by rw [← hs4]; exact pushCells_keeps _ _ _ _ (Heap.get?_push_of_some _ e)
  have stat : ∀ {σ' : L2.St} {H' : Hp} {s' : Shared}, Inv (X.blk s3 H3 scope ce fp) [] σ' H' s' → (∀ b ∈ fp, H' b = none) → ∀ b ∈ fp, FpOk (X.blk s3 H3 scope ce fp) [] H' b := fun {σ' H' s'} I' hn b hb =>
    ⟨hn b hb, (I'.ok.exf b hb).1, I'.ok.exfs b hb, .inl hb, fun x c e => (I'.ok.exf b hb).2 x c e, fun p hp => absurd (show p ∈ ([] : List (Addr × Obj)) ++ [] from hp) (by simp)⟩
  have loop : codeAny (model X.prog X.w) X.A (.compLoop (.SetComp elt [⟨tg, iter, [], 0⟩] scope pos) 0 (.ref it) (.ref D) ce) (compPost (model X.prog X.w) X.A X.xe none (EP X pins σ Q) (.ref D) s3.heap.objs.size) s4 := by
    refine PpSet.compLoopS_any (fun n s' => ∃ i H', Inv (X.blk s3 H3 scope ce fp) [] (wipe σ (own.map (·.2))) H' s' ∧ tn i s'.heap ∧ (∀ b ∈ fp, H' b = none) ∧ W i n H') ?_ m0 ⟨0, H3, I4, st4, nfp, w0⟩
    rintro n s5 ⟨i, H5, I5, st5, n5, w5⟩
    rcases turn i n H5 w5 with ⟨stop, qq⟩ | ⟨go, Nx, hNx, step⟩
    · have td := T.done (X.blk s3 H3 scope ce fp) rfl rfl rfl hc i [] s5 _ H5 (fun _ _ => False) I5 (stat I5 n5) st5 stop
      refine thnF td fun r s6 ⟨hr, I6⟩ => ?_
      subst hr
      have I7 : Inv X pins σ H5 s6 := I3.call' (ch := fp) I6.os I6.base I6.hok I6.bare fun b hb => ⟨(f3 b hb).1.2.2.2.1, (f3 b hb).1.2.1, (f3 b hb).1.2.2.2.2.1, (f3 b hb).1.2.2.2.2.2⟩
      have nC : H5 s3.heap.objs.size = none := by
        have z : H5 ce.locals = none := I6.free
        rw [cL] at z
        exact z
      obtain ⟨m, hn, _⟩ := I6.loc
      have hn : s6.heap.Ns ce.locals m := hn
      rw [cL] at hn
      exact hRR D s3.heap.objs.size s6 m H5 I7 qq hn (I3.fpOk (Nat.le_refl _) nC)
    · have ti := T.item (X.blk s3 H3 scope ce fp) rfl rfl rfl hc i [] s5 _ H5 (fun _ _ => False) I5 (stat I5 n5) st5 go
      refine thnF ti fun r s6 ⟨u, hr, h6⟩ => ?_
      subst hr
      refine thnF h6 fun _ s7 ⟨x, H7, I7, r7, y7, st7, n7⟩ => ?_
      have I7' := I7.pinned (stat I7 n7) (T.obj _ _ st7)
      refine thnF (pg.run _ s7 _ H7 x u _ I7' r7 (step x H7 y7)) fun _ s8 ⟨σ8, H8, I8, hw8, q8⟩ => ?_
      have fin : ∀ {s' : Shared} {H' : Hp}, Inv (X.blk s3 H3 scope ce fp) ([] ++ pinsAt fp s7.heap) σ8 H' s' → Nx H' → ∃ m, m < n ∧ ∃ i H', Inv (X.blk s3 H3 scope ce fp) [] (wipe σ (own.map (·.2))) H' s' ∧ tn i s'.heap ∧ (∀ b ∈ fp, H' b = none) ∧ W i m H' := fun {s' H'} I' nx => by
        obtain ⟨m', hm, w'⟩ := hNx H' nx
        have pin' : ∀ b ∈ fp, ∀ o, s7.heap.get? b = some o → s'.heap.get? b = some o ∧ H' b = none := fun b hb o e =>
          let z := I'.pin (b, o) (List.mem_append_right _ (List.mem_append_right _ (mem_pinsAt hb e)))
          ⟨z.1, z.2.1⟩
        have hl : (wipe σ (own.map (·.2))).length = σ8.length := by rw [← hw8, wipe_length]
        refine ⟨m', hm, i + 1, H', (I'.unpinned (pins := [])).weak hl (fun j v e => ?_), T.keep _ _ _ st7 fun b hb o e => (pin' b hb o e).1, fun b hb => ?_, w'⟩
        · rw [← hw8] at e
          exact (wipe_some e).1
        · obtain ⟨o, e, _⟩ := T.obj _ _ st7 b hb
          exact (pin' b hb o e).2
      show wpAny _ _ (forIn ([] : List Expr) true _) _ _ _
      rw [List.forIn_nil]
      refine wpAny_pure ?_
      simp only [if_true]
      refine thnF (pe.run _ s8 σ8 H8 _ I8 q8) fun z s10 ⟨yv, H10, I10, r10, c, k, L, ey, hk, hD10, ht10, few, nx⟩ => ?_
      subst ey
      cases (show z = Value.ref c from r10)
      exact addK_ok (X := X.blk s3 H3 scope ce fp) I10 hD10 hk ht10 few hu fun s11 L' c1 c2 I11 => fin I11 (nx L' c1 c2)
  exact PpSet.codeAny_compStart_set loop (T.self X.A 0 _ _ _ st4 loop)
end
end DL
set_option maxHeartbeats 3200000
/-! DL37: sorted of a set of pairs of texts; the rule by data. -/
namespace DL
open PySem PySem.Spec PyProof.Rows L2
def unQ : List Key → Str × Str
  | [.inr a, .inr b] => (a, b)
  | _ => (Str.empty, Str.empty)
theorem unQ_q (q : Str × Str) : unQ (keyQ q) = q := rfl
def rSortKS (K : PySem.W.Frag) (P : Program) (w : World) : List V → Hp → VK → Prop := fun vs H Q => ∃ (a : Addr) (L : List KRow) (qs : List (Str × Str)), vs = [V.ref a] ∧ H a = some (SetKO P w a L) ∧ (∀ p ∈ L, SqT K H p.1 (p.2.map kV)) ∧ L.map (·.2) = qs.map keyQ ∧
  ∀ (p : Addr) (zs : List (Addr × (Str × Str))), (zs.map fun z => (z.1, keyQ z.2)).Perm L → zs.map (·.2) = srt ltQ qs → H p = none → Q (.ref p) (upd H p (.lst (zs.map fun z => V.ref z.1)))
theorem cr_sortKS {X : Cx} (hc : X.calm = true) : CallR X (.builtin "sorted") (rSortKS X.K X.prog X.w) := by
  intro pins s σ H vs us Q I r h
  obtain ⟨a, L, qs, rfl, ha, ht, hq, q⟩ := h
  have R0 : SetK0 X.prog X.w s.heap a L := (I.hok a _ ha).1
  obtain ⟨es, ep, t, R⟩ := R0.full fun p hp => inv_isK I (ht p hp)
  obtain ⟨o, ho, hex, hd⟩ := R.ob
  rw [Vals.ref1 r]
  have hsz := rows_len R.rows
  have hfew := R.few
  -- each row is a pair of texts
  have row : ∀ p ∈ L, ∃ b : Str × Str, p.2 = keyQ b ∧ IsPS s.heap (.ref p.1) b := fun p hp => by
    have : p.2 ∈ qs.map keyQ := by rw [← hq]; exact List.mem_map.mpr ⟨p, hp, rfl⟩
    obtain ⟨b, _, e⟩ := List.mem_map.mp this
    have h1 := ht p hp
    rw [← e] at h1
    exact ⟨b, e.symm, psq_is I h1⟩
  refine Calls.call_function_entry kind_sorted plain_sorted entry_sorted (args_sorted1 _) ?_
  unfold Builtin.«sorted»
  refine wpAny_bind (m := checkCount "sorted" 1 1 _) (wpAny_pure ?_)
  refine wpAny_bind (collect_set (A := X.A.in1) (I.ok.hd hc) ⟨o, ho, hex.1, hd⟩ R.fits (by rw [hsz]; unfold scanBound; omega) R.tab.up R.led fun s1 acc k1 hz g1 o1 pm => ?_)
  have hes : es.toList.map (·.2) = L.map fun q => Value.ref q.1 := by
    rw [R.rows]
    unfold ksRows
    rw [List.map_map] <;> rfl
  rw [hes] at pm
  have hal : acc.length ≤ sizeLine := by rw [pm.length_eq, List.length_map, sizeLine_eq]; omega
  have hmem : ∀ v ∈ acc, ∃ p ∈ L, v = Value.ref p.1 := fun v hv => by
    obtain ⟨p, hp, e⟩ := List.mem_map.mp (pm.mem_iff.mp hv)
    exact ⟨p, hp, e.symm⟩
  have hP1 : ∀ v ∈ acc, IsPS s.heap v (pk s.heap v) := fun v hv => by
    obtain ⟨p, hp, rfl⟩ := hmem v hv
    obtain ⟨b, _, hb⟩ := row p hp
    rw [pk_is hb]
    exact hb
  have hoL : (s1.heap.push (seqObj "list" acc.toArray 0)).get? s1.heap.objs.size = some (seqObj "list" acc.toArray 0) := Heap.get?_push_size _ rfl
  have hP : ∀ v ∈ acc, IsPS (s1.heap.push (seqObj "list" acc.toArray 0)) v (pk s.heap v) := fun v hv => (hP1 v hv).keeps fun b o e _ => Heap.get?_push_of_some _ (k1 b o e)
  refine wpAny_bind (wpAny_newList ?_ hal)
  refine wpAny_bind (wpAny_holding (wpAny_call_entry (s := { s1 with heap := s1.heap.push (seqObj "list" acc.toArray 0) }) PyProof.Rows.slot_list_sort ⟨_, hoL, rfl⟩ PyProof.Rows.entry_list_sort
    (SrtO.list_sort_ord (stoQ.swo_of (pk s.heap)) (s := { s1 with heap := s1.heap.push (seqObj "list" acc.toArray 0) }) hoL hal (fun h2 => ps_sortable (by omega) hP fun o e => ?_) fun out hs hb => ⟨_, rfl, ?_⟩)
    (PyProof.Rows.args_list_sort _)))
  · have e' := e.symm.trans hoL
    cases e'
    intro c
    exact absurd (Value.type.inj c) (by decide)
  · have hm2 : ∀ v ∈ out, ∃ p ∈ L, v = Value.ref p.1 := fun v hv => hmem v (hb.perm.mem_iff.mp hv)
    obtain ⟨c, hcc⟩ := sortedHeap_at (vs := acc) (out := out.toArray) hoL
    have hp : s.heap.objs.size ≤ s1.heap.objs.size := hz
    have hn : H s1.heap.objs.size = none := I.hok.fresh hp
    have keep : ∀ b o, s.heap.get? b = some o → (sortedHeap (s1.heap.push (seqObj "list" acc.toArray 0)) s1.heap.objs.size acc out.toArray).get? b = some o := fun b o e => by
      have qb := k1 b o e
      have hlt := Heap.lt_size qb
      rw [sortedHeap_old (Nat.ne_of_lt hlt) (by rw [size_push']; exact Nat.lt_succ_of_lt hlt)]
      exact Heap.get?_push_of_some _ qb
    generalize hzs : out.map (fun v => (adV v, pk s.heap v)) = zs
    have hL : (L.map fun q => Value.ref q.1).map (fun v => (adV v, keyQ (pk s.heap v))) = L := by
      rw [List.map_map]
      conv => rhs; rw [← List.map_id L]
      refine List.map_congr_left fun p hp => ?_
      obtain ⟨b, e, hb⟩ := row p hp
      show (p.1, keyQ (pk s.heap (.ref p.1))) = p
      rw [pk_is hb, ← e]
    have pL : (zs.map fun z => (z.1, keyQ z.2)).Perm L := by
      rw [← hzs, List.map_map]
      have := (hb.perm.trans pm).map fun v => (adV v, keyQ (pk s.heap v))
      rw [hL] at this
      exact this
    have pq : (zs.map (·.2)).Perm qs := by
      have h1 := (pL.map (·.2)).map unQ
      rw [hq, List.map_map, List.map_map, List.map_map] at h1
      have e1 : qs.map (unQ ∘ keyQ) = qs := by
        conv => rhs; rw [← List.map_id qs]
        exact List.map_congr_left fun b _ => unQ_q b
      rw [e1] at h1
      exact h1
    have ez : zs.map (·.2) = srt ltQ qs := by
      refine srt_uniq stoQ pq ?_
      rw [← hzs, List.map_map]
      exact List.pairwise_map.mpr hs
    have er : out = zs.map fun z => Value.ref z.1 := by
      rw [← hzs, List.map_map]
      conv => lhs; rw [← List.map_id out]
      refine List.map_congr_left fun v hv => ?_
      obtain ⟨p, _, rfl⟩ := hm2 v hv
      rfl
    have hlen : (zs.map fun z => V.ref z.1).length ≤ sizeLine := by
      have := pL.length_eq
      rw [List.length_map] at this ⊢
      rw [this, sizeLine_eq]
      omega
    have hv : Vals (zs.map fun z => V.ref z.1) out := by
      rw [er]
      clear er ez pq pL hL hzs hlen
      induction zs with
      | nil => exact .nil
      | cons z zs ih => exact .cons rfl ih
    obtain ⟨hp1h, g1', d1', t1', os1'⟩ := s1
    dsimp only at g1 o1 k1 hz hp hn keep hcc hoL ⊢
    subst g1
    subst o1
    have J : Inv X pins σ (upd H hp1h.objs.size (.lst (zs.map fun z => V.ref z.1))) { s with heap := sortedHeap (hp1h.push (seqObj "list" acc.toArray 0)) hp1h.objs.size acc out.toArray, drawn := d1', toks := t1' } :=
      I.call (ch := []) (Un.laid keep hp hn) (I.hok.laid keep hp ⟨hlen, out, c, hv, hcc⟩) I.bare (fun _ z => nomatch z)
    exact wpAny_pure ⟨_, rfl, .ref _, _, J, rfl, q _ zs pL ez hn⟩
/-- sorted({elt for target in iter}), elt a pair of texts; F: what stands at the set -/
def tSortSc (K : PySem.W.Frag) (wi : TI) (g : TG) (te : TE) (vs : List Nat) : TE := fun σ H Q => wi σ H fun J H1 => ∀ (D : Addr) (F : List KRow → HO), H1 D = none → (∀ L, ∃ φ, F L = .ext φ) → ∃ W : Nat → Nat → Hp → Prop, (∃ m, W 0 m (upd H1 D (F []))) ∧ ∀ i m H, W i m H →
  (J.stop i H ∧ ∃ (L : List KRow) (qs : List (Str × Str)), H D = some (F L) ∧ (∀ p ∈ L, SqT K H p.1 (p.2.map kV)) ∧ L.map (·.2) = qs.map keyQ ∧
      ∀ (p : Addr) (zs : List (Addr × (Str × Str))), (zs.map fun z => (z.1, keyQ z.2)).Perm L → zs.map (·.2) = srt ltQ qs → H p = none → Q (.ref p) (upd H p (.lst (zs.map fun z => V.ref z.1)))) ∨
  (J.go i H ∧ ∃ Nx : Hp → Prop, (∀ H', Nx H' → ∃ m', m' < m ∧ W (i + 1) m' H') ∧ ∀ x H', J.yld i H x H' → g x (wipe σ vs) H' fun σ2 H2 => wipe σ2 vs = wipe σ vs ∧
    te σ2 H2 fun y H4 => ∃ (c : Addr) (k : List Key) (L : List KRow), y = .ref c ∧ SqT K H4 c (k.map kV) ∧ H4 D = some (F L) ∧ (∀ p ∈ L, SqT K H4 p.1 (p.2.map kV)) ∧ L.length + 1 ≤ 306 ∧
      ∀ L', (k ∈ L.map (·.2) → L' = L) → (k ∉ L.map (·.2) → L'.Perm ((c, k) :: L)) → Nx (upd H4 D (F L')))
section
variable {X : Cx}
theorem pe_sortSc {elt tg iter : Expr} {scope : Scope} {own : List (PySem.Str × Nat)} {pos p p3 : Pos} {wi : TI} {g : TG} {te : TE} (hc : X.calm = true) (hu : X.A.units + 64 < cLine) (hm : X.mg "sorted" = none) (hN : X.N.Nodup) (hi : PI X tg iter wi) (ok : BlkOk X.N X.env.scope scope own)
    (hg : ∀ (s : Shared) (H : Hp) (C : Addr) (cl : List (PySem.Str × Addr)) (fp : List Addr), PG (X.blk s H scope (compEnvC scope cl C X.env) fp) tg g)
    (he : ∀ (s : Shared) (H : Hp) (C : Addr) (cl : List (PySem.Str × Addr)) (fp : List Addr), PE (X.blk s H scope (compEnvC scope cl C X.env) fp) elt te) (hs : ∀ x, foldedSetIterable iter X.env x = pure x := by intro _; rfl) (hgs : Gl X "sorted" := by rfl)
    (hst : starEach [Expr.SetComp elt [⟨tg, iter, [], 0⟩] scope pos] X.env = [(false, eval (.SetComp elt [⟨tg, iter, [], 0⟩] scope pos) X.env)] := by rfl) :
    PE X (.Call (.Name "sorted" p) [.SetComp elt [⟨tg, iter, [], 0⟩] scope pos] [] p3) (tSortSc X.K wi g te (own.map (·.2))) := by
  have h := pe_callB (pos := p3) (p := p) (r := rSortKS X.K X.prog X.w) (cr_sortKS hc) hgs hm b_sorted (pa_cons (pe_scK hc hu hN (pi_up hi) ok hg he hs) pa_nil hst) (by decide) (by decide) hst rfl
  refine ⟨fun pins s σ H Q I hq => h.run pins s σ H Q I ⟨_, hq, ?_⟩⟩
  intro J H1 hJ D hD
  obtain ⟨W, h0, turn⟩ := hJ D (SetKO X.prog X.w D) hD fun L => ⟨_, rfl⟩
  refine ⟨W, h0, fun i m H2 w => ?_⟩
  rcases turn i m H2 w with ⟨st, L, qs, h1, h2, h3, h4⟩ | y
  · exact .inl ⟨st, D, L, qs, rfl, h1, h2, h3, h4⟩
  · exact .inr y
end
section
variable {K : PySem.W.Frag} {ρ : List Sl} {te : TE}
def prD (q : Str × Str) : D := .tuple [.str q.1, .str q.2]
theorem en_sortSc {wi : TI} {g : TG} {vs : List Nat} {n : Nat} {item : Nat → D} {f : Nat → Str × Str} (hi : EI K wi ρ n item) (hn : (dd ((List.range n).map f)).length ≤ 300)
    (hs : ∀ i, i < n → ∃ ρ2 ts, GT K g (wipeS ρ vs) (item i) ρ2 ts ∧ (∀ t ∈ ts, t ∈ vs) ∧ EV K te ρ2 (prD (f i))) :
    EVN K (tSortSc K wi g te vs) ρ (.list ((srt ltQ (dd ((List.range n).map f))).map prD)) := fun G0 H0 G H σ Q E q =>
  hi G0 H0 G H σ _ E fun J G1 H1 Gd Y x w hG hY Dl F hD hF => by
    have E1 := E.go x
    have hH : H Dl = none := x.gone hD
    have hG1 : G1 Dl = none := x.gh.none hD
    have hFt : ∀ L, noTup (F L) = true := fun L => by obtain ⟨φ, e⟩ := hF L; rw [e]; rfl
    let Pv : Nat → Hp → Prop := fun i H' => ∃ G' L, Ext G1 H1 G' H' ∧ G' Dl = none ∧ H' Dl = some (F L) ∧ (∀ p ∈ L, SqT K G' p.1 (p.2.map kV)) ∧ (L.map (·.2)).Nodup ∧ ∀ k, k ∈ L.map (·.2) ↔ ∃ j, j < i ∧ k = keyQ (f j)
    have few : ∀ i L, i ≤ n → (L.map (·.2)).Nodup → (∀ k, k ∈ L.map (·.2) ↔ ∃ j, j < i ∧ k = keyQ (f j)) → (L : List KRow).length ≤ 300 := fun i L hin nd hk => by
      have h1 : (L.map fun p => unQ p.2).Nodup := by
        have : (L.map fun p => unQ p.2) = (L.map (·.2)).map unQ := by rw [List.map_map]; rfl
        rw [this]
        refine List.pairwise_map.mpr (List.Pairwise.imp_of_mem (fun {a b} ha hb hne e => hne ?_) nd)
        obtain ⟨j, _, rfl⟩ := (hk a).mp ha
        obtain ⟨j', _, rfl⟩ := (hk b).mp hb
        rw [unQ_q, unQ_q] at e
        rw [e]
      have h2 : ∀ z ∈ (L.map fun p => unQ p.2), z ∈ dd ((List.range n).map f) := fun z hz => by
        obtain ⟨p, hp, rfl⟩ := List.mem_map.mp hz
        obtain ⟨j, hj, e⟩ := (hk p.2).mp (List.mem_map.mpr ⟨p, hp, rfl⟩)
        rw [e, unQ_q]
        exact mem_dd.mpr (List.mem_map.mpr ⟨j, List.mem_range.mpr (by omega), rfl⟩)
      have h3 : (L.map fun p => unQ p.2).length ≤ (dd ((List.range n).map f)).length := by
        rcases Nat.le_total (dd ((List.range n).map f)).length (L.map fun p => unQ p.2).length with c | c
        · exact Nat.le_of_eq (perm_of_sub h1 h2 c).length_eq
        · exact c
      rw [List.length_map] at h3
      omega
    refine ⟨fun i m H' => m = n - i ∧ i ≤ n ∧ Pv i H', ⟨n, by simp, Nat.zero_le _, G1, [], ?_, hG1, upd_same, fun p hp => (by cases hp), List.nodup_nil, fun k => ⟨fun h => (by cases h), fun ⟨j, hj, _⟩ => absurd hj (Nat.not_lt_zero _)⟩⟩, ?_⟩
    · obtain ⟨φ, e⟩ := hF []
      rw [e]
      exact .fresh x.gh hD
    rintro i m H' ⟨rfl, hin, G', L, e, n1, h1, ht, nd, hk⟩
    have gd := hG G' H' e.gg e.gh
    by_cases hlt : i < n
    · refine .inr ⟨w.goes i H' hlt gd, Pv (i + 1), fun H'' p' => ⟨n - (i + 1), by omega, rfl, hlt, p'⟩, fun y H3 hyl => ?_⟩
      have hy := w.yields i H' y H3 hlt gd hyl
      obtain ⟨G3, x3, hdq⟩ := hY i G' H' y H3 hlt e.gg e.gh hy
      obtain ⟨ρ2, ts, hg, hts, he⟩ := hs i hlt
      have E3 : En K G0 H0 G3 H3 (L2.wipe σ vs) (wipeS ρ vs) := ((E1.go e).go x3).wipe vs
      have n3 : G3 Dl = none := x3.own _ _ h1 (hFt L) n1
      refine hg G0 H0 G3 H3 _ y _ E3 hdq fun σ2 E2 hl hk2 => ⟨wipe_eq (by rw [hl, wipe_length]) hk2 hts, ?_⟩
      refine he G0 H0 G3 H3 σ2 _ E2 fun u G5 H5 x5 hu => ?_
      have h3 : H3 Dl = some (F L) := x3.at n1 h1
      have h5 : H5 Dl = some (F L) := x5.at n3 h3
      have n5 : G5 Dl = none := x5.own _ _ h3 (hFt L) n3
      obtain ⟨c, rfl, hcq⟩ : ∃ c, u = V.ref c ∧ SqT K G5 c ((keyQ (f i)).map kV) := by
        cases hu with
        | @tup b xs _ hb hr =>
          refine ⟨b, rfl, ?_⟩
          cases hr with
          | cons a1 r1 =>
            cases r1 with
            | cons a2 r2 =>
              cases r2
              cases a1
              cases a2
              exact hb
      have ht5 : ∀ p ∈ L, SqT K G5 p.1 (p.2.map kV) := fun p hp => x5.g.t (x3.g.t (ht p hp))
      refine ⟨c, keyQ (f i), L, rfl, x5.gh.t hcq, h5, fun p hp => x5.gh.t (ht5 p hp), by have := few i L hin nd hk; omega, fun L' c1 c2 => ?_⟩
      have e5 := (e.trans x3).trans x5
      refine ⟨G5, L', ?_, n5, upd_same, ?_, ?_, ?_⟩
      · refine ⟨e5.gg, fun a o ha => ?_, fun a o ha => ?_, e5.own⟩
        · rw [upd_ne (ne_of_none ha hD)]; exact e5.hh a o ha
        · exact (e5.gh a o ha).eq (upd_ne (ne_of_none ha n5))
      · intro p hp
        rcases Classical.em (keyQ (f i) ∈ L.map (·.2)) with z | z
        · rw [c1 z] at hp; exact ht5 p hp
        · rcases List.mem_cons.mp ((c2 z).mem_iff.mp hp) with rfl | hp
          · exact hcq
          · exact ht5 p hp
      · rcases Classical.em (keyQ (f i) ∈ L.map (·.2)) with z | z
        · rw [c1 z]; exact nd
        · refine ((c2 z).map (·.2)).nodup_iff.mpr ?_
          rw [List.map_cons]
          exact List.nodup_cons.mpr ⟨z, nd⟩
      · intro k
        rcases Classical.em (keyQ (f i) ∈ L.map (·.2)) with z | z
        · rw [c1 z, hk k]
          constructor
          · rintro ⟨j, hj, e⟩; exact ⟨j, by omega, e⟩
          · rintro ⟨j, hj, rfl⟩
            rcases Nat.lt_or_ge j i with c | c
            · exact ⟨j, c, rfl⟩
            · have : j = i := by omega
              rw [this]
              exact (hk _).mp z
        · rw [((c2 z).map (·.2)).mem_iff, List.map_cons, List.mem_cons, hk k]
          constructor
          · rintro (e | ⟨j, hj, e⟩)
            · exact ⟨i, by omega, e⟩
            · exact ⟨j, by omega, e⟩
          · rintro ⟨j, hj, e⟩
            rcases Nat.lt_or_ge j i with c | c
            · exact .inr ⟨j, c, e⟩
            · have : j = i := by omega
              rw [this] at e
              exact .inl e
    · have hi' : i = n := by omega
      subst hi'
      refine .inl ⟨w.stops H' gd, L, L.map (fun p => unQ p.2), h1, fun p hp => e.gh.t (ht p hp), ?_, fun p zs pm es hp => ?_⟩
      · rw [List.map_map]
        refine List.map_congr_left fun p hp => ?_
        obtain ⟨j, _, e⟩ := (hk p.2).mp (List.mem_map.mpr ⟨p, hp, rfl⟩)
        show p.2 = keyQ (unQ p.2)
        rw [e, unQ_q]
      · have hqs : srt ltQ (L.map fun p => unQ p.2) = srt ltQ (dd ((List.range i).map f)) := by
          refine srt_uniq stoQ ((srt_perm _).trans (dd_perm ?_ ?_)) (srt_pw stoQ _)
          · have : (L.map fun p => unQ p.2) = (L.map (·.2)).map unQ := by rw [List.map_map]; rfl
            rw [this]
            refine List.pairwise_map.mpr (List.Pairwise.imp_of_mem (fun {a b} ha hb hne e => hne ?_) nd)
            obtain ⟨j, _, rfl⟩ := (hk a).mp ha
            obtain ⟨j', _, rfl⟩ := (hk b).mp hb
            rw [unQ_q, unQ_q] at e
            rw [e]
          · intro z
            rw [List.mem_map, List.mem_map]
            constructor
            · rintro ⟨p, hp, rfl⟩
              obtain ⟨j, hj, e⟩ := (hk p.2).mp (List.mem_map.mpr ⟨p, hp, rfl⟩)
              exact ⟨j, List.mem_range.mpr hj, by rw [e, unQ_q]⟩
            · rintro ⟨j, hj, rfl⟩
              obtain ⟨p, hp, e⟩ := List.mem_map.mp ((hk (keyQ (f j))).mpr ⟨j, List.mem_range.mp hj, rfl⟩)
              exact ⟨p, hp, by rw [e, unQ_q]⟩
        rw [← hqs, ← es] at q
        have x6 := Ext.fresh (o := .lst (zs.map fun z => V.ref z.1)) e.gh hp
        refine q p G' _ (x.trans (e.trans x6)) (x.gone (e.gone hp)) (e.gh.none hp) (.lst upd_same ?_)
        have hz : ∀ z ∈ zs, SqT K G' z.1 [V.str z.2.1, V.str z.2.2] := fun z hz => by
          have := ht (z.1, keyQ z.2) (pm.mem_iff.mp (List.mem_map.mpr ⟨z, hz, rfl⟩))
          exact this
        clear es hqs pm q x6
        induction zs with
        | nil => exact .nil
        | cons z zs ih => exact .cons (.tup (hz z List.mem_cons_self) (.cons (.str _) (.cons (.str _) .nil))) (ih fun u hu => hz u (List.mem_cons_of_mem _ hu))
end
end DL
set_option maxHeartbeats 1000000
/-! DL38: list(d.values()) and len(d) of a plain dict; frozen and owned ones. -/
namespace DL
open PySem PySem.Spec PyProof.Rows L2
section
variable {X : Cx}
/-! len(d) -/
def rLenDK : List V → Hp → VK → Prop := fun xs H Q => ∃ d kvs, xs = [V.ref d] ∧ Rd H d (.dK kvs) ∧ Q (.int kvs.length) H
theorem cr_lenDK : CallR X (.builtin "len") rLenDK := by
  intro pins s σ H xs us Q I r h
  obtain ⟨d, kvs, rfl, hd, q⟩ := h
  rw [Vals.ref1 r]
  exact d_len I hd fun t s' I' => ⟨.int kvs.length, H, I', ⟨t, rfl⟩, q⟩
end
section
variable {K : PySem.W.Frag} {ρ : List Sl} {td : TE} {d : D}
theorem ev_lenDK {kvs : List (Key × D)} (h : EV K td ρ (dkD kvs)) : EV K (tCB rLenDK (tCons td tNil)) ρ (.int kvs.length) := fun G0 H0 G H σ Q E q =>
  h G0 H0 G H σ _ E fun x G1 H1 e1 hx => by
    obtain ⟨a, es, rfl, h1, h2⟩ := dq_dk hx
    exact ⟨a, es, rfl, e1.gh.rd h1, by rw [h2.length]; exact q _ G1 H1 e1 (.int _)⟩
theorem ev_lenDKO {n : Nat} {kvs : List (Key × D)} (hi : ρ[n]? = some (.ow (dkD kvs))) : EV K (tCB rLenDK (tCons (tVar n) tNil)) ρ (.int kvs.length) := fun G0 H0 G H σ Q E q => by
  obtain ⟨l, h1, h2, h3, h4⟩ := E.ow n _ hi
  obtain ⟨es, h5, h6⟩ := own_dk h4
  exact ⟨_, h1, l, es, rfl, .inl h5, by rw [h6.length]; exact q _ G H (.refl E.gh) (.int _)⟩
end
end DL
set_option maxHeartbeats 1000000
/-! DL39: defs called by keywords alone; split, startswith, endswith; a list unpacked; three stores at once. -/
namespace DL
open PySem PySem.Spec PyProof.Rows L2
/-! texts -/
def rSplitU : V → List V → Hp → VK → Prop := fun x xs H Q => ∃ a b, x = .str a ∧ xs = [.str b] ∧ (b.length == 0) = false ∧ a.length + 2 ≤ sizeLine ∧ rNewStrs (Txt.split a b) H Q
def rStartsU : V → List V → Hp → VK → Prop := fun x xs H Q => ∃ a b, x = .str a ∧ xs = [.str b] ∧ Q (.bl (Txt.startswith a b)) H
def rEndsU : V → List V → Hp → VK → Prop := fun x xs H Q => ∃ a b, x = .str a ∧ xs = [.str b] ∧ Q (.bl (Txt.endswith a b)) H
section
variable {X : Cx} {o e : Expr} {to te : TE} {apos pos : Pos}
theorem pe_splitU (ho : PE X o to) (he : PE X e te) (hs : starEach [e] X.env = [(false, eval e X.env)] := by rfl) (hbase : attributeBase o "split" X.env (eval o X.env) = eval o X.env := by rfl) (hline : (apos.endLine == pos.line) = true := by rfl) :
    PE X (.Call (.Attribute o "split" apos) [e] [] pos) (tM1 rSplitU to te) := pe_split ho he hs hbase hline
theorem pe_startsU (ho : PE X o to) (he : PE X e te) (hs : starEach [e] X.env = [(false, eval e X.env)] := by rfl) (hbase : attributeBase o "startswith" X.env (eval o X.env) = eval o X.env := by rfl) (hline : (apos.endLine == pos.line) = true := by rfl) :
    PE X (.Call (.Attribute o "startswith" apos) [e] [] pos) (tM1 rStartsU to te) := pe_m1 F.slot_str_startswith F.type_str_startswith mt_startswith ho he hs hbase hline
theorem pe_endsU (ho : PE X o to) (he : PE X e te) (hs : starEach [e] X.env = [(false, eval e X.env)] := by rfl) (hbase : attributeBase o "endswith" X.env (eval o X.env) = eval o X.env := by rfl) (hline : (apos.endLine == pos.line) = true := by rfl) :
    PE X (.Call (.Attribute o "endswith" apos) [e] [] pos) (tM1 rEndsU to te) := pe_m1 F.slot_str_endswith F.type_str_endswith mt_endswith ho he hs hbase hline
end
section
variable {K : PySem.W.Frag} {ρ : List Sl} {Ex : XK} {P : Oc → Prop} {ta tb tc te : TE} {a b : Str} {d d1 d2 d3 : D} {u : TS}
theorem en_split (h : EV K ta ρ (.str a)) (h2 : EV K tb ρ (.str b)) (hb : (b.length == 0) = false) (ha : a.length + 2 ≤ sizeLine) : EVN K (tM1 rSplitU ta tb) ρ (.list ((Txt.split a b).map PyData.str)) := fun G0 H0 G H σ Q E q =>
  h G0 H0 G H σ _ E fun v G1 H1 e1 h1 => by
    cases h1
    refine ⟨⟨a, rfl⟩, h2 G0 H0 G1 H1 σ _ (E.go e1) fun u G2 H2 e2 hu => ?_⟩
    cases hu
    refine ⟨a, b, rfl, rfl, hb, ha, fun p hp => ?_⟩
    exact q p G2 _ ((e1.trans e2).trans (.fresh e2.gh hp)) ((e1.trans e2).gone hp) (e2.gh.none hp) (.lst upd_same (strs_dq _))
theorem ev_starts (h : EV K ta ρ (.str a)) (h2 : EV K tb ρ (.str b)) : EV K (tM1 rStartsU ta tb) ρ (.bool (Txt.startswith a b)) := fun G0 H0 G H σ Q E q =>
  h G0 H0 G H σ _ E fun v G1 H1 e1 h1 => by
    cases h1
    refine ⟨⟨a, rfl⟩, h2 G0 H0 G1 H1 σ _ (E.go e1) fun u G2 H2 e2 hu => ?_⟩
    cases hu
    exact ⟨a, b, rfl, rfl, q _ G2 H2 (e1.trans e2) (.bl _)⟩
theorem ev_ends (h : EV K ta ρ (.str a)) (h2 : EV K tb ρ (.str b)) : EV K (tM1 rEndsU ta tb) ρ (.bool (Txt.endswith a b)) := fun G0 H0 G H σ Q E q =>
  h G0 H0 G H σ _ E fun v G1 H1 e1 h1 => by
    cases h1
    refine ⟨⟨a, rfl⟩, h2 G0 H0 G1 H1 σ _ (E.go e1) fun u G2 H2 e2 hu => ?_⟩
    cases hu
    exact ⟨a, b, rfl, rfl, q _ G2 H2 (e1.trans e2) (.bl _)⟩
end
end DL
set_option maxHeartbeats 1000000
/-! DL40: min and max of two texts, of two pairs of texts. -/
namespace DL
open PySem PySem.Spec PyProof.Rows L2 PySem.Calls
end DL
set_option maxHeartbeats 1000000
/-! DL41: an owned thing lent to an expression that gives a flat value; list(d) of a plain dict. -/
namespace DL
open PySem PySem.Spec PyProof.Rows L2
section
variable {K : PySem.W.Frag} {ρ : List Sl} {te : TE} {d e : D}
theorem flat_any {G G' : Hp} {v : V} (h : Dq K G v d) (f : flatD d = true) : Dq K G' v d := by
  cases h with
  | non => exact .non
  | bl b => exact .bl b
  | int i => exact .int i
  | str z => exact .str z
  | _ => exact absurd f Bool.false_ne_true
/-- slot n, owned, is read as a frozen one by te -/
theorem ev_lend {n : Nat} (hi : ρ[n]? = some (.ow e)) (h : EV K te (ρ.set n (.fr e)) d) (f : flatD d = true) : EV K te ρ d := fun G0 H0 G H σ Q E q => by
  obtain ⟨l, h1, h2, h3, h4⟩ := E.ow n e hi
  obtain ⟨o, ho, ht, hm⟩ := h4.there2
  have E' := E.frzAs hi h1 (.of ho hm) fun gg => h4.dq (Sub.of gg) fun u hu => by rw [upd_same]; rw [ho] at hu; exact hu
  have gg : ∀ a u, G a = some u → upd G l o a = some u := fun a u e => by rw [upd_ne (ne_of_none e h3)]; exact e
  refine h G0 H0 _ H σ Q E' fun v G2 H2 x hv => q v G H2 ⟨fun _ _ h => h, fun a u hu => ?_, fun a u hu => x.gh a u (x.gg a u (gg a u hu)), fun _ _ _ _ h => h⟩ (flat_any hv f)
  refine (x.hh a u hu).imp id fun ⟨z, hz, mz⟩ => ?_
  by_cases ea : a = l
  · subst ea
    rw [upd_same] at hz
    cases hz
    rw [hm] at mz
    cases mz
  · rw [upd_ne ea] at hz
    exact ⟨z, hz, mz⟩
end
def rListDK : List V → Hp → VK → Prop := fun xs H Q => ∃ d kvs, xs = [V.ref d] ∧ Rd H d (.dK kvs) ∧ ∀ l, H l = none → Q (.ref l) (upd H l (.lst (kvs.map fun p => kV p.1)))
theorem keys_vals {P : Program} {w : World} : ∀ {kvs : List (Key × V)} {vs : List (Key × Value)} {us : List Value}, KV kvs vs → us.length = vs.length → (∀ (j : Nat) (u : Value), us[j]? = some u → ∃ k x, vs[j]? = some (k, x) ∧ (mixKind P w).is k u = true) → Vals (kvs.map fun p => kV p.1) us
  | [], _, us, .nil, hl, _ => by
    cases us with
    | nil => exact .nil
    | cons a r => cases hl
  | p :: kvs, q :: vs, us, .cons r t, hl, h => by
    cases us with
    | nil => cases hl
    | cons u us =>
      obtain ⟨k, x, e, hk⟩ := h 0 u rfl
      cases e
      rw [List.map_cons, r.1]
      exact .cons (relV_key hk) (keys_vals t (Nat.succ.inj hl) fun j v e => h (j + 1) v e)
section
variable {X : Cx}
theorem cr_listDK (hc : X.calm = true) : CallR X (.type "list") rListDK := by
  intro pins s σ H xs us Q I r h
  obtain ⟨d, kvs, rfl, hd, q⟩ := h
  rw [Vals.ref1 r]
  obtain ⟨hz, hs, vs, kv, dd⟩ := dk_rd I.hok hd
  obtain ⟨ep, hat⟩ := dd.dictAt
  have hl : kvs.length = vs.length := Paired.length kv
  refine PySem.W.kdl_call (PySem.W.kdl_dict (knd := mixKind X.prog X.w) (kvs := vs) (ep := ep) hs) (I.ok.hd hc) hat (by omega) fun h' tk acc c k1 e1 e2 => ?_
  have ez : Vals (kvs.map fun p => kV p.1) acc.toList := keys_vals kv (by rw [Array.length_toList]; exact e2.1) fun j u e => e2.2 j u (by rw [← Array.getElem?_toList]; exact e)
  refine ⟨.ref s.heap.objs.size, _, I.laid (t' := tk) k1 (Nat.le_refl _) (show ObjOk X.prog X.w _ h' _ (.lst (kvs.map fun p => kV p.1)) from ⟨by rw [List.length_map]; exact hz, acc.toList, c, ez, ?_⟩), rfl, q _ (I.hok.fresh (Nat.le_refl _))⟩
  rw [Array.toArray_toList]
  exact e1
end
section
variable {K : PySem.W.Frag} {ρ : List Sl}
theorem keys_kD {G : Hp} : ∀ {es : List (Key × V)} {kvs : List (Key × D)}, DqV K G es kvs → DqA K G (es.map fun p => kV p.1) (kvs.map fun p => kD p.1)
  | _, _, .nil => .nil
  | _, _, @DqV.cons _ _ _ (.inl i) _ _ _ _ a t => .cons (.int i) (keys_kD t)
  | _, _, @DqV.cons _ _ _ (.inr z) _ _ _ _ a t => .cons (.str z) (keys_kD t)
theorem en_listDKO {n : Nat} {kvs : List (Key × D)} (hi : ρ[n]? = some (.ow (dkD kvs))) : EVN K (tCB rListDK (tCons (tVar n) tNil)) ρ (.list (kvs.map fun p => kD p.1)) := fun G0 H0 G H σ Q E q => by
  obtain ⟨l, h1, h2, h3, h4⟩ := E.ow n _ hi
  obtain ⟨es, h5, h6⟩ := own_dk h4
  exact ⟨_, h1, l, es, rfl, .inl h5, fun p hp => q p G _ (.fresh E.gh hp) hp (E.gh.none hp) (.lst upd_same (keys_kD h6))⟩
theorem en_listDK {te : TE} {kvs : List (Key × D)} (h : EV K te ρ (dkD kvs)) : EVN K (tCB rListDK (tCons te tNil)) ρ (.list (kvs.map fun p => kD p.1)) := fun G0 H0 G H σ Q E q =>
  h G0 H0 G H σ _ E fun x G1 H1 e1 hx => by
    obtain ⟨a, es, rfl, h1, h2⟩ := dq_dk hx
    exact ⟨a, es, rfl, e1.gh.rd h1, fun p hp => q p G1 _ (e1.trans (.fresh e1.gh hp)) (e1.gone hp) (e1.gh.none hp) (.lst upd_same (keys_kD h2))⟩
end
end DL
set_option maxHeartbeats 1000000
/-! DL42: sorted of a list or a tuple of texts. -/
namespace DL
open PySem PySem.Spec PyProof.Rows L2
end DL
set_option maxHeartbeats 1000000
/-! DL43: tuple of a text. -/
namespace DL
open PySem PySem.Spec PyProof.Rows L2
end DL
set_option maxHeartbeats 1000000
/-! DL44: strip(characters), max of a list of ints, d.get(k, default) of dicts by texts. -/
namespace DL
open PySem PySem.Spec PyProof.Rows L2
def rStripU : V → List V → Hp → VK → Prop := fun x xs H Q => ∃ a b, x = .str a ∧ xs = [.str b] ∧ a.length ≤ sizeLine ∧ Q (.str (Txt.stripChars a b)) H
section
variable {X : Cx} {o e : Expr} {to te : TE} {apos pos : Pos}
theorem pe_stripU (ho : PE X o to) (he : PE X e te) (hs : starEach [e] X.env = [(false, eval e X.env)] := by rfl) (hbase : attributeBase o "strip" X.env (eval o X.env) = eval o X.env := by rfl) (hline : (apos.endLine == pos.line) = true := by rfl) :
    PE X (.Call (.Attribute o "strip" apos) [e] [] pos) (tM1 rStripU to te) := pe_m1 F.slot_str_strip F.type_str_strip mt_stripChars ho he hs hbase hline
end
section
variable {K : PySem.W.Frag} {ρ : List Sl} {ta tb : TE} {a b : Str}
theorem ev_strip (h : EV K ta ρ (.str a)) (h2 : EV K tb ρ (.str b)) (hl : a.length ≤ sizeLine) : EV K (tM1 rStripU ta tb) ρ (.str (Txt.stripChars a b)) := fun G0 H0 G H σ Q E q =>
  h G0 H0 G H σ _ E fun v G1 H1 e1 h1 => by
    cases h1
    refine ⟨⟨a, rfl⟩, h2 G0 H0 G1 H1 σ _ (E.go e1) fun u G2 H2 e2 hu => ?_⟩
    cases hu
    exact ⟨a, b, rfl, rfl, hl, q _ G2 H2 (e1.trans e2) (.str _)⟩
/-- max(list of ints) -/
theorem cd_maxL {ns : List Int} {m : Int} (hm : m ∈ ns) (hx : ∀ y ∈ ns, y ≤ m) : CD K (rMax K) [.list (ns.map PyData.int)] (.int m) := fun xs G H Q g h q => by
  cases h with
  | cons a b =>
    cases b
    cases a with
    | lst a b =>
      have e := ints_dq b
      subst e
      refine ⟨_, ns, rfl, SqL.of (g.lst a), List.length_pos_of_mem hm, fun m2 h1 h2 => ?_⟩
      have : m2 = m := Int.le_antisymm (hx _ h1) (h2 _ hm)
      subst this
      exact q _ _ _ (Ext.refl g) (.int _)
/-- d.get(x, z) of an owned dict -/
theorem ev_get2O {n : Nat} {kvs : List (Key × D)} {k : Key} {dk z : D} {tz : TE} (hi : ρ[n]? = some (.ow (dkD kvs))) (hk : EV K tb ρ dk) (ek : dk = kD k) (hz : EV K tz ρ z) : EV K (tDGet2 (tVar n) tb tz) ρ ((getG kvs k).getD z) := fun G0 H0 G H σ Q E q => by
  obtain ⟨l, h1, _, h0, h4⟩ := E.ow n _ hi
  obtain ⟨es, h5, h6⟩ := own_dk h4
  refine ⟨_, h1, l, rfl, .inl ⟨es, .inl h5⟩, hk G0 H0 G H σ _ E fun y G2 H2 e2 hy => hz G0 H0 G2 H2 σ _ (E.go e2) fun w G3 H3 e3 hw => ?_⟩
  subst ek
  have ez := key_dq hy
  subst ez
  have h7 := (e2.trans e3).at h0 h5
  rcases (h6.mono (e2.trans e3).g).get (k := k) with ⟨a, b⟩ | ⟨v, d', a, b, c⟩
  · exact ⟨_, .inl ⟨es, k, .inl h7, rfl, a.symm⟩, q _ G3 H3 (e2.trans e3) (by rw [b]; exact hw)⟩
  · exact ⟨_, .inl ⟨es, k, .inl h7, rfl, a.symm⟩, q _ G3 H3 (e2.trans e3) (by rw [b]; exact c)⟩
/-- d[x] of an owned dict -/
theorem ev_dgetO {n : Nat} {kvs : List (Key × D)} {k : Key} {dk d : D} (hi : ρ[n]? = some (.ow (dkD kvs))) (hk : EV K tb ρ dk) (ek : dk = kD k) (e : getG kvs k = some d) : EV K (tDGet (tVar n) tb) ρ d := fun G0 H0 G H σ Q E q => by
  obtain ⟨l, h1, _, h0, h4⟩ := E.ow n _ hi
  obtain ⟨es, h5, h6⟩ := own_dk h4
  refine ⟨_, h1, hk G0 H0 G H σ _ E fun y G2 H2 e2 hy => ?_⟩
  subst ek
  have ez := key_dq hy
  subst ez
  rcases (h6.mono e2.g).get (k := k) with ⟨a, b⟩ | ⟨v, d', a, b, c⟩
  · rw [e] at b; cases b
  · rw [e] at b
    cases b
    exact ⟨l, v, rfl, .inl ⟨es, k, .inl (e2.at h0 h5), rfl, a.symm⟩, q _ G2 H2 e2 c⟩
end
end DL
set_option maxHeartbeats 1000000
/-! DL45: texts cut at a sign: lines, words; joined texts; helps for walks. -/
namespace DL
open PySem PySem.Spec PyProof.Rows L2
/-- the pieces of a list between the signs s -/
def cutAt (s : Nat) : List Nat → List (List Nat)
  | [] => [[]]
  | c :: r => if c = s then [] :: cutAt s r else match cutAt s r with
    | [] => [[c]]
    | h :: t => (c :: h) :: t
theorem cutAt_ne (s : Nat) : ∀ l, cutAt s l ≠ []
  | [] => fun h => nomatch h
  | c :: r => by
    unfold cutAt
    split
    · exact List.cons_ne_nil _ _
    · cases cutAt s r <;> exact List.cons_ne_nil _ _
theorem cutAt_hit (s : Nat) (r : List Nat) : cutAt s (s :: r) = [] :: cutAt s r := by
  conv => lhs; unfold cutAt
  rw [if_pos rfl]
theorem cutAt_miss {s c : Nat} (h : c ≠ s) {r : List Nat} {a : List Nat} {t : List (List Nat)} (e : cutAt s r = a :: t) : cutAt s (c :: r) = (c :: a) :: t := by
  conv => lhs; unfold cutAt
  rw [if_neg h, e]
theorem cutAt_free {s : Nat} : ∀ {l : List Nat}, s ∉ l → cutAt s l = [l]
  | [], _ => rfl
  | c :: r, h => cutAt_miss (fun e => h (by rw [e]; exact List.mem_cons_self)) (cutAt_free fun m => h (List.mem_cons_of_mem _ m))
theorem cutAt_app (s : Nat) (b : List Nat) : ∀ a, cutAt s (a ++ s :: b) = cutAt s a ++ cutAt s b
  | [] => cutAt_hit s b
  | c :: r => by
    have ih := cutAt_app s b r
    by_cases h : c = s
    · subst h
      rw [List.cons_append, cutAt_hit, cutAt_hit, ih, List.cons_append]
    · cases e : cutAt s r with
      | nil => exact absurd e (cutAt_ne s r)
      | cons x t =>
        rw [e, List.cons_append] at ih
        rw [List.cons_append, cutAt_miss h ih, cutAt_miss h e, List.cons_append]
theorem cutAt_mem {s : Nat} : ∀ {l p : List Nat}, p ∈ cutAt s l → s ∉ p ∧ (∀ x ∈ p, x ∈ l) ∧ p.length ≤ l.length
  | [], p, h => by
    rw [List.mem_singleton.mp h]
    exact ⟨List.not_mem_nil, fun x m => m, Nat.le_refl _⟩
  | c :: r, p, h => by
    by_cases k : c = s
    · subst k
      rw [cutAt_hit] at h
      rcases List.mem_cons.mp h with rfl | h
      · exact ⟨List.not_mem_nil, fun x m => absurd m List.not_mem_nil, Nat.zero_le _⟩
      · obtain ⟨a, b, d⟩ := cutAt_mem h
        exact ⟨a, fun x m => List.mem_cons_of_mem _ (b x m), Nat.le_succ_of_le d⟩
    · cases e : cutAt s r with
      | nil => exact absurd e (cutAt_ne s r)
      | cons x t =>
        rw [cutAt_miss k e] at h
        have at' : ∀ q ∈ x :: t, s ∉ q ∧ (∀ y ∈ q, y ∈ r) ∧ q.length ≤ r.length := fun q hq => cutAt_mem (by rw [e]; exact hq)
        rcases List.mem_cons.mp h with rfl | h
        · obtain ⟨a, b, d⟩ := at' x List.mem_cons_self
          refine ⟨fun m => ?_, fun y m => ?_, by rw [List.length_cons, List.length_cons]; omega⟩
          · rcases List.mem_cons.mp m with m | m
            · exact k m.symm
            · exact a m
          · rcases List.mem_cons.mp m with rfl | m
            · exact List.mem_cons_self
            · exact List.mem_cons_of_mem _ (b y m)
        · obtain ⟨a, b, d⟩ := at' p (List.mem_cons_of_mem _ h)
          exact ⟨a, fun y m => List.mem_cons_of_mem _ (b y m), Nat.le_succ_of_le d⟩
theorem cutAt_len (s : Nat) : ∀ l : List Nat, (cutAt s l).length ≤ l.length + 1
  | [] => Nat.le_refl _
  | c :: r => by
    have ih := cutAt_len s r
    by_cases k : c = s
    · subst k
      rw [cutAt_hit, List.length_cons, List.length_cons]
      omega
    · cases e : cutAt s r with
      | nil => exact absurd e (cutAt_ne s r)
      | cons x t =>
        rw [e, List.length_cons] at ih
        rw [cutAt_miss k e, List.length_cons, List.length_cons]
        omega
theorem cutAt_join (s : Nat) : ∀ {ps : List (List Nat)}, ps ≠ [] → (∀ p ∈ ps, s ∉ p) → cutAt s (TL.joinL [s] ps) = ps
  | [], h, _ => absurd rfl h
  | [p], _, h => cutAt_free (h p List.mem_cons_self)
  | p :: q :: r, _, h => by
    show cutAt s (p ++ ([s] ++ TL.joinL [s] (q :: r))) = _
    rw [show p ++ ([s] ++ TL.joinL [s] (q :: r)) = p ++ s :: TL.joinL [s] (q :: r) from rfl, cutAt_app, cutAt_free (h p List.mem_cons_self), cutAt_join s (List.cons_ne_nil _ _) fun x hx => h x (List.mem_cons_of_mem _ hx)]
    rfl
theorem spl_cut (s : Nat) : ∀ (l acc : List Nat) {x : List Nat} {t : List (List Nat)}, cutAt s l = x :: t → TL.spl [s] 0 acc l = (acc ++ x) :: t
  | [], acc, x, t, e => by
    cases e
    rw [TL.spl_nil, List.append_nil]
  | c :: r, acc, x, t, e => by
    have hp : TL.pre [s] (c :: r) = decide (c = s) := by
      show ([c] == [s]) = _
      by_cases k : c = s
      · subst k; simp
      · simp [k]
    by_cases k : c = s
    · subst k
      rw [cutAt_hit] at e
      cases e
      rw [TL.spl_hit (by rw [hp]; exact decide_eq_true rfl), List.append_nil]
      cases e2 : cutAt c r with
      | nil => exact absurd e2 (cutAt_ne c r)
      | cons y u => 
        have := spl_cut c r [] e2
        rw [show [c].length - 1 = 0 from rfl, this, List.nil_append]
    · cases e2 : cutAt s r with
      | nil => exact absurd e2 (cutAt_ne s r)
      | cons y u =>
        rw [cutAt_miss k e2] at e
        cases e
        rw [TL.spl_miss (by rw [hp]; exact decide_eq_false k), spl_cut s r _ e2, List.append_assoc]
        rfl
/-- the pieces of a text between the signs s -/
def mkS (l : List Nat) : Str := ⟨l.toArray⟩
theorem mkS_list (l : List Nat) : (mkS l).cps.toList = l := rfl
theorem mkS_of (z : Str) : mkS z.cps.toList = z := TL.mk_tl z
def piecesT (s : Nat) (z : Str) : List Str := (cutAt s z.cps.toList).map mkS
theorem map_tl {l : List Str} {m : List (List Nat)} (h : l.map TL.tl = m) : l = m.map mkS := by
  subst h
  rw [List.map_map]
  conv => lhs; rw [← List.map_id l]
  exact List.map_congr_left fun z _ => (mkS_of z).symm
theorem split_pieces {z y : Str} {s : Nat} (hy : y.cps.toList = [s]) (hk : y.cps.all (· < 256) = true) : Txt.split z y = piecesT s z := by
  have h := TL.split_spl z y (by show y.cps.toList ≠ []; rw [hy]; exact List.cons_ne_nil _ _) (by
    have : Builtin.Str.strKind y = 1 := by
      unfold Builtin.Str.strKind
      rw [if_pos hk]
    rw [this]
    unfold Builtin.Str.strKind
    split
    · decide
    · split <;> decide)
  have e : TL.tl y = [s] := hy
  rw [e] at h
  cases k : cutAt s z.cps.toList with
  | nil => exact absurd k (cutAt_ne s _)
  | cons x t =>
    have h2 : TL.spl [s] 0 [] (TL.tl z) = x :: t := spl_cut s _ [] k
    rw [h2] at h
    rw [map_tl h]
    unfold piecesT
    rw [k]
theorem sp_list : (" " : Str).cps.toList = [32] := by decide +kernel
theorem nl_list : ("\n" : Str).cps.toList = [10] := by decide +kernel
theorem split_sp (z : Str) : Txt.split z " " = piecesT 32 z := split_pieces sp_list (by decide +kernel)
theorem split_nl (z : Str) : Txt.split z "\n" = piecesT 10 z := split_pieces nl_list (by decide +kernel)
theorem len_list (z : Str) : z.length = z.cps.toList.length := by
  show z.cps.size = _
  rw [Array.length_toList]
theorem pieces_len (s : Nat) (z : Str) : (piecesT s z).length ≤ z.length + 1 := by
  unfold piecesT
  rw [List.length_map, len_list]
  exact cutAt_len s _
theorem pieces_mem {s : Nat} {z p : Str} (h : p ∈ piecesT s z) : s ∉ p.cps.toList ∧ (∀ x ∈ p.cps.toList, x ∈ z.cps.toList) ∧ p.length ≤ z.length := by
  obtain ⟨l, hl, rfl⟩ := List.mem_map.mp h
  have := cutAt_mem hl
  rw [len_list, len_list]
  exact this
theorem pieces_app {s : Nat} {a b y : Str} (hy : y.cps.toList = [s]) : piecesT s (a ++ y ++ b) = piecesT s a ++ piecesT s b := by
  unfold piecesT
  rw [app_list, app_list, hy, List.append_assoc]
  show (cutAt s (a.cps.toList ++ s :: b.cps.toList)).map mkS = _
  rw [cutAt_app, List.map_append]
theorem pieces_free {s : Nat} {z : Str} (h : s ∉ z.cps.toList) : piecesT s z = [z] := by
  unfold piecesT
  rw [cutAt_free h]
  show [mkS z.cps.toList] = [z]
  rw [mkS_of]
theorem join_list (y : Str) (ps : List Str) : (Txt.join y ps).cps.toList = TL.joinL y.cps.toList (ps.map fun p => p.cps.toList) := by
  rw [TL.join_eq]
  exact TL.tl_join y ps
theorem pieces_join {s : Nat} {y : Str} {ps : List Str} (hy : y.cps.toList = [s]) (h : ps ≠ []) (hp : ∀ p ∈ ps, s ∉ p.cps.toList) : piecesT s (Txt.join y ps) = ps := by
  unfold piecesT
  rw [join_list, hy, cutAt_join s (fun e => h (List.map_eq_nil_iff.mp e)) (fun p hp' => by
    obtain ⟨q, hq, rfl⟩ := List.mem_map.mp hp'
    exact hp q hq), List.map_map]
  conv => rhs; rw [← List.map_id ps]
  exact List.map_congr_left fun z _ => mkS_of z
/-! joined texts -/
theorem joinL_mem (S : List Nat) (x : Nat) : ∀ parts : List (List Nat), x ∈ TL.joinL S parts → x ∈ S ∨ ∃ p ∈ parts, x ∈ p
  | [], h => by cases h
  | [p], h => .inr ⟨p, List.mem_cons_self, h⟩
  | p :: q :: r, h => by
    have h : x ∈ p ++ (S ++ TL.joinL S (q :: r)) := h
    rcases List.mem_append.mp h with h | h
    · exact .inr ⟨p, List.mem_cons_self, h⟩
    · rcases List.mem_append.mp h with h | h
      · exact .inl h
      · exact (joinL_mem S x (q :: r) h).imp id fun ⟨z, hz, k⟩ => ⟨z, List.mem_cons_of_mem _ hz, k⟩
theorem joinL_len (S : List Nat) : ∀ parts : List (List Nat), (TL.joinL S parts).length ≤ (parts.map (·.length)).sum + parts.length * S.length
  | [] => Nat.zero_le _
  | [p] => by
    show p.length ≤ p.length + 0 + 1 * S.length
    omega
  | p :: q :: r => by
    have ih := joinL_len S (q :: r)
    show (p ++ (S ++ TL.joinL S (q :: r))).length ≤ _
    rw [List.length_append, List.length_append, List.map_cons, List.sum_cons, List.length_cons (a := p), Nat.add_mul]
    omega
theorem join_mem {y : Str} {ps : List Str} {x : Nat} (h : x ∈ (Txt.join y ps).cps.toList) : x ∈ y.cps.toList ∨ ∃ p ∈ ps, x ∈ p.cps.toList := by
  rw [join_list] at h
  refine (joinL_mem _ x _ h).imp id fun ⟨z, hz, k⟩ => ?_
  obtain ⟨p, hp, rfl⟩ := List.mem_map.mp hz
  exact ⟨p, hp, k⟩
theorem sum_le {l : List Str} {m : Nat} (h : ∀ z ∈ l, z.length ≤ m) : (l.map (·.length)).sum ≤ l.length * m := by
  induction l with
  | nil => exact Nat.zero_le _
  | cons a r ih =>
    rw [List.map_cons, List.sum_cons, List.length_cons, Nat.add_mul, Nat.one_mul, Nat.add_comm]
    exact Nat.add_le_add (ih fun z hz => h z (List.mem_cons_of_mem _ hz)) (h a List.mem_cons_self)
theorem join_len (y : Str) (ps : List Str) {m : Nat} (h : ∀ p ∈ ps, p.length ≤ m) : (Txt.join y ps).length ≤ ps.length * (m + y.length) := by
  have h1 := joinL_len y.cps.toList (ps.map fun p => p.cps.toList)
  have h2 : ((ps.map fun p => p.cps.toList).map (·.length)).sum = (ps.map (·.length)).sum := by
    rw [List.map_map]
    refine congrArg List.sum (List.map_congr_left fun z _ => ?_)
    exact (len_list z).symm
  have h3 := sum_le h
  rw [len_list, join_list]
  rw [h2, List.length_map, ← len_list] at h1
  rw [Nat.mul_add]
  omega
theorem join_fit {a : Str} {l : List Str} {m n : Nat} (h : ∀ z ∈ l, z.length ≤ m) (hl : l.length ≤ n) (ha : a.length ≤ 1) (hk : n * m + n ≤ 16777216) : (l.map (·.length)).sum + l.length * a.length ≤ 16777216 := by
  have h1 := sum_le h
  have h2 : l.length * m ≤ n * m := Nat.mul_le_mul hl (Nat.le_refl _)
  have h3 : l.length * a.length ≤ n * 1 := Nat.mul_le_mul hl ha
  omega
theorem join_cons (y p : Str) {r : List Str} (h : r ≠ []) : Txt.join y (p :: r) = p ++ y ++ Txt.join y r := by
  cases r with
  | nil => exact absurd rfl h
  | cons q r => rw [TL.join_eq, TL.join_eq]; rfl
theorem app_assoc (a b c : Str) : a ++ b ++ c = a ++ (b ++ c) := TL.ext_tl (by rw [TL.tl_append, TL.tl_append, TL.tl_append, TL.tl_append, List.append_assoc])
theorem take_one {α : Type} {ps : List α} {i : Nat} (hi : i < ps.length) (z : α) : ps.take (i + 1) = ps.take i ++ [ps.getD i z] := by
  rw [List.take_succ, List.getElem?_eq_getElem hi, List.getD_eq_getElem?_getD, List.getElem?_eq_getElem hi]
  rfl
theorem bS_len (ys : List Str) : (bS ys).length = ys.length := List.length_map _
theorem cut_tail {α : Type} {f : α → D} (x : α) (l : List α) : cutDs ((x :: l).map f) (some 1) none = l.map f := by
  unfold cutDs
  have e1 : HT.sIx ((x :: l).map f).length 0 (some 1) = 1 := by
    show HT.sIx ((x :: l).map f).length 0 (some ((1 : Nat) : Int)) = 1
    rw [HT.sIx_nat, List.length_map, List.length_cons]
    omega
  rw [e1, HT.sIx_none, List.map_cons, List.length_cons, List.drop_succ_cons, List.drop_zero, List.length_map]
  exact List.take_of_length_le (by rw [List.length_map]; omega)
/-- z without its last sign -/
def initS (z : Str) : Str := cutS z none (some (-1))
theorem cut_lastI (z : Str) (i : Int) (h : i = (z.length : Int) - 1) : cutS z none (some i) = initS z := by
  subst h
  unfold initS cutS
  rw [HT.sIx_none]
  cases e : z.length with
  | zero => rfl
  | succ n =>
    have e1 : HT.sIx (n + 1) (n + 1) (some (((n + 1 : Nat) : Int) - 1)) = n := by
      rw [show (((n + 1 : Nat) : Int) - 1) = ((n : Nat) : Int) by omega, HT.sIx_nat]
      omega
    have e2 : HT.sIx (n + 1) (n + 1) (some (-1)) = n := by
      show (if (-1 : Int) < 0 then ((-1 : Int) + ((n + 1 : Nat) : Int)).toNat else min (-1 : Int).toNat (n + 1)) = n
      rw [if_pos (by decide)]
      omega
    rw [e1, e2]
theorem colon_list : (":" : Str).cps.toList = [58] := by decide +kernel
theorem ends_colon (z : Str) : Txt.endswith (z ++ ":") ":" = true := by
  have e2 : (":" : Str).length = 1 := by decide +kernel
  unfold Txt.endswith
  rw [PySem.StrLaws.subAt_eq, len_app, e2, colon_list, app_list, colon_list, len_list z]
  rw [Nat.add_sub_cancel, List.drop_left]
  simp
theorem init_colon (z : Str) : initS (z ++ ":") = z := by
  have e2 : (":" : Str).length = 1 := by decide +kernel
  unfold initS cutS
  rw [app_list, colon_list, len_app, e2, HT.sIx_none]
  have e3 : HT.sIx (z.length + 1) (z.length + 1) (some (-1)) = z.length := by
    show (if (-1 : Int) < 0 then ((-1 : Int) + ((z.length + 1 : Nat) : Int)).toNat else min (-1 : Int).toNat (z.length + 1)) = z.length
    rw [if_pos (by decide)]
    omega
  rw [e3, Nat.sub_zero, List.drop_zero, len_list z, List.take_left]
theorem init_len (z : Str) : (initS z).length ≤ z.length := by
  unfold initS cutS
  rw [len_list, len_list]
  show (List.take _ (List.drop _ _)).length ≤ _
  rw [List.length_take, List.length_drop]
  omega
section
variable {K : PySem.W.Frag} {ρ : List Sl} {ta tb : TE}
theorem ev_joinT {a : Str} {ys : List Str} (h1 : EV K ta ρ (.str a)) (h2 : EV K tb ρ (.tuple (ys.map PyData.str))) (hz : (ys.map (·.length)).sum + ys.length * a.length ≤ 16777216) : EV K (tM1 (rJoinU K) ta tb) ρ (.str (Txt.join a ys)) := fun G0 H0 G H σ Q E q =>
  h1 G0 H0 G H σ _ E fun v G1 H1 e1 hv => by
    cases hv
    refine ⟨⟨a, rfl⟩, h2 G0 H0 G1 H1 σ _ (E.go e1) fun u G2 H2 e2 hu => ?_⟩
    cases hu with
    | @tup p xs _ ha hr =>
      have e := map_str_dq hr
      subst e
      exact ⟨a, p, ys, rfl, rfl, .inr (e2.gh.t ha), hz, q _ G2 H2 (e1.trans e2) (.str _)⟩
theorem first_at {n : Nat} {w : Str} {ws : List Str} (h : ρ[n]? = some (.fr (.list ((w :: ws).map PyData.str)))) : EV K (tOp (rIx K) (tVar n) (tC (.int 0))) ρ (.str w) :=
  ev_op (ev_var h) ev_int (od_ixL (atI_strs (ys := w :: ws) (i := 0) (by decide) (by rw [List.length_cons]; omega)))
theorem rest_at {n : Nat} {w : Str} {ws : List Str} (h : ρ[n]? = some (.fr (.list ((w :: ws).map PyData.str)))) : EV K (tSl (rSlU K) (tVar n) (tPart (tC (.int 1))) tNoPart) ρ (.list (ws.map PyData.str)) :=
  ev_N (en_is (en_slL (ev_var h) (eo_some ev_int) eo_none) (congrArg PyData.list (cut_tail w ws)))
theorem head_init {n : Nat} {z : Str} {ws : List Str} (hz : z.length ≤ 100000) (h : ρ[n]? = some (.fr (.list ((z :: ws).map PyData.str)))) : EV K (tSl (rSlU K) (tOp (rIx K) (tVar n) (tC (.int 0))) tNoPart (tPart (tUn (rU fun i => .int (-i)) (tC (.int 1))))) ρ (.str (initS z)) :=
  ev_slS (first_at h) (by rw [sizeLine_eq]; omega) eo_none (eo_some (ev_neg ev_int))
theorem ei_firsts {z : Str} {zs : List Str} {a b : TE} (h1 : EV K a ρ (.str z)) (h2 : EV K b ρ (.list (zs.map PyData.str))) (hl : zs.length ≤ 100000) : EI K (iSeqU K (tOp (rAddU K) (tLst (tCons a tNil)) b)) ρ (z :: zs).length (fun i => .str ((z :: zs).getD i Str.empty)) :=
  ei_listS (zs := z :: zs) (ev_N (en_op (ev_N (en_lst (ea_cons h1 ea_nil) (by show 1 ≤ sizeLine; rw [sizeLine_eq]; decide))) h2 (on_addL (by rw [List.length_map, sizeLine_eq]; show 1 + zs.length ≤ _; omega))))
end
end DL
namespace K05
open PySem L2 DL
abbrev sL : Str := "abcdefghijklmnopqrstuvwxyz"
abbrev sF : Str := "0123456789"
def goodL : List Nat → Prop
  | [] => False
  | c :: r => c ∈ sL.cps.toList ∧ ∀ x ∈ r, x ∈ sL.cps.toList ∨ x ∈ sF.cps.toList
def goodS (z : Str) : Prop := goodL z.cps.toList
def NameP (z : Str) : Prop := goodS z ∧ z.length ≤ 8
def schD (rs : List Str) (ps : List (Str × Str)) : D := .tuple [.tuple (rs.map PyData.str), .tuple (ps.map pqD)]
def ordQ (p : Str × Str) : Str × Str := if ltS p.1 p.2 = true then p else (p.2, p.1)
def mkD (rs : List Str) (ts : List (Str × Str)) : D := schD (srt ltS (dd rs)) (srt ltQ (dd (ts.map ordQ)))
def stepP (qs : List (Str × Str)) (t : Str × Str) : List (Str × Str) := if t.1 = t.2 then qs else addP qs (if ltS t.1 t.2 = true then t else (t.2, t.1))
def pairsOf (ts : List (Str × Str)) : List (Str × Str) := ts.foldl stepP []
def lawD (rs : List Str) (ts : List (Str × Str)) : D := schD (srt ltS rs) (srt ltQ (pairsOf ts))
/-! names -/
def badAt (z : Str) (i : Nat) : Bool := !decide (z.cps.getD i 0 ∈ sL.cps.toList) && (decide ((i : Int) = 0) || !decide (z.cps.getD i 0 ∈ sF.cps.toList))
def lenOk (z : Str) : Bool := decide (1 ≤ (z.length : Int)) && decide ((z.length : Int) ≤ 8)
def optD : Option Nat → D
  | none => .none
  | some i => .int (i : Nat)
def nfS (z : Str) : D := if lenOk z = true then optD (firstP (badAt z) z.cps.size) else .int (-1)
def nameB (z : Str) : Bool := isNoneD (nfS z)
def sideB (z : Str) : Bool := decide (z ∈ sides4)
def optS : Option Str → D
  | none => .none
  | some w => .str w
def sp_is_side (K : PySem.W.Frag) : Sp := PF K fun ds d => ∃ z : Str, ds = [.str z] ∧ d = .bool (sideB z)
def sp_name_fault (K : PySem.W.Frag) : Sp := PF K fun ds d => ∃ z : Str, ds = [.str z] ∧ z.length ≤ 100000 ∧ d = nfS z
def sp_is_name (K : PySem.W.Frag) : Sp := PF K fun ds d => ∃ z : Str, ds = [.str z] ∧ z.length ≤ 100000 ∧ d = .bool (nameB z)
def sp_ordered_pair (K : PySem.W.Frag) : Sp := PF K fun ds d => ∃ a b : Str, ds = [.str a, .str b] ∧ d = pqD (ordQ (a, b))
def sp_make_scheme (K : PySem.W.Frag) : Sp := PF K fun ds d => ∃ (rs : List Str) (ts : List (Str × Str)), ds = [.tuple (rs.map PyData.str), .tuple (ts.map pqD)] ∧ rs.length ≤ 1000 ∧ ts.length ≤ 15000000 ∧ (dd (ts.map ordQ)).length ≤ 300 ∧ d = mkD rs ts
/-! lines and words -/
def linesT (z : Str) : List Str := if z = "" then [] else piecesT 10 z
def wordsT (z : Str) : List Str := (piecesT 32 z).filter fun w => !decide (w = "")
def passW (ws : List Str) : Bool := ws.isEmpty || Txt.startswith (ws.getD 0 Str.empty) "#"
/-- the lines that are not passed over, with their numbers -/
def toldL : Nat → List Str → List (Nat × List Str)
  | _, [] => []
  | k, l :: r => if passW (wordsT l) = true then toldL (k + 1) r else (k + 1, wordsT l) :: toldL (k + 1) r
def linD (p : Nat × List Str) : D := .tuple [.int (p.1 : Nat), .list (p.2.map PyData.str)]
def sp_text_lines (K : PySem.W.Frag) : Sp := PF K fun ds d => ∃ z : Str, ds = [.str z] ∧ z.length ≤ 10000000 ∧ d = .list ((linesT z).map PyData.str)
def sp_words_of (K : PySem.W.Frag) : Sp := PF K fun ds d => ∃ z : Str, ds = [.str z] ∧ z.length ≤ 10000000 ∧ d = .list ((wordsT z).map PyData.str)
def sp_passed_over (K : PySem.W.Frag) : Sp := PF K fun ds d => ∃ z : Str, ds = [.str z] ∧ z.length ≤ 10000000 ∧ d = .bool (passW (wordsT z))
def sp_told_lines (K : PySem.W.Frag) : Sp := PF K fun ds d => ∃ z : Str, ds = [.str z] ∧ z.length ≤ 10000000 ∧ d = .list ((toldL 0 (linesT z)).map linD)
def sp_line_behind (K : PySem.W.Frag) : Sp := PF K fun ds d => ∃ z : Str, ds = [.str z] ∧ z.length ≤ 10000000 ∧ d = .int (((linesT z).length : Nat) + 1)
/-! reading -/
def roomsF (ws rooms : List Str) : Option Str :=
  if (ws.any fun w => !nameB w) = true then some "name" else if ¬ ((rooms ++ ws).Nodup) then some "twice" else if rooms.length + ws.length > 40 then some "limit" else none
def touchF (z : Str) (zs rooms : List Str) : Option Str :=
  if ((z :: zs).any fun y => !sideB y && !nameB y) = true then some "name" else
  if ((z :: zs).any fun y => !sideB y && !decide (y ∈ rooms)) = true then some "unknown" else
  if (sideB z && zs.any sideB) = true then some "sides" else if z ∈ zs then some "self" else none
def lineF (ws rooms : List Str) (b : Bool) : Option Str :=
  let w := ws.getD 0 Str.empty
  if (decide (ws.length = 1) || !(decide (w = "rooms") || Txt.endswith w ":")) = true then some "words" else
  if (decide (w = "rooms") && b || !decide (w = "rooms") && decide (rooms.length = 0)) = true then some "place" else
  if w = "rooms" then roomsF ws.tail rooms else touchF (initS w) ws.tail rooms
inductive RT where
  | bad (line : Int) (word : Str)
  | ok (rs : List Str) (ts : List (Str × Str))
/-- the touches of a line -/
def tchW (ws : List Str) : List (Str × Str) := ws.tail.map fun y => (initS (ws.getD 0 Str.empty), y)
def readL (e : Int) : List (Nat × List Str) → List Str → List (Str × Str) → RT
  | [], rs, ts => if rs = [] then .bad e "place" else .ok rs ts
  | (k, ws) :: r, rs, ts => match lineF ws rs (!ts.isEmpty) with
    | some w => .bad k w
    | none => if ws.getD 0 Str.empty = "rooms" then readL e r (rs ++ ws.tail) ts else readL e r rs (ts ++ tchW ws)
def readT (z : Str) : RT := readL (((linesT z).length : Nat) + 1) (toldL 0 (linesT z)) [] []
/-- texts that the walks are for -/
structure TP (z : Str) : Prop where
  len : z.length ≤ 10000000
  many : (linesT z).length ≤ 3000
  words : ∀ l ∈ linesT z, l.length ≤ 4000
  few : ∀ rs ts, readT z = .ok rs ts → (dd (ts.map ordQ)).length ≤ 300
def sp_scheme_rooms_fault (K : PySem.W.Frag) : Sp := PF K fun ds d => ∃ ws rs : List Str, ds = [.list (ws.map PyData.str), dkD (bS rs)] ∧ rs.Nodup ∧ rs.length ≤ 40 ∧ ws.length ≤ 4001 ∧ (∀ w ∈ ws, w.length ≤ 4000) ∧ d = optS (roomsF ws rs)
def sp_scheme_touch_fault (K : PySem.W.Frag) : Sp := PF K fun ds d => ∃ (z : Str) (ws rs : List Str), ds = [.str z, .list (ws.map PyData.str), dkD (bS rs)] ∧ ws.length ≤ 4001 ∧ (∀ w ∈ z :: ws, w.length ≤ 4000) ∧ d = optS (touchF z ws rs)
def sp_scheme_line_fault (K : PySem.W.Frag) : Sp := PF K fun ds d => ∃ (ws rs : List Str) (b : Bool), ds = [.list (ws.map PyData.str), dkD (bS rs), .bool b] ∧ rs.Nodup ∧ rs.length ≤ 40 ∧ 1 ≤ ws.length ∧ ws.length ≤ 4001 ∧ (∀ w ∈ ws, w.length ≤ 4000) ∧ d = optS (lineF ws rs b)
def sp_read_scheme (K : PySem.W.Frag) : Sp := PX K (fun ds d => ∃ z : Str, ds = [.str z] ∧ TP z ∧ ∃ rs ts, readT z = .ok rs ts ∧ d = mkD rs ts)
  (fun ds C fl => ∃ z : Str, ds = [.str z] ∧ TP z ∧ ∃ l w, readT z = .bad l w ∧ C = He.ga K "BadText" ∧ fl = [(("word" : Str), PyData.str w), (("line" : Str), PyData.int l)])
/-- a scheme as the law makes them -/
structure WS (rs : List Str) (ps : List (Str × Str)) : Prop where
  some : 1 ≤ rs.length
  many : rs.length ≤ 40
  good : ∀ z ∈ rs, NameP z
  up : rs.Pairwise fun a b => ltS a b = true
  nd : ps.Nodup
  upq : ps.Pairwise fun a b => ltQ a b = true
  lt : ∀ p ∈ ps, ltS p.1 p.2 = true
  one : ∀ p ∈ ps, p.1 ∈ rs ++ sides4 ∧ p.2 ∈ rs
  few : ps.length ≤ 110
/-- the firsts of the pairs whose second is z -/
def below (ps : List (Str × Str)) (z : Str) : List Str := (ps.filter fun p => decide (p.2 = z)).map (·.1)
def lineT (ws : List Str) : Str := Txt.join " " ws
def textT (wss : List (List Str)) : Str := Txt.join "\n" (wss.map lineT)
def schL (rs : List Str) (ps : List (Str × Str)) : List (List Str) := ((("rooms" : Str)) :: rs) :: (rs.filter fun z => !(below ps z).isEmpty).map fun z => (z ++ (":" : Str)) :: below ps z
def sp_scheme_text (K : PySem.W.Frag) : Sp := PF K fun ds d => ∃ rs ps, ds = [schD rs ps] ∧ WS rs ps ∧ d = .str (textT (schL rs ps))
/-! the law's own defs -/
def sp_u_law_pool (K : PySem.W.Frag) : Sp := PQ K (fun ds => ∃ (ns : List Int) (m : Int), ds = [.dict [(.none, .list (ns.map PyData.int))], .int m] ∧ ns.length ≤ 63 ∧ 0 ≤ m ∧ m ≤ 100000)
  (fun ds d => ∃ (m : Int) (c : D) (ps : List Int), ds = [c, .int m] ∧ d = .list (ps.map PyData.int) ∧ (ps.length : Int) = m)
def tailS (z : Str) (q : Int) : Nat → Str
  | 0 => z
  | n + 1 => tailS z q n ++ chS "0rbz9eno" ((q / 20 + 3 * (n : Nat)) % 8)
def nameAt (ps : List Int) (b : Int) (k : Nat) (ns : List Str) : Str :=
  let p := pI ps (b + (k : Nat))
  let z := chS "abcdefghijklmnoprstuvwxyz" (p % 25)
  let q := p / 25
  let z := if (decide (q % 5 = 0) && decide ((k : Int) > 0)) = true then ns.getD (k - 1) Str.empty else z
  let z := tailS z q (q / 5 % 4).toNat
  let z := if decide (q % 11 = 7) = true then ("rooms" : Str) else z
  if (decide ((z.length : Int) > 8) || inD (.str z) (ns.map PyData.str)) = true then "q" ++ strI (1000 + (k : Nat)) else z
def namesK (ps : List Int) (b : Int) : Nat → List Str
  | 0 => []
  | n + 1 => namesK ps b n ++ [nameAt ps b n (namesK ps b n)]
def sp_u_law_names (K : PySem.W.Frag) : Sp := PF K fun ds d => ∃ (ps : List Int) (b m : Int), ds = [.list (ps.map PyData.int), .int b, .int m] ∧ 0 ≤ b ∧ 0 ≤ m ∧ m ≤ 41 ∧ b + m ≤ ps.length ∧ d = .list ((namesK ps b m.toNat).map PyData.str)
structure Rooms (rs : List Str) : Prop where
  nd : rs.Nodup
  good : ∀ z ∈ rs, NameP z
  some : 1 ≤ rs.length
  many : rs.length ≤ 40
def sp_u_law_scheme (K : PySem.W.Frag) : Sp := PF K fun ds d => ∃ (rs : List Str) (ts : List (Str × Str)), ds = [.list (rs.map PyData.str), .list (ts.map pqD)] ∧ rs.length ≤ 60 ∧ ts.length ≤ 15000000 ∧ d = lawD rs ts
def sp_u_law_drawn (K : PySem.W.Frag) : Sp := PQ K (fun ds => ∃ (rs : List Str) (ps : List Int) (b m : Int), ds = [.list (rs.map PyData.str), .list (ps.map PyData.int), .int b, .int m] ∧ Rooms rs ∧ 0 ≤ b ∧ 0 ≤ m ∧ m ≤ 60 ∧ b + m ≤ ps.length)
  (fun ds d => ∃ (rs : List Str) (t : List D) (qs : List (Str × Str)), ds = .list (rs.map PyData.str) :: t ∧ d = schD (srt ltS rs) qs ∧ WS (srt ltS rs) qs ∧ qs.length ≤ 60)
def sp_u_law_text (K : PySem.W.Frag) : Sp := PF K fun ds d => ∃ rs ps, ds = [schD rs ps] ∧ WS rs ps ∧ d = .str (textT (schL rs ps))
def spcS (n : Int) : Str := repS " " n
def spT (ws : List Str) (p : Int) : Str := spcS (p / 7 % 9 / 7) ++ Txt.join (spcS (1 + p % 7 / 5)) ws ++ spcS (p / 63 % 9 / 7)
def sp_u_law_spaced (K : PySem.W.Frag) : Sp := PF K fun ds d => ∃ (ws : List Str) (p : Int), ds = [.list (ws.map PyData.str), .int p] ∧ ws.length ≤ 1000 ∧ (∀ w ∈ ws, w.length ≤ 9) ∧ d = .str (spT ws p)
/-- the told words of these lines -/
def toldW (ls : List Str) : List (List Str) := (ls.map wordsT).filter fun ws => !passW ws
/-- lines that tell the scheme -/
structure Tells (rs : List Str) (ps : List (Str × Str)) (ls : List Str) : Prop where
  told : ∃ (cs : List (List Str)) (rows : List (Str × List Str)), toldW ls = cs.map (fun c => ("rooms" : Str) :: c) ++ rows.map (fun r => (r.1 ++ (":" : Str)) :: r.2) ∧ cs.flatten = rs ∧ (∀ c ∈ cs, c ≠ []) ∧
    (∀ r ∈ rows, r.2 ≠ [] ∧ ∀ y ∈ r.2, ordQ (r.1, y) ∈ ps ∧ r.1 ≠ y) ∧ ∀ p ∈ ps, ∃ r ∈ rows, ∃ y ∈ r.2, ordQ (r.1, y) = p
  line : ∀ l ∈ ls, 10 ∉ l.cps.toList ∧ l.length ≤ 4000
  many : ls.length ≤ 2500
def sp_u_law_written (K : PySem.W.Frag) : Sp := PQ K (fun ds => ∃ (rs : List Str) (qs : List (Str × Str)) (ps : List Int) (b : Int), ds = [schD (srt ltS rs) qs, .list (rs.map PyData.str), .list (ps.map PyData.int), .int b] ∧ Rooms rs ∧ WS (srt ltS rs) qs ∧ qs.length ≤ 100 ∧ 0 ≤ b ∧ b + 70 ≤ ps.length)
  (fun ds d => ∃ (rs : List Str) (qs : List (Str × Str)) (t : List D) (ls : List Str), ds = schD (srt ltS rs) qs :: .list (rs.map PyData.str) :: t ∧ d = .list (ls.map PyData.str) ∧ ls.length ≤ 700 ∧ Tells rs qs ls)
def sp_u_law_bare (K : PySem.W.Frag) : Sp := PF K fun ds d => ∃ z : Str, ds = [.str z] ∧ z.length ≤ 100000 ∧ d = .bool (nameB z)
def wordO (o : Option Str) : Str := o.getD ""
def sp_u_law_rooms_word (K : PySem.W.Frag) : Sp := PF K fun ds d => ∃ (ws rs : List Str) (b : Bool), ds = [.list (ws.map PyData.str), .list (rs.map PyData.str), .bool b] ∧ ws.getD 0 Str.empty = "rooms" ∧ rs.Nodup ∧ rs.length ≤ 40 ∧ 1 ≤ ws.length ∧ ws.length ≤ 4001 ∧ (∀ w ∈ ws, w.length ≤ 4000) ∧ d = .str (wordO (lineF ws rs b))
def sp_u_law_touch_word (K : PySem.W.Frag) : Sp := PF K fun ds d => ∃ (ws rs : List Str) (b : Bool), ds = [.list (ws.map PyData.str), .list (rs.map PyData.str)] ∧ ws.getD 0 Str.empty ≠ "rooms" ∧ 1 ≤ ws.length ∧ ws.length ≤ 4001 ∧ (∀ w ∈ ws, w.length ≤ 4000) ∧ d = .str (wordO (lineF ws rs b))
def resD : RT → D
  | .bad l w => .list [.bool true, .int l, .str w]
  | .ok rs ts => .list [.bool false, lawD rs ts]
def sp_u_law_read (K : PySem.W.Frag) : Sp := PF K fun ds d => ∃ z : Str, ds = [.str z] ∧ TP z ∧ d = resD (readT z)
def strT : Nat → D → Prop
  | 0, d => ∃ z, d = .str z
  | n + 1, d => (∃ z, d = .str z) ∨ ∃ ds, d = .tuple ds ∧ ds.length ≤ 1000 ∧ ∀ x ∈ ds, strT n x
def sp_same (n : Nat) (K : PySem.W.Frag) : Sp := PF K fun ds d => ∃ xs : List D, ds = [.tuple xs, .tuple xs] ∧ xs.length ≤ 1000 ∧ (∀ x ∈ xs, strT n x) ∧ d = .bool true
def sp_u_law_same (K : PySem.W.Frag) : Sp := sp_same 3 K
def sp_u_law_right (K : PySem.W.Frag) : Sp := PF K fun ds d => ∃ z : Str, ds = [.str z] ∧ TP z ∧ d = .bool true
/-- a line that may be put in -/
def LineP (l : Str) : Prop := 10 ∉ l.cps.toList ∧ l.length ≤ 60
def sp_u_law_wrong_lines (K : PySem.W.Frag) : Sp := PQ K (fun ds => ∃ (rs : List Str) (p : Int), ds = [.list (rs.map PyData.str), .int p] ∧ Rooms rs)
  (fun _ d => ∃ ls : List Str, d = .list (ls.map PyData.str) ∧ 1 ≤ ls.length ∧ ls.length ≤ 40 ∧ ∀ l ∈ ls, LineP l)
def sp_u_law_wrong_heads (K : PySem.W.Frag) : Sp := PQ K (fun ds => ∃ (rs : List Str) (p : Int), ds = [.list (rs.map PyData.str), .int p] ∧ Rooms rs)
  (fun _ d => ∃ ls : List Str, d = .list (ls.map PyData.str) ∧ 1 ≤ ls.length ∧ ls.length ≤ 40 ∧ ∀ l ∈ ls, LineP l)
def putL (ls : List Str) (n : Nat) (l : Str) : List Str := ls.take n ++ [l] ++ ls.drop n
def sp_u_law_put (K : PySem.W.Frag) : Sp := PF K fun ds d => ∃ (ls : List Str) (n : Nat) (l : Str), ds = [.list (ls.map PyData.str), .int (n : Nat), .str l] ∧ ls.length ≤ 10000 ∧ d = .list ((putL ls n l).map PyData.str)
/-- lines whose touches are few -/
structure OKL (ls : List Str) : Prop where
  line : ∀ l ∈ ls, 10 ∉ l.cps.toList ∧ l.length ≤ 4000
  many : ls.length ≤ 2500
  head : ∃ l ∈ ls, Txt.startswith (Txt.stripChars l " ") "rooms " = true
def sp_u_law_noted (K : PySem.W.Frag) : Sp := PQ K (fun ds => ∃ (ls : List Str) (ps : List Int) (b m : Int), ds = [.list (ls.map PyData.str), .list (ps.map PyData.int), .int b, .int m] ∧ ls.length ≤ 700 ∧ (∀ l ∈ ls, 10 ∉ l.cps.toList ∧ l.length ≤ 4000) ∧ 0 ≤ b ∧ b + 3 ≤ ps.length ∧ 0 ≤ m ∧ m ≤ 1400)
  (fun ds d => ∃ (ls : List Str) (t : List D) (ls2 : List Str), ds = .list (ls.map PyData.str) :: t ∧ d = .list (ls2.map PyData.str) ∧ ls2.length ≤ 2110 ∧ (∀ l ∈ ls2, 10 ∉ l.cps.toList ∧ l.length ≤ 4000) ∧ (∀ l ∈ ls, l ∈ ls2) ∧ toldW ls2 = toldW ls)
/-- the touches that lines may tell -/
def fewT (ls : List Str) (n : Nat) : Prop := ∃ ps : List (Str × Str), ps.length ≤ n ∧ ∀ ws ∈ toldW ls, ws.getD 0 Str.empty = "rooms" ∨ ∀ t ∈ tchW ws, ordQ t ∈ ps
def sp_u_law_all_right (K : PySem.W.Frag) : Sp := PF K fun ds d => ∃ (rs ls : List Str) (ps : List Int) (b f : Int), ds = [.list (rs.map PyData.str), .list (ls.map PyData.str), .list (ps.map PyData.int), .int b, .int f] ∧ Rooms rs ∧ OKL ls ∧ ls.length ≤ 2200 ∧ fewT ls 110 ∧ 0 ≤ b ∧ b + 6 ≤ ps.length ∧ 1 ≤ f ∧ d = .bool true
def sp_law (K : PySem.W.Frag) : Sp := PF K fun ds d => ∃ ns : List Int, ds = [.dict [(.none, .list (ns.map PyData.int))]] ∧ ns.length ≤ 63 ∧ d = .bool true
end K05
namespace K05
open PySem PySem.Spec PyProof.Rows L2 DL
structure Txt (K : PySem.W.Frag) (mg : Str → Option Value) : Prop where
  f_ValueError : mg "ValueError" = none
  f_bool : mg "bool" = none
  f_enumerate : mg "enumerate" = none
  f_int : mg "int" = none
  f_isinstance : mg "isinstance" = none
  f_len : mg "len" = none
  f_list : mg "list" = none
  f_max : mg "max" = none
  f_range : mg "range" = none
  f_set : mg "set" = none
  f_sorted : mg "sorted" = none
  f_str : mg "str" = none
  f_tuple : mg "tuple" = none
  g_PlanError : mg "PlanError" = some (.ref (He.ga K "PlanError"))
  g_DataError : mg "DataError" = some (.ref (He.ga K "DataError"))
  g_TextError : mg "TextError" = some (.ref (He.ga K "TextError"))
  g_BadScheme : mg "BadScheme" = some (.ref (He.ga K "BadScheme"))
  g_BadText : mg "BadText" = some (.ref (He.ga K "BadText"))
  g_BadCommand : mg "BadCommand" = some (.ref (He.ga K "BadCommand"))
  c_NAME_MOST : ∃ t, mg "NAME_MOST" = some (.int 8 t)
  c_ROOMS_MOST : ∃ t, mg "ROOMS_MOST" = some (.int 40 t)
  g_SIDES : mg "SIDES" = some (.ref (He.ga K "SIDES"))
  t_SIDES : ∀ H : Hp, SqT K H (He.ga K "SIDES") [.str "E", .str "N", .str "W", .str "S"]
  c_LETTERS : ∃ t, mg "LETTERS" = some (.str "abcdefghijklmnopqrstuvwxyz" t)
  c_FIGURES : ∃ t, mg "FIGURES" = some (.str "0123456789" t)
  n_BadScheme_at : PySem.W.findIn K (.ref (He.ga K "BadScheme")) "at" = some none
  n_BadScheme_word : PySem.W.findIn K (.ref (He.ga K "BadScheme")) "word" = some none
  n_BadText_line : PySem.W.findIn K (.ref (He.ga K "BadText")) "line" = some none
  n_BadText_word : PySem.W.findIn K (.ref (He.ga K "BadText")) "word" = some none
  n_BadCommand_line : PySem.W.findIn K (.ref (He.ga K "BadCommand")) "line" = some none
  x_PlanError : ExF K (He.ga K "PlanError")
  x_DataError : ExF K (He.ga K "DataError")
  x_TextError : ExF K (He.ga K "TextError")
  x_BadScheme : ExF K (He.ga K "BadScheme")
  x_BadText : ExF K (He.ga K "BadText")
  x_BadCommand : ExF K (He.ga K "BadCommand")
  i_BadScheme : PySem.W.findIn K (.ref (He.ga K "BadScheme")) "__init__" = some (some (.ref (He.ma K (He.ga K "BadScheme") "__init__"))) ∧ PySem.W.typeIn K (.ref (He.ma K (He.ga K "BadScheme") "__init__")) = some (.type "function")
  i_BadText : PySem.W.findIn K (.ref (He.ga K "BadText")) "__init__" = some (some (.ref (He.ma K (He.ga K "BadText") "__init__"))) ∧ PySem.W.typeIn K (.ref (He.ma K (He.ga K "BadText") "__init__")) = some (.type "function")
  i_BadCommand : PySem.W.findIn K (.ref (He.ga K "BadCommand")) "__init__" = some (some (.ref (He.ma K (He.ga K "BadCommand") "__init__"))) ∧ PySem.W.typeIn K (.ref (He.ma K (He.ga K "BadCommand") "__init__")) = some (.type "function")
  k_BadText_BadText : PySem.W.kitOne K (.ref (He.ga K "BadText")) (.ref (He.ga K "BadText")) = some true
  k_BadText_TextError : PySem.W.kitOne K (.ref (He.ga K "BadText")) (.ref (He.ga K "TextError")) = some true
  k_BadText_ValueError : PySem.W.kitOne K (.ref (He.ga K "BadText")) (.type "ValueError") = some true
  k_BadText_DataError : PySem.W.kitOne K (.ref (He.ga K "BadText")) (.ref (He.ga K "DataError")) = some false
  k_BadText_BadScheme : PySem.W.kitOne K (.ref (He.ga K "BadText")) (.ref (He.ga K "BadScheme")) = some false
  k_BadText_BadCommand : PySem.W.kitOne K (.ref (He.ga K "BadText")) (.ref (He.ga K "BadCommand")) = some false
  e_BadText_PlanError : PySem.W.exmOne K (.ref (He.ga K "BadText")) (.ref (He.ga K "PlanError")) = some true
section
variable {P : Program} {w : World} {K : PySem.W.Frag} {mg : Str → Option Value} {base : Heap}
def t_is_side (K : PySem.W.Frag) : TS := (tRet (tAndV (tCB (rIsi K) (tCons (tVar 0) (tCons (tC (.ty "str")) tNil))) (tOp (rInU K) (tVar 0) (tC (.ref (He.ga K "SIDES"))))))
theorem dv_is_side (T : Txt K mg)  {f : Addr} (cdv : Value) (A : Around) (outer : List PySem.Env) (s : Shared) (H : Hp) (E : XK) (hr : Room 0 (A.deeper (envOfC "is_side" (defScope s_is_side) s.heap.objs.size f cdv))) :
    PSs (cxOf CX0 P w K mg base N_is_side "is_side" (defScope s_is_side) f cdv A outer s H E) (defBody s_is_side) (t_is_side K) := by
  have sc := sc_is_side
  exact (pss_one (ps_ret (pe_and (pe_callB (r := rIsi _) call_isi rfl T.f_isinstance b_isinstance (pa_cons (pv 0) (pa_cons (pe_bltn (v := .ty "str") rfl T.f_str b_str rfl) pa_nil))) (pe_one (pe_cmpR op_inU (pv 0) (pe_gref T.g_SIDES) rfl)))))
def t_name_fault (K : PySem.W.Frag) : TS := (tSeq (tIfS (tOr (tNot (tTr K (tCB (rIsi K) (tCons (tVar 0) (tCons (tC (.ty "str")) tNil))))) (tNot (tTest (tChain rLeU rLeU (tC (.int 1)) (tCB (rLen K) (tCons (tVar 0) tNil)) (tC (.int 8)))))) (tRet (tUn (rU fun i => .int (-i)) (tC (.int 1)))) tNext)
 (tSeq (tFor (iEnumU K (tCons (tVar 0) tNil)) (gTup K 2 (gCons (gName 1) (gCons (gName 2) gNil))) (tIfS (tAnd (tTest (tOp (rNinU K) (tVar 2) (tC (.str "abcdefghijklmnopqrstuvwxyz")))) (tOr (tTest (tOp (rEqU K) (tVar 1) (tC (.int 0)))) (tTest (tOp (rNinU K) (tVar 2) (tC (.str "0123456789")))))) (tRet (tVar 1)) tNext))
 (tRet (tC .non))))
theorem dv_name_fault (T : Txt K mg)  {f : Addr} (cdv : Value) (A : Around) (outer : List PySem.Env) (s : Shared) (H : Hp) (E : XK) (hr : Room 0 (A.deeper (envOfC "name_fault" (defScope s_name_fault) s.heap.objs.size f cdv))) :
    PSs (cxOf CX0 P w K mg base N_name_fault "name_fault" (defScope s_name_fault) f cdv A outer s H E) (defBody s_name_fault) (t_name_fault K) := by
  have sc := sc_name_fault
  have pa : PassesOwn (model P w) (cxOf CX0 P w K mg base N_name_fault "name_fault" (defScope s_name_fault) f cdv A outer s H E).A (cxOf CX0 P w K mg base N_name_fault "name_fault" (defScope s_name_fault) f cdv A outer s H E).env (cxOf CX0 P w K mg base N_name_fault "name_fault" (defScope s_name_fault) f cdv A outer s H E).xe := passes_of rfl
  exact (pss_cons (ps_if (PW.pt (pw_or (pt_not (pt_tr (pe_callB (r := rIsi _) call_isi rfl T.f_isinstance b_isinstance (pa_cons (pv 0) (pa_cons (pe_bltn (v := .ty "str") rfl T.f_str b_str rfl) pa_nil))))) (pw_or1 (pt_not (pt_chain op_leU op_leU pe_int (pe_callB (r := rLen _) call_len rfl T.f_len b_len (pa_cons (pv 0) pa_nil)) (pe_gint T.c_NAME_MOST)))))) (pss_one (ps_ret (pe_un un_neg pe_int))) pss_nil)
 (pss_cons (ps_for pa rfl (pi_enumU rfl T.f_enumerate (pa_cons (pv 0) pa_nil)) (pg_tup rfl (pgs_cons (pg_name (i := 1) sc.nd rfl (by first | exact Or.inl rfl | exact Or.inr rfl)) (pgs_cons (pg_name (i := 2) sc.nd rfl (by first | exact Or.inl rfl | exact Or.inr rfl)) pgs_nil))) (pss_one (ps_if (PW.pt (pw_and (pt_cmpR op_ninU (pv 2) (pe_gstr T.c_LETTERS) rfl) (pw_and1 (PW.pt (pw_or (pt_cmpR (op_eqU hr.units) (pv 1) pe_int (nomark _)) (pw_or1 (pt_cmpR op_ninU (pv 2) (pe_gstr T.c_FIGURES) rfl))))))) (pss_one (ps_ret (pv 1))) pss_nil)))
 (pss_one (ps_ret pe_non))))
def t_is_name (K : PySem.W.Frag) : TS := (tRet (tIsN (tCall (sp_name_fault K) [] E0 (tCons (tVar 0) tNil))))
theorem dv_is_name (T : Txt K mg) (O_name_fault : Okd P w K mg base CX0 1 "name_fault" ["thing"] (sp_name_fault K)) {f : Addr} (cdv : Value) (A : Around) (outer : List PySem.Env) (s : Shared) (H : Hp) (E : XK) (hr : Room 1 (A.deeper (envOfC "is_name" (defScope s_is_name) s.heap.objs.size f cdv))) :
    PSs (cxOf CX0 P w K mg base N_is_name "is_name" (defScope s_is_name) f cdv A outer s H E) (defBody s_is_name) (t_is_name K) := by
  have sc := sc_is_name
  exact (pss_one (ps_ret (pe_cmp (pc_isN (pe_callD O_name_fault hr (by decide) (pa_cons (pv 0) pa_nil))) rfl)))
def t_ordered_pair (K : PySem.W.Frag) : TS := (tRet (tIf (tTest (tOp rLtU (tVar 0) (tVar 1))) (tTup (tCons (tVar 0) (tCons (tVar 1) tNil))) (tTup (tCons (tVar 1) (tCons (tVar 0) tNil)))))
theorem dv_ordered_pair (T : Txt K mg)  {f : Addr} (cdv : Value) (A : Around) (outer : List PySem.Env) (s : Shared) (H : Hp) (E : XK) (hr : Room 0 (A.deeper (envOfC "ordered_pair" (defScope s_ordered_pair) s.heap.objs.size f cdv))) :
    PSs (cxOf CX0 P w K mg base N_ordered_pair "ordered_pair" (defScope s_ordered_pair) f cdv A outer s H E) (defBody s_ordered_pair) (t_ordered_pair K) := by
  have sc := sc_ordered_pair
  exact (pss_one (ps_ret (pe_ifExp (pt_cmpR op_ltU (pv 0) (pv 1) (nomark _)) (pe_tup (pa_cons (pv 0) (pa_cons (pv 1) pa_nil))) (pe_tup (pa_cons (pv 1) (pa_cons (pv 0) pa_nil))))))
def t_make_scheme (K : PySem.W.Frag) : TS := (tSeq (tAsg (tSortSc K (iSeqU K (tVar 1)) (gTup K 2 (gCons (gName 3) (gCons (gName 4) gNil))) (tCall (sp_ordered_pair K) [] E0 (tCons (tVar 3) (tCons (tVar 4) tNil))) [3, 4]) (gName 2))
 (tRet (tTup (tCons (tCB (rTupU K) (tCons (tSortSet K (tVar 0)) tNil)) (tCons (tCB (rTupU K) (tCons (tVar 2) tNil)) tNil)))))
theorem dv_make_scheme (T : Txt K mg) (O_ordered_pair : Okd P w K mg base CX0 1 "ordered_pair" ["one", "other"] (sp_ordered_pair K)) {f : Addr} (cdv : Value) (A : Around) (outer : List PySem.Env) (s : Shared) (H : Hp) (E : XK) (hr : Room 1 (A.deeper (envOfC "make_scheme" (defScope s_make_scheme) s.heap.objs.size f cdv))) :
    PSs (cxOf CX0 P w K mg base N_make_scheme "make_scheme" (defScope s_make_scheme) f cdv A outer s H E) (defBody s_make_scheme) (t_make_scheme K) := by
  have sc := sc_make_scheme
  exact (pss_cons (ps_set (i := 2) sc.nd rfl (by first | exact Or.inl rfl | exact Or.inr rfl) (pe_sortSc (own := [("one", 3), ("other", 4)]) (g := (gTup K 2 (gCons (gName 3) (gCons (gName 4) gNil)))) rfl hr.units T.f_sorted sc.nd (pi_seqU (pv 1)) (blkOk_by (own := [("one", 3), ("other", 4)]) (N := N_make_scheme) (sc := defScope s_make_scheme) (by decide +kernel)) (fun _ _ _ _ _ => (pg_tup rfl (pgs_cons (pg_name (i := 3) sc.nd rfl (by first | exact Or.inl rfl | exact Or.inr rfl)) (pgs_cons (pg_name (i := 4) sc.nd rfl (by first | exact Or.inl rfl | exact Or.inr rfl)) pgs_nil)))) (fun _ _ _ _ _ => (pe_callD O_ordered_pair hr (by decide) (pa_cons (pv 3) (pa_cons (pv 4) pa_nil))))))
 (pss_one (ps_ret (pe_tup (pa_cons (pe_callTy (r := rTupU _) call_tupleU rfl T.f_tuple b_tuple (pa_cons (pe_sortSet rfl T.f_sorted T.f_set (pv 0)) pa_nil)) (pa_cons (pe_callTy (r := rTupU _) call_tupleU rfl T.f_tuple b_tuple (pa_cons (pv 2) pa_nil)) pa_nil))))))
def t_text_lines (K : PySem.W.Frag) : TS := (tRet (tIf (tTest (tOp (rNeU K) (tVar 0) (tC (.str "")))) (tM1 rSplitU (tVar 0) (tC (.str "
"))) (tLst tNil)))
theorem dv_text_lines (T : Txt K mg)  {f : Addr} (cdv : Value) (A : Around) (outer : List PySem.Env) (s : Shared) (H : Hp) (E : XK) (hr : Room 0 (A.deeper (envOfC "text_lines" (defScope s_text_lines) s.heap.objs.size f cdv))) :
    PSs (cxOf CX0 P w K mg base N_text_lines "text_lines" (defScope s_text_lines) f cdv A outer s H E) (defBody s_text_lines) (t_text_lines K) := by
  have sc := sc_text_lines
  exact (pss_one (ps_ret (pe_ifExp (pt_cmpR (op_neU hr.units) (pv 0) pe_str (nomark _)) (pe_splitU (pv 0) pe_str) (pe_lst pa_nil))))
def t_words_of (K : PySem.W.Frag) : TS := (tRet (tLc (iSeqU K (tM1 rSplitU (tVar 0) (tC (.str " ")))) (gName 1) (tTest (tOp (rNeU K) (tVar 1) (tC (.str "")))) (tVar 1) [1]))
theorem dv_words_of (T : Txt K mg)  {f : Addr} (cdv : Value) (A : Around) (outer : List PySem.Env) (s : Shared) (H : Hp) (E : XK) (hr : Room 0 (A.deeper (envOfC "words_of" (defScope s_words_of) s.heap.objs.size f cdv))) :
    PSs (cxOf CX0 P w K mg base N_words_of "words_of" (defScope s_words_of) f cdv A outer s H E) (defBody s_words_of) (t_words_of K) := by
  have sc := sc_words_of
  exact (pss_one (ps_ret (pe_lc (own := [("word", 1)]) (g := (gName 1)) (tt := (tTest (tOp (rNeU K) (tVar 1) (tC (.str ""))))) rfl sc.nd (pi_seqU (pe_splitU (pv 0) pe_str)) (blkOk_by (own := [("word", 1)]) (N := N_words_of) (sc := defScope s_words_of) (by decide +kernel)) (fun _ _ _ _ _ => (pg_name (i := 1) sc.nd rfl (by first | exact Or.inl rfl | exact Or.inr rfl))) (fun _ _ _ _ _ => (pts_one (pt_cmpR (op_neU hr.units) (pv 1) pe_str (nomark _)))) (fun _ _ _ _ _ => (pv 1)))))
def t_passed_over (K : PySem.W.Frag) : TS := (tSeq (tAsg (tCall (sp_words_of K) [] E0 (tCons (tVar 0) tNil)) (gName 1))
 (tRet (tOrV (tOp (rEqU K) (tCB (rLen K) (tCons (tVar 1) tNil)) (tC (.int 0))) (tM1 rStartsU (tOp (rIx K) (tVar 1) (tC (.int 0))) (tC (.str "#"))))))
theorem dv_passed_over (T : Txt K mg) (O_words_of : Okd P w K mg base CX0 1 "words_of" ["line"] (sp_words_of K)) {f : Addr} (cdv : Value) (A : Around) (outer : List PySem.Env) (s : Shared) (H : Hp) (E : XK) (hr : Room 1 (A.deeper (envOfC "passed_over" (defScope s_passed_over) s.heap.objs.size f cdv))) :
    PSs (cxOf CX0 P w K mg base N_passed_over "passed_over" (defScope s_passed_over) f cdv A outer s H E) (defBody s_passed_over) (t_passed_over K) := by
  have sc := sc_passed_over
  exact (pss_cons (ps_set (i := 1) sc.nd rfl (by first | exact Or.inl rfl | exact Or.inr rfl) (pe_callD O_words_of hr (by decide) (pa_cons (pv 0) pa_nil)))
 (pss_one (ps_ret (pe_or (pe_cmpR (op_eqU hr.units) (pe_callB (r := rLen _) call_len rfl T.f_len b_len (pa_cons (pv 1) pa_nil)) pe_int (nomark _)) (pe_one (pe_startsU (pe_ix ix_seq (pv 1) pe_int (fun _ _ => rfl)) pe_str))))))
def t_told_lines (K : PySem.W.Frag) : TS := (tSeq (tAsg (tLst tNil) (gName 1))
 (tSeq (tFor (iEnumU K (tCons (tCall (sp_text_lines K) [] E0 (tCons (tVar 0) tNil)) tNil)) (gTup K 2 (gCons (gName 2) (gCons (gName 3) gNil))) (tIfS (tNot (tTr K (tCall (sp_passed_over K) [] E0 (tCons (tVar 3) tNil)))) (tDrop (tBM K "list" rAppend (tVar 1) (tCons (tTup (tCons (tOp (rAddU K) (tVar 2) (tC (.int 1))) (tCons (tCall (sp_words_of K) [] E0 (tCons (tVar 3) tNil)) tNil))) tNil))) tNext))
 (tRet (tVar 1))))
theorem dv_told_lines (T : Txt K mg) (O_text_lines : Okd P w K mg base CX0 1 "text_lines" ["text"] (sp_text_lines K)) (O_passed_over : Okd P w K mg base CX0 2 "passed_over" ["line"] (sp_passed_over K)) (O_words_of : Okd P w K mg base CX0 1 "words_of" ["line"] (sp_words_of K)) {f : Addr} (cdv : Value) (A : Around) (outer : List PySem.Env) (s : Shared) (H : Hp) (E : XK) (hr : Room 2 (A.deeper (envOfC "told_lines" (defScope s_told_lines) s.heap.objs.size f cdv))) :
    PSs (cxOf CX0 P w K mg base N_told_lines "told_lines" (defScope s_told_lines) f cdv A outer s H E) (defBody s_told_lines) (t_told_lines K) := by
  have sc := sc_told_lines
  have pa : PassesOwn (model P w) (cxOf CX0 P w K mg base N_told_lines "told_lines" (defScope s_told_lines) f cdv A outer s H E).A (cxOf CX0 P w K mg base N_told_lines "told_lines" (defScope s_told_lines) f cdv A outer s H E).env (cxOf CX0 P w K mg base N_told_lines "told_lines" (defScope s_told_lines) f cdv A outer s H E).xe := passes_of rfl
  exact (pss_cons (ps_set (i := 1) sc.nd rfl (by first | exact Or.inl rfl | exact Or.inr rfl) (pe_lst pa_nil))
 (pss_cons (ps_for pa rfl (pi_enumU rfl T.f_enumerate (pa_cons (pe_callD O_text_lines hr (by decide) (pa_cons (pv 0) pa_nil)) pa_nil)) (pg_tup rfl (pgs_cons (pg_name (i := 2) sc.nd rfl (by first | exact Or.inl rfl | exact Or.inr rfl)) (pgs_cons (pg_name (i := 3) sc.nd rfl (by first | exact Or.inl rfl | exact Or.inr rfl)) pgs_nil))) (pss_one (ps_if (pt_not (pt_tr (pe_callD O_passed_over hr (by decide) (pa_cons (pv 3) pa_nil)))) (pss_one (ps_expr (pe_bm PySem.F.plainAttrs_list PySem.F.slot_list_append PySem.F.type_list_append mt_append (pv 1) (pa_cons (pe_tup (pa_cons (pe_op op_addU (pv 2) pe_int) (pa_cons (pe_callD O_words_of hr (by decide) (pa_cons (pv 3) pa_nil)) pa_nil))) pa_nil)))) pss_nil)))
 (pss_one (ps_ret (pv 1)))))
def t_line_behind (K : PySem.W.Frag) : TS := (tRet (tOp (rAddU K) (tCB (rLen K) (tCons (tCall (sp_text_lines K) [] E0 (tCons (tVar 0) tNil)) tNil)) (tC (.int 1))))
theorem dv_line_behind (T : Txt K mg) (O_text_lines : Okd P w K mg base CX0 1 "text_lines" ["text"] (sp_text_lines K)) {f : Addr} (cdv : Value) (A : Around) (outer : List PySem.Env) (s : Shared) (H : Hp) (E : XK) (hr : Room 1 (A.deeper (envOfC "line_behind" (defScope s_line_behind) s.heap.objs.size f cdv))) :
    PSs (cxOf CX0 P w K mg base N_line_behind "line_behind" (defScope s_line_behind) f cdv A outer s H E) (defBody s_line_behind) (t_line_behind K) := by
  have sc := sc_line_behind
  exact (pss_one (ps_ret (pe_op op_addU (pe_callB (r := rLen _) call_len rfl T.f_len b_len (pa_cons (pe_callD O_text_lines hr (by decide) (pa_cons (pv 0) pa_nil)) pa_nil)) pe_int)))
def t_scheme_touch_fault (K : PySem.W.Frag) : TS := (tSeq (tFor (iSeqU K (tOp (rAddU K) (tLst (tCons (tVar 0) tNil)) (tVar 1))) (gName 3) (tIfS (tAnd (tNot (tTr K (tCall (sp_is_side K) [] E0 (tCons (tVar 3) tNil)))) (tNot (tTr K (tCall (sp_is_name K) [] E0 (tCons (tVar 3) tNil))))) (tRet (tC (.str "name"))) tNext))
 (tSeq (tFor (iSeqU K (tOp (rAddU K) (tLst (tCons (tVar 0) tNil)) (tVar 1))) (gName 3) (tIfS (tAnd (tNot (tTr K (tCall (sp_is_side K) [] E0 (tCons (tVar 3) tNil)))) (tB (tDNotIn (tVar 3) (tVar 2)))) (tRet (tC (.str "unknown"))) tNext))
 (tSeq (tIfS (tTr K (tCall (sp_is_side K) [] E0 (tCons (tVar 0) tNil))) (tFor (iSeqU K (tVar 1)) (gName 3) (tIfS (tTr K (tCall (sp_is_side K) [] E0 (tCons (tVar 3) tNil))) (tRet (tC (.str "sides"))) tNext)) tNext)
 (tSeq (tIfS (tTest (tOp (rInU K) (tVar 0) (tVar 1))) (tRet (tC (.str "self"))) tNext)
 (tRet (tC .non))))))
theorem dv_scheme_touch_fault (T : Txt K mg) (O_is_side : Okd P w K mg base CX0 1 "is_side" ["thing"] (sp_is_side K)) (O_is_name : Okd P w K mg base CX0 2 "is_name" ["thing"] (sp_is_name K)) {f : Addr} (cdv : Value) (A : Around) (outer : List PySem.Env) (s : Shared) (H : Hp) (E : XK) (hr : Room 2 (A.deeper (envOfC "scheme_touch_fault" (defScope s_scheme_touch_fault) s.heap.objs.size f cdv))) :
    PSs (cxOf CX0 P w K mg base N_scheme_touch_fault "scheme_touch_fault" (defScope s_scheme_touch_fault) f cdv A outer s H E) (defBody s_scheme_touch_fault) (t_scheme_touch_fault K) := by
  have sc := sc_scheme_touch_fault
  have pa : PassesOwn (model P w) (cxOf CX0 P w K mg base N_scheme_touch_fault "scheme_touch_fault" (defScope s_scheme_touch_fault) f cdv A outer s H E).A (cxOf CX0 P w K mg base N_scheme_touch_fault "scheme_touch_fault" (defScope s_scheme_touch_fault) f cdv A outer s H E).env (cxOf CX0 P w K mg base N_scheme_touch_fault "scheme_touch_fault" (defScope s_scheme_touch_fault) f cdv A outer s H E).xe := passes_of rfl
  exact (pss_cons (ps_for pa rfl (pi_seqU (pe_op op_addU (pe_lst (pa_cons (pv 0) pa_nil)) (pv 1))) (pg_name (i := 3) sc.nd rfl (by first | exact Or.inl rfl | exact Or.inr rfl)) (pss_one (ps_if (PW.pt (pw_and (pt_not (pt_tr (pe_callD O_is_side hr (by decide) (pa_cons (pv 3) pa_nil)))) (pw_and1 (pt_not (pt_tr (pe_callD O_is_name hr (by decide) (pa_cons (pv 3) pa_nil))))))) (pss_one (ps_ret pe_str)) pss_nil)))
 (pss_cons (ps_for pa rfl (pi_seqU (pe_op op_addU (pe_lst (pa_cons (pv 0) pa_nil)) (pv 1))) (pg_name (i := 3) sc.nd rfl (by first | exact Or.inl rfl | exact Or.inr rfl)) (pss_one (ps_if (PW.pt (pw_and (pt_not (pt_tr (pe_callD O_is_side hr (by decide) (pa_cons (pv 3) pa_nil)))) (pw_and1 (pt_cmp (pc_dnotin (hu_of hr) (pv 3) (pv 2)) rfl)))) (pss_one (ps_ret pe_str)) pss_nil)))
 (pss_cons (ps_if (pt_tr (pe_callD O_is_side hr (by decide) (pa_cons (pv 0) pa_nil))) (pss_one (ps_for pa rfl (pi_seqU (pv 1)) (pg_name (i := 3) sc.nd rfl (by first | exact Or.inl rfl | exact Or.inr rfl)) (pss_one (ps_if (pt_tr (pe_callD O_is_side hr (by decide) (pa_cons (pv 3) pa_nil))) (pss_one (ps_ret pe_str)) pss_nil)))) pss_nil)
 (pss_cons (ps_if (pt_cmpR op_inU (pv 0) (pv 1) rfl) (pss_one (ps_ret pe_str)) pss_nil)
 (pss_one (ps_ret pe_non))))))
def t_scheme_rooms_fault (K : PySem.W.Frag) : TS := (tSeq (tFor (iSeqU K (tVar 0)) (gName 2) (tIfS (tNot (tTr K (tCall (sp_is_name K) [] E0 (tCons (tVar 2) tNil)))) (tRet (tC (.str "name"))) tNext))
 (tSeq (tIfS (tTest (tOp rLtU (tLenSet' K (tVar 0)) (tCB (rLen K) (tCons (tVar 0) tNil)))) (tRet (tC (.str "twice"))) tNext)
 (tSeq (tFor (iSeqU K (tVar 0)) (gName 2) (tIfS (tB (tDIn (tVar 2) (tVar 1))) (tRet (tC (.str "twice"))) tNext))
 (tSeq (tIfS (tTest (tOp rGtU (tOp (rAddU K) (tCB rLenDK (tCons (tVar 1) tNil)) (tCB (rLen K) (tCons (tVar 0) tNil))) (tC (.int 40)))) (tRet (tC (.str "limit"))) tNext)
 (tRet (tC .non))))))
theorem dv_scheme_rooms_fault (T : Txt K mg) (O_is_name : Okd P w K mg base CX0 2 "is_name" ["thing"] (sp_is_name K)) {f : Addr} (cdv : Value) (A : Around) (outer : List PySem.Env) (s : Shared) (H : Hp) (E : XK) (hr : Room 2 (A.deeper (envOfC "scheme_rooms_fault" (defScope s_scheme_rooms_fault) s.heap.objs.size f cdv))) :
    PSs (cxOf CX0 P w K mg base N_scheme_rooms_fault "scheme_rooms_fault" (defScope s_scheme_rooms_fault) f cdv A outer s H E) (defBody s_scheme_rooms_fault) (t_scheme_rooms_fault K) := by
  have sc := sc_scheme_rooms_fault
  have pa : PassesOwn (model P w) (cxOf CX0 P w K mg base N_scheme_rooms_fault "scheme_rooms_fault" (defScope s_scheme_rooms_fault) f cdv A outer s H E).A (cxOf CX0 P w K mg base N_scheme_rooms_fault "scheme_rooms_fault" (defScope s_scheme_rooms_fault) f cdv A outer s H E).env (cxOf CX0 P w K mg base N_scheme_rooms_fault "scheme_rooms_fault" (defScope s_scheme_rooms_fault) f cdv A outer s H E).xe := passes_of rfl
  exact (pss_cons (ps_for pa rfl (pi_seqU (pv 0)) (pg_name (i := 2) sc.nd rfl (by first | exact Or.inl rfl | exact Or.inr rfl)) (pss_one (ps_if (pt_not (pt_tr (pe_callD O_is_name hr (by decide) (pa_cons (pv 2) pa_nil)))) (pss_one (ps_ret pe_str)) pss_nil)))
 (pss_cons (ps_if (pt_cmpR op_ltU (pe_lenSet' rfl T.f_len T.f_set (pv 0)) (pe_callB (r := rLen _) call_len rfl T.f_len b_len (pa_cons (pv 0) pa_nil)) (nomark _)) (pss_one (ps_ret pe_str)) pss_nil)
 (pss_cons (ps_for pa rfl (pi_seqU (pv 0)) (pg_name (i := 2) sc.nd rfl (by first | exact Or.inl rfl | exact Or.inr rfl)) (pss_one (ps_if (pt_cmp (pc_din (hu_of hr) (pv 2) (pv 1)) rfl) (pss_one (ps_ret pe_str)) pss_nil)))
 (pss_cons (ps_if (pt_cmpR op_gtU (pe_op op_addU (pe_callB (r := rLenDK) cr_lenDK rfl T.f_len b_len (pa_cons (pv 1) pa_nil)) (pe_callB (r := rLen _) call_len rfl T.f_len b_len (pa_cons (pv 0) pa_nil))) (pe_gint T.c_ROOMS_MOST) (nomark _)) (pss_one (ps_ret pe_str)) pss_nil)
 (pss_one (ps_ret pe_non))))))
def t_scheme_line_fault (K : PySem.W.Frag) : TS := (tSeq (tAsg (tOp (rEqU K) (tOp (rIx K) (tVar 0) (tC (.int 0))) (tC (.str "rooms"))) (gName 3))
 (tSeq (tIfS (tOr (tTest (tOp (rEqU K) (tCB (rLen K) (tCons (tVar 0) tNil)) (tC (.int 1)))) (tNot (tOr (tTr K (tVar 3)) (tTr K (tM1 rEndsU (tOp (rIx K) (tVar 0) (tC (.int 0))) (tC (.str ":"))))))) (tRet (tC (.str "words"))) tNext)
 (tSeq (tIfS (tOr (tAnd (tTr K (tVar 3)) (tTr K (tVar 2))) (tAnd (tNot (tTr K (tVar 3))) (tTest (tOp (rEqU K) (tCB rLenDK (tCons (tVar 1) tNil)) (tC (.int 0)))))) (tRet (tC (.str "place"))) tNext)
 (tSeq (tIfS (tTr K (tVar 3)) (tRet (tCall (sp_scheme_rooms_fault K) [] E0 (tCons (tSl (rSlU K) (tVar 0) (tPart (tC (.int 1))) tNoPart) (tCons (tVar 1) tNil)))) tNext)
 (tRet (tCall (sp_scheme_touch_fault K) [] E0 (tCons (tSl (rSlU K) (tOp (rIx K) (tVar 0) (tC (.int 0))) tNoPart (tPart (tUn (rU fun i => .int (-i)) (tC (.int 1))))) (tCons (tSl (rSlU K) (tVar 0) (tPart (tC (.int 1))) tNoPart) (tCons (tVar 1) tNil)))))))))
theorem dv_scheme_line_fault (T : Txt K mg) (O_scheme_touch_fault : Okd P w K mg base CX0 3 "scheme_touch_fault" ["first", "others", "known"] (sp_scheme_touch_fault K)) (O_scheme_rooms_fault : Okd P w K mg base CX0 3 "scheme_rooms_fault" ["rooms", "known"] (sp_scheme_rooms_fault K)) {f : Addr} (cdv : Value) (A : Around) (outer : List PySem.Env) (s : Shared) (H : Hp) (E : XK) (hr : Room 3 (A.deeper (envOfC "scheme_line_fault" (defScope s_scheme_line_fault) s.heap.objs.size f cdv))) :
    PSs (cxOf CX0 P w K mg base N_scheme_line_fault "scheme_line_fault" (defScope s_scheme_line_fault) f cdv A outer s H E) (defBody s_scheme_line_fault) (t_scheme_line_fault K) := by
  have sc := sc_scheme_line_fault
  exact (pss_cons (ps_set (i := 3) sc.nd rfl (by first | exact Or.inl rfl | exact Or.inr rfl) (pe_cmpR (op_eqU hr.units) (pe_ix ix_seq (pv 0) pe_int (fun _ _ => rfl)) pe_str (nomark _)))
 (pss_cons (ps_if (PW.pt (pw_or (pt_cmpR (op_eqU hr.units) (pe_callB (r := rLen _) call_len rfl T.f_len b_len (pa_cons (pv 0) pa_nil)) pe_int (nomark _)) (pw_or1 (pt_not (PW.pt (pw_or (pt_tr (pv 3)) (pw_or1 (pt_tr (pe_endsU (pe_ix ix_seq (pv 0) pe_int (fun _ _ => rfl)) pe_str))))))))) (pss_one (ps_ret pe_str)) pss_nil)
 (pss_cons (ps_if (PW.pt (pw_or (PW.pt (pw_and (pt_tr (pv 3)) (pw_and1 (pt_tr (pv 2))))) (pw_or1 (PW.pt (pw_and (pt_not (pt_tr (pv 3))) (pw_and1 (pt_cmpR (op_eqU hr.units) (pe_callB (r := rLenDK) cr_lenDK rfl T.f_len b_len (pa_cons (pv 1) pa_nil)) pe_int (nomark _)))))))) (pss_one (ps_ret pe_str)) pss_nil)
 (pss_cons (ps_if (pt_tr (pv 3)) (pss_one (ps_ret (pe_callD O_scheme_rooms_fault hr (by decide) (pa_cons (pe_slice sl_U (pv 0) (po_some pe_int) po_none) (pa_cons (pv 1) pa_nil))))) pss_nil)
 (pss_one (ps_ret (pe_callD O_scheme_touch_fault hr (by decide) (pa_cons (pe_slice sl_U (pe_ix ix_seq (pv 0) pe_int (fun _ _ => rfl)) po_none (po_some (pe_un un_neg pe_int))) (pa_cons (pe_slice sl_U (pv 0) (po_some pe_int) po_none) (pa_cons (pv 1) pa_nil))))))))))
def t_read_scheme (K : PySem.W.Frag) (Ex : XK) : TS := (tSeq (tAsg tDNewK (gName 1))
 (tSeq (tAsg (tLst tNil) (gName 2))
 (tSeq (tFor (iSeqU K (tCall (sp_told_lines K) [] E0 (tCons (tVar 0) tNil))) (gTup K 2 (gCons (gName 3) (gCons (gName 4) gNil))) (tSeq (tAsg (tCall (sp_scheme_line_fault K) [] E0 (tCons (tVar 4) (tCons (tVar 1) (tCons (tOp rGtU (tCB (rLen K) (tCons (tVar 2) tNil)) (tC (.int 0))) tNil)))) (gName 5))
 (tSeq (tIfS (tB (tNotN (tVar 5))) (tRaiseO K (He.ga K "BadText") ["line", "word"] Ex (tCons (tVar 3) (tCons (tVar 5) tNil))) tNext)
 (tIfS (tTest (tOp (rEqU K) (tOp (rIx K) (tVar 4) (tC (.int 0))) (tC (.str "rooms")))) (tFor (iSeqU K (tSl (rSlU K) (tVar 4) (tPart (tC (.int 1))) tNoPart)) (gName 6) (sDPut (tVar 1) (tVar 6) (tC (.bl true)))) (tFor (iSeqU K (tSl (rSlU K) (tVar 4) (tPart (tC (.int 1))) tNoPart)) (gName 7) (tDrop (tBM K "list" rAppend (tVar 2) (tCons (tTup (tCons (tSl (rSlU K) (tOp (rIx K) (tVar 4) (tC (.int 0))) tNoPart (tPart (tUn (rU fun i => .int (-i)) (tC (.int 1))))) (tCons (tVar 7) tNil))) tNil))))))))
 (tSeq (tIfS (tTest (tOp (rEqU K) (tCB rLenDK (tCons (tVar 1) tNil)) (tC (.int 0)))) (tRaiseO K (He.ga K "BadText") ["line", "word"] Ex (tCons (tCall (sp_line_behind K) [] E0 (tCons (tVar 0) tNil)) (tCons (tC (.str "place")) tNil))) tNext)
 (tRet (tCall (sp_make_scheme K) [] E0 (tCons (tCB (rTupU K) (tCons (tCB rListDK (tCons (tVar 1) tNil)) tNil)) (tCons (tCB (rTupU K) (tCons (tVar 2) tNil)) tNil))))))))
theorem dv_read_scheme (T : Txt K mg) (O_told_lines : Okd P w K mg base CX0 3 "told_lines" ["text"] (sp_told_lines K)) (O_make_scheme : Okd P w K mg base CX0 2 "make_scheme" ["rooms", "touches"] (sp_make_scheme K)) (O_scheme_line_fault : Okd P w K mg base CX0 4 "scheme_line_fault" ["words", "known", "begun"] (sp_scheme_line_fault K)) (O_line_behind : Okd P w K mg base CX0 2 "line_behind" ["text"] (sp_line_behind K)) (X_BadText : ExOk P w K mg base 1 "BadText" ["line", "word"]) {f : Addr} (cdv : Value) (A : Around) (outer : List PySem.Env) (s : Shared) (H : Hp) (E : XK) (hr : Room 4 (A.deeper (envOfC "read_scheme" (defScope s_read_scheme) s.heap.objs.size f cdv))) :
    PSs (cxOf (L2N.CX P w) P w K mg base N_read_scheme "read_scheme" (defScope s_read_scheme) f cdv A outer s H E) (defBody s_read_scheme) (t_read_scheme K E) := by
  have sc := sc_read_scheme
  have pa : PassesOwn (model P w) (cxOf (L2N.CX P w) P w K mg base N_read_scheme "read_scheme" (defScope s_read_scheme) f cdv A outer s H E).A (cxOf (L2N.CX P w) P w K mg base N_read_scheme "read_scheme" (defScope s_read_scheme) f cdv A outer s H E).env (cxOf (L2N.CX P w) P w K mg base N_read_scheme "read_scheme" (defScope s_read_scheme) f cdv A outer s H E).xe := passes_of rfl
  have tk : L2N.Takes (cxOf (L2N.CX P w) P w K mg base N_read_scheme "read_scheme" (defScope s_read_scheme) f cdv A outer s H E) (fun cls d _ H => E cls d H) := L2N.takes_of rfl rfl rfl rfl
  exact (pss_cons (ps_set (i := 1) sc.nd rfl (by first | exact Or.inl rfl | exact Or.inr rfl) pe_dnewK)
 (pss_cons (ps_set (i := 2) sc.nd rfl (by first | exact Or.inl rfl | exact Or.inr rfl) (pe_lst pa_nil))
 (pss_cons (ps_for pa rfl (pi_seqU (pe_callD O_told_lines hr (by decide) (pa_cons (pv 0) pa_nil))) (pg_tup rfl (pgs_cons (pg_name (i := 3) sc.nd rfl (by first | exact Or.inl rfl | exact Or.inr rfl)) (pgs_cons (pg_name (i := 4) sc.nd rfl (by first | exact Or.inl rfl | exact Or.inr rfl)) pgs_nil))) (pss_cons (ps_set (i := 5) sc.nd rfl (by first | exact Or.inl rfl | exact Or.inr rfl) (pe_callD O_scheme_line_fault hr (by decide) (pa_cons (pv 4) (pa_cons (pv 1) (pa_cons (pe_cmpR op_gtU (pe_callB (r := rLen _) call_len rfl T.f_len b_len (pa_cons (pv 2) pa_nil)) pe_int (nomark _)) pa_nil)))))
 (pss_cons (ps_if (pt_cmp (pc_notN (pv 5))) (pss_one (ps_raiseON X_BadText hr (by decide) rfl tk (pa_cons (pv 3) (pa_cons (pv 5) pa_nil)))) pss_nil)
 (pss_one (ps_if (pt_cmpR (op_eqU hr.units) (pe_ix ix_seq (pv 4) pe_int (fun _ _ => rfl)) pe_str (nomark _)) (pss_one (ps_for pa rfl (pi_seqU (pe_slice sl_U (pv 4) (po_some pe_int) po_none)) (pg_name (i := 6) sc.nd rfl (by first | exact Or.inl rfl | exact Or.inr rfl)) (pss_one (ps_dput (hu_of hr) (pv 1) (pv 6) pe_bl rfl)))) (pss_one (ps_for pa rfl (pi_seqU (pe_slice sl_U (pv 4) (po_some pe_int) po_none)) (pg_name (i := 7) sc.nd rfl (by first | exact Or.inl rfl | exact Or.inr rfl)) (pss_one (ps_expr (pe_bm PySem.F.plainAttrs_list PySem.F.slot_list_append PySem.F.type_list_append mt_append (pv 2) (pa_cons (pe_tup (pa_cons (pe_slice sl_U (pe_ix ix_seq (pv 4) pe_int (fun _ _ => rfl)) po_none (po_some (pe_un un_neg pe_int))) (pa_cons (pv 7) pa_nil))) pa_nil)))))))))))
 (pss_cons (ps_if (pt_cmpR (op_eqU hr.units) (pe_callB (r := rLenDK) cr_lenDK rfl T.f_len b_len (pa_cons (pv 1) pa_nil)) pe_int (nomark _)) (pss_one (ps_raiseON X_BadText hr (by decide) rfl tk (pa_cons (pe_callD O_line_behind hr (by decide) (pa_cons (pv 0) pa_nil)) (pa_cons pe_str pa_nil)))) pss_nil)
 (pss_one (ps_ret (pe_callD O_make_scheme hr (by decide) (pa_cons (pe_callTy (r := rTupU _) call_tupleU rfl T.f_tuple b_tuple (pa_cons (pe_callTy (r := rListDK) (cr_listDK rfl) rfl T.f_list b_list (pa_cons (pv 1) pa_nil)) pa_nil)) (pa_cons (pe_callTy (r := rTupU _) call_tupleU rfl T.f_tuple b_tuple (pa_cons (pv 2) pa_nil)) pa_nil)))))))))
def t_scheme_text (K : PySem.W.Frag) : TS := (tSeq (tAsg (tVar 0) (gTup K 2 (gCons (gName 1) (gCons (gName 2) gNil))))
 (tSeq (tAsg (tDc (iSeqU K (tVar 1)) (gName 4) tYes (tVar 4) (tLst tNil) [4]) (gName 3))
 (tSeq (tFor (iSeqU K (tVar 2)) (gTup K 2 (gCons (gName 5) (gCons (gName 6) gNil))) (tDrop (tBM K "list" rAppend (tDGet (tVar 3) (tVar 6)) (tCons (tVar 5) tNil))))
 (tSeq (tAsg (tLst (tCons (tOp (rAddU K) (tC (.str "rooms ")) (tM1 (rJoinU K) (tC (.str " ")) (tVar 1))) tNil)) (gName 7))
 (tSeq (tFor (iSeqU K (tVar 1)) (gName 4) (tIfS (tTr K (tDGet (tVar 3) (tVar 4))) (tDrop (tBM K "list" rAppend (tVar 7) (tCons (tOp (rAddU K) (tOp (rAddU K) (tVar 4) (tC (.str ": "))) (tM1 (rJoinU K) (tC (.str " ")) (tDGet (tVar 3) (tVar 4)))) tNil))) tNext))
 (tRet (tM1 (rJoinU K) (tC (.str "
")) (tVar 7))))))))
theorem dv_scheme_text (T : Txt K mg)  {f : Addr} (cdv : Value) (A : Around) (outer : List PySem.Env) (s : Shared) (H : Hp) (E : XK) (hr : Room 0 (A.deeper (envOfC "scheme_text" (defScope s_scheme_text) s.heap.objs.size f cdv))) :
    PSs (cxOf CX0 P w K mg base N_scheme_text "scheme_text" (defScope s_scheme_text) f cdv A outer s H E) (defBody s_scheme_text) (t_scheme_text K) := by
  have sc := sc_scheme_text
  have pa : PassesOwn (model P w) (cxOf CX0 P w K mg base N_scheme_text "scheme_text" (defScope s_scheme_text) f cdv A outer s H E).A (cxOf CX0 P w K mg base N_scheme_text "scheme_text" (defScope s_scheme_text) f cdv A outer s H E).env (cxOf CX0 P w K mg base N_scheme_text "scheme_text" (defScope s_scheme_text) f cdv A outer s H E).xe := passes_of rfl
  exact (pss_cons (ps_asg (pv 0) (pg_tup rfl (pgs_cons (pg_name (i := 1) sc.nd rfl (by first | exact Or.inl rfl | exact Or.inr rfl)) (pgs_cons (pg_name (i := 2) sc.nd rfl (by first | exact Or.inl rfl | exact Or.inr rfl)) pgs_nil))))
 (pss_cons (ps_setDc (i := 3) (own := [("room", 4)]) (g := (gName 4)) (tt := tYes) rfl sc.nd rfl rfl (sw_trueD rfl rfl rfl (by decide +kernel)) (pi_seqU (pv 1)) (blkOk_by (own := [("room", 4)]) (N := N_scheme_text) (sc := defScope s_scheme_text) (by decide +kernel)) (fun _ _ _ _ _ => (pg_name (i := 4) sc.nd rfl (by first | exact Or.inl rfl | exact Or.inr rfl))) (fun _ _ _ _ _ => pts_nil) (fun _ _ _ _ _ => (pv 4)) (fun _ _ _ _ _ => (pe_lst pa_nil)))
 (pss_cons (ps_for pa rfl (pi_seqU (pv 2)) (pg_tup rfl (pgs_cons (pg_name (i := 5) sc.nd rfl (by first | exact Or.inl rfl | exact Or.inr rfl)) (pgs_cons (pg_name (i := 6) sc.nd rfl (by first | exact Or.inl rfl | exact Or.inr rfl)) pgs_nil))) (pss_one (ps_expr (pe_bm PySem.F.plainAttrs_list PySem.F.slot_list_append PySem.F.type_list_append mt_append (pe_dget (hu_of hr) (pv 3) (pv 6) (fun _ _ => rfl)) (pa_cons (pv 5) pa_nil)))))
 (pss_cons (ps_set (i := 7) sc.nd rfl (by first | exact Or.inl rfl | exact Or.inr rfl) (pe_lst (pa_cons (pe_op op_addU pe_str (pe_joinU pe_str (pv 1))) pa_nil)))
 (pss_cons (ps_for pa rfl (pi_seqU (pv 1)) (pg_name (i := 4) sc.nd rfl (by first | exact Or.inl rfl | exact Or.inr rfl)) (pss_one (ps_if (pt_tr (pe_dget (hu_of hr) (pv 3) (pv 4) (fun _ _ => rfl))) (pss_one (ps_expr (pe_bm PySem.F.plainAttrs_list PySem.F.slot_list_append PySem.F.type_list_append mt_append (pv 7) (pa_cons (pe_op op_addU (pe_op op_addU (pv 4) pe_str) (pe_joinU pe_str (pe_dget (hu_of hr) (pv 3) (pv 4) (fun _ _ => rfl)))) pa_nil)))) pss_nil)))
 (pss_one (ps_ret (pe_joinU pe_str (pv 7)))))))))
def t_u_law_pool (K : PySem.W.Frag) : TS := (tSeq (tAsg (tLc (iSeqU K (tSl (rSlU K) (tVar 0) tNoPart (tPart (tC (.int 63))))) (gName 3) tYes (tIf (tTest (tOp rGeU (tVar 3) (tC (.int 0)))) (tVar 3) (tUn (rU fun i => .int (-i)) (tVar 3))) [3]) (gName 2))
 (tSeq (tIfS (tTest (tOp (rEqU K) (tCB (rLen K) (tCons (tVar 2) tNil)) (tC (.int 0)))) (tAsg (tLst (tCons (tC (.int 97)) tNil)) (gName 2)) tNext)
 (tSeq (tAsg (tLc (iSeqU K (tVar 2)) (gName 3) tYes (tIf (tTest (tOp rGeU (tVar 3) (tOp rPowU (tC (.int 10)) (tC (.int 18))))) (tVar 3) (tC (.int 0))) [3]) (gName 4))
 (tSeq (tAsg (tLst tNil) (gName 5))
 (tSeq (tFor (iRng1 (tCons (tVar 1) tNil)) (gName 6) (tSeq (tAsg (tOp rModU (tVar 6) (tCB (rLen K) (tCons (tVar 2) tNil))) (gName 7))
 (tIfS (tTest (tOp rGtU (tOp (rIx K) (tVar 4) (tVar 7)) (tC (.int 0)))) (tSeq (tDrop (tBM K "list" rAppend (tVar 5) (tCons (tOp rModU (tCB rIntU (tCons (tOp (rIx K) (tVar 4) (tVar 7)) tNil)) (tC (.int 9973))) tNil)))
 (tAsg (tOp rDivU (tOp (rIx K) (tVar 4) (tVar 7)) (tC (.int 9973))) (gSub (tVar 4) (tVar 7) rSetL))) (tSeq (tAsg (tOp rModU (tCB rIntU (tCons (tOp (rAddU K) (tOp (rAddU K) (tOp rMulU (tOp (rIx K) (tVar 2) (tVar 7)) (tC (.int 35969))) (tOp rMulU (tVar 6) (tC (.int 77699)))) (tC (.int 523))) tNil)) (tC (.int 2147483647))) (gName 8))
 (tDrop (tBM K "list" rAppend (tVar 5) (tCons (tOp rDivU (tOp rModU (tCB rIntU (tCons (tOp (rAddU K) (tOp rMulU (tVar 8) (tC (.int 41213))) (tOp rMulU (tVar 6) (tC (.int 41)))) tNil)) (tC (.int 2147483647))) (tC (.int 3))) tNil)))))))
 (tRet (tVar 5)))))))
theorem dv_u_law_pool (T : Txt K mg)  {f : Addr} (cdv : Value) (A : Around) (outer : List PySem.Env) (s : Shared) (H : Hp) (E : XK) (hr : Room 0 (A.deeper (envOfC "_law_pool" (defScope s_u_law_pool) s.heap.objs.size f cdv))) :
    PSs (cxOf CX0 P w K mg base N_u_law_pool "_law_pool" (defScope s_u_law_pool) f cdv A outer s H E) (defBody s_u_law_pool) (t_u_law_pool K) := by
  have sc := sc_u_law_pool
  have pa : PassesOwn (model P w) (cxOf CX0 P w K mg base N_u_law_pool "_law_pool" (defScope s_u_law_pool) f cdv A outer s H E).A (cxOf CX0 P w K mg base N_u_law_pool "_law_pool" (defScope s_u_law_pool) f cdv A outer s H E).env (cxOf CX0 P w K mg base N_u_law_pool "_law_pool" (defScope s_u_law_pool) f cdv A outer s H E).xe := passes_of rfl
  exact (pss_cons (ps_setLc (i := 2) (own := [("cell", 3)]) (g := (gName 3)) (tt := tYes) rfl sc.nd rfl rfl (sw_true rfl rfl rfl (by decide +kernel)) (pi_seqU (pe_slice sl_U (pv 0) po_none (po_some pe_int))) (blkOk_by (own := [("cell", 3)]) (N := N_u_law_pool) (sc := defScope s_u_law_pool) (by decide +kernel)) (fun _ _ _ _ _ => (pg_name (i := 3) sc.nd rfl (by first | exact Or.inl rfl | exact Or.inr rfl))) (fun _ _ _ _ _ => pts_nil) (fun _ _ _ _ _ => (pe_ifExp (pt_cmpR op_geU (pv 3) pe_int (nomark _)) (pv 3) (pe_un un_neg (pv 3)))))
 (pss_cons (ps_if (pt_cmpR (op_eqU hr.units) (pe_callB (r := rLen _) call_len rfl T.f_len b_len (pa_cons (pv 2) pa_nil)) pe_int (nomark _)) (pss_one (ps_set (i := 2) sc.nd rfl (by first | exact Or.inl rfl | exact Or.inr rfl) (pe_lst (pa_cons pe_int pa_nil)))) pss_nil)
 (pss_cons (ps_setLc (i := 4) (own := [("cell", 3)]) (g := (gName 3)) (tt := tYes) rfl sc.nd rfl rfl (sw_true rfl rfl rfl (by decide +kernel)) (pi_seqU (pv 2)) (blkOk_by (own := [("cell", 3)]) (N := N_u_law_pool) (sc := defScope s_u_law_pool) (by decide +kernel)) (fun _ _ _ _ _ => (pg_name (i := 3) sc.nd rfl (by first | exact Or.inl rfl | exact Or.inr rfl))) (fun _ _ _ _ _ => pts_nil) (fun _ _ _ _ _ => (pe_ifExp (pt_cmpR op_geU (pv 3) (pe_op op_pow pe_int pe_int) (nomark _)) (pv 3) pe_int)))
 (pss_cons (ps_set (i := 5) sc.nd rfl (by first | exact Or.inl rfl | exact Or.inr rfl) (pe_lst pa_nil))
 (pss_cons (ps_for pa rfl (pi_range1 rfl T.f_range (pa_cons (pv 1) pa_nil)) (pg_name (i := 6) sc.nd rfl (by first | exact Or.inl rfl | exact Or.inr rfl)) (pss_cons (ps_set (i := 7) sc.nd rfl (by first | exact Or.inl rfl | exact Or.inr rfl) (pe_op op_mod (pv 6) (pe_callB (r := rLen _) call_len rfl T.f_len b_len (pa_cons (pv 2) pa_nil))))
 (pss_one (ps_if (pt_cmpR op_gtU (pe_ix ix_seq (pv 4) (pv 7) (fun _ _ => rfl)) pe_int (nomark _)) (pss_cons (ps_expr (pe_bm PySem.F.plainAttrs_list PySem.F.slot_list_append PySem.F.type_list_append mt_append (pv 5) (pa_cons (pe_op op_mod (pe_callTy (r := rIntU) call_int1 rfl T.f_int b_int (pa_cons (pe_ix ix_seq (pv 4) (pv 7) (fun _ _ => rfl)) pa_nil)) pe_int) pa_nil)))
 (pss_one (ps_asg (pe_op op_fdiv (pe_ix ix_seq (pv 4) (pv 7) (fun _ _ => rfl)) pe_int) (pg_sub (pv 4) (pv 7) set_list)))) (pss_cons (ps_set (i := 8) sc.nd rfl (by first | exact Or.inl rfl | exact Or.inr rfl) (pe_op op_mod (pe_callTy (r := rIntU) call_int1 rfl T.f_int b_int (pa_cons (pe_op op_addU (pe_op op_addU (pe_op op_mulU (pe_ix ix_seq (pv 2) (pv 7) (fun _ _ => rfl)) pe_int) (pe_op op_mulU (pv 6) pe_int)) pe_int) pa_nil)) pe_int))
 (pss_one (ps_expr (pe_bm PySem.F.plainAttrs_list PySem.F.slot_list_append PySem.F.type_list_append mt_append (pv 5) (pa_cons (pe_op op_fdiv (pe_op op_mod (pe_callTy (r := rIntU) call_int1 rfl T.f_int b_int (pa_cons (pe_op op_addU (pe_op op_mulU (pv 8) pe_int) (pe_op op_mulU (pv 6) pe_int)) pa_nil)) pe_int) pe_int) pa_nil)))))))))
 (pss_one (ps_ret (pv 5))))))))
def t_u_law_names (K : PySem.W.Frag) : TS := (tSeq (tAsg (tLst tNil) (gName 3))
 (tSeq (tFor (iRng1 (tCons (tVar 2) tNil)) (gName 4) (tSeq (tAsg (tOp (rIx K) (tVar 0) (tOp (rAddU K) (tVar 1) (tVar 4))) (gName 5))
 (tSeq (tAsg (tOp (rIx K) (tC (.str "abcdefghijklmnoprstuvwxyz")) (tOp rModU (tVar 5) (tC (.int 25)))) (gName 6))
 (tSeq (tAsg (tOp rDivU (tVar 5) (tC (.int 25))) (gName 5))
 (tSeq (tIfS (tAnd (tTest (tOp (rEqU K) (tOp rModU (tVar 5) (tC (.int 5))) (tC (.int 0)))) (tTest (tOp rGtU (tVar 4) (tC (.int 0))))) (tAsg (tOp (rIx K) (tVar 3) (tOp rSubU (tVar 4) (tC (.int 1)))) (gName 6)) tNext)
 (tSeq (tFor (iRng1 (tCons (tOp rModU (tOp rDivU (tVar 5) (tC (.int 5))) (tC (.int 4))) tNil)) (gName 7) (tAsg (tOp (rAddU K) (tVar 6) (tOp (rIx K) (tC (.str "0rbz9eno")) (tOp rModU (tOp (rAddU K) (tOp rDivU (tVar 5) (tC (.int 20))) (tOp rMulU (tC (.int 3)) (tVar 7))) (tC (.int 8))))) (gName 6)))
 (tSeq (tIfS (tTest (tOp (rEqU K) (tOp rModU (tVar 5) (tC (.int 11))) (tC (.int 7)))) (tAsg (tC (.str "rooms")) (gName 6)) tNext)
 (tSeq (tIfS (tOr (tTest (tOp rGtU (tCB (rLen K) (tCons (tVar 6) tNil)) (tC (.int 8)))) (tTest (tOp (rInU K) (tVar 6) (tVar 3)))) (tAsg (tOp (rAddU K) (tC (.str "q")) (tCB rStrI (tCons (tOp (rAddU K) (tC (.int 1000)) (tVar 4)) tNil))) (gName 6)) tNext)
 (tDrop (tBM K "list" rAppend (tVar 3) (tCons (tVar 6) tNil)))))))))))
 (tRet (tVar 3))))
theorem dv_u_law_names (T : Txt K mg)  {f : Addr} (cdv : Value) (A : Around) (outer : List PySem.Env) (s : Shared) (H : Hp) (E : XK) (hr : Room 0 (A.deeper (envOfC "_law_names" (defScope s_u_law_names) s.heap.objs.size f cdv))) :
    PSs (cxOf CX0 P w K mg base N_u_law_names "_law_names" (defScope s_u_law_names) f cdv A outer s H E) (defBody s_u_law_names) (t_u_law_names K) := by
  have sc := sc_u_law_names
  have pa : PassesOwn (model P w) (cxOf CX0 P w K mg base N_u_law_names "_law_names" (defScope s_u_law_names) f cdv A outer s H E).A (cxOf CX0 P w K mg base N_u_law_names "_law_names" (defScope s_u_law_names) f cdv A outer s H E).env (cxOf CX0 P w K mg base N_u_law_names "_law_names" (defScope s_u_law_names) f cdv A outer s H E).xe := passes_of rfl
  exact (pss_cons (ps_set (i := 3) sc.nd rfl (by first | exact Or.inl rfl | exact Or.inr rfl) (pe_lst pa_nil))
 (pss_cons (ps_for pa rfl (pi_range1 rfl T.f_range (pa_cons (pv 2) pa_nil)) (pg_name (i := 4) sc.nd rfl (by first | exact Or.inl rfl | exact Or.inr rfl)) (pss_cons (ps_set (i := 5) sc.nd rfl (by first | exact Or.inl rfl | exact Or.inr rfl) (pe_ix ix_seq (pv 0) (pe_op op_addU (pv 1) (pv 4)) (fun _ _ => rfl)))
 (pss_cons (ps_set (i := 6) sc.nd rfl (by first | exact Or.inl rfl | exact Or.inr rfl) (pe_ix ix_seq pe_str (pe_op op_mod (pv 5) pe_int) (fun _ _ => rfl)))
 (pss_cons (ps_set (i := 5) sc.nd rfl (by first | exact Or.inl rfl | exact Or.inr rfl) (pe_op op_fdiv (pv 5) pe_int))
 (pss_cons (ps_if (PW.pt (pw_and (pt_cmpR (op_eqU hr.units) (pe_op op_mod (pv 5) pe_int) pe_int (nomark _)) (pw_and1 (pt_cmpR op_gtU (pv 4) pe_int (nomark _))))) (pss_one (ps_set (i := 6) sc.nd rfl (by first | exact Or.inl rfl | exact Or.inr rfl) (pe_ix ix_seq (pv 3) (pe_op op_sub (pv 4) pe_int) (fun _ _ => rfl)))) pss_nil)
 (pss_cons (ps_for pa rfl (pi_range1 rfl T.f_range (pa_cons (pe_op op_mod (pe_op op_fdiv (pv 5) pe_int) pe_int) pa_nil)) (pg_name (i := 7) sc.nd rfl (by first | exact Or.inl rfl | exact Or.inr rfl)) (pss_one (ps_set (i := 6) sc.nd rfl (by first | exact Or.inl rfl | exact Or.inr rfl) (pe_op op_addU (pv 6) (pe_ix ix_seq pe_str (pe_op op_mod (pe_op op_addU (pe_op op_fdiv (pv 5) pe_int) (pe_op op_mulU pe_int (pv 7))) pe_int) (fun _ _ => rfl))))))
 (pss_cons (ps_if (pt_cmpR (op_eqU hr.units) (pe_op op_mod (pv 5) pe_int) pe_int (nomark _)) (pss_one (ps_set (i := 6) sc.nd rfl (by first | exact Or.inl rfl | exact Or.inr rfl) pe_str)) pss_nil)
 (pss_cons (ps_if (PW.pt (pw_or (pt_cmpR op_gtU (pe_callB (r := rLen _) call_len rfl T.f_len b_len (pa_cons (pv 6) pa_nil)) pe_int (nomark _)) (pw_or1 (pt_cmpR op_inU (pv 6) (pv 3) rfl)))) (pss_one (ps_set (i := 6) sc.nd rfl (by first | exact Or.inl rfl | exact Or.inr rfl) (pe_op op_addU pe_str (pe_callTy (r := rStrI) call_strI rfl T.f_str b_str (pa_cons (pe_op op_addU pe_int (pv 4)) pa_nil))))) pss_nil)
 (pss_one (ps_expr (pe_bm PySem.F.plainAttrs_list PySem.F.slot_list_append PySem.F.type_list_append mt_append (pv 3) (pa_cons (pv 6) pa_nil))))))))))))
 (pss_one (ps_ret (pv 3)))))
def t_u_law_scheme (K : PySem.W.Frag) : TS := (tSeq (tAsg tDNewT (gName 2))
 (tSeq (tFor (iSeqU K (tVar 1)) (gTup K 2 (gCons (gName 3) (gCons (gName 4) gNil))) (tIfS (tTest (tOp (rNeU K) (tVar 3) (tVar 4))) (sDPut (tVar 2) (tIf (tTest (tOp rLtU (tVar 3) (tVar 4))) (tTup (tCons (tVar 3) (tCons (tVar 4) tNil))) (tTup (tCons (tVar 4) (tCons (tVar 3) tNil)))) (tC (.bl true))) tNext))
 (tRet (tTup (tCons (tCB (rTupU K) (tCons (tCB (rSortedS K) (tCons (tVar 0) tNil)) tNil)) (tCons (tCB (rTupU K) (tCons (tCB (rSortDT K) (tCons (tVar 2) tNil)) tNil)) tNil))))))
theorem dv_u_law_scheme (T : Txt K mg)  {f : Addr} (cdv : Value) (A : Around) (outer : List PySem.Env) (s : Shared) (H : Hp) (E : XK) (hr : Room 0 (A.deeper (envOfC "_law_scheme" (defScope s_u_law_scheme) s.heap.objs.size f cdv))) :
    PSs (cxOf CX0 P w K mg base N_u_law_scheme "_law_scheme" (defScope s_u_law_scheme) f cdv A outer s H E) (defBody s_u_law_scheme) (t_u_law_scheme K) := by
  have sc := sc_u_law_scheme
  have pa : PassesOwn (model P w) (cxOf CX0 P w K mg base N_u_law_scheme "_law_scheme" (defScope s_u_law_scheme) f cdv A outer s H E).A (cxOf CX0 P w K mg base N_u_law_scheme "_law_scheme" (defScope s_u_law_scheme) f cdv A outer s H E).env (cxOf CX0 P w K mg base N_u_law_scheme "_law_scheme" (defScope s_u_law_scheme) f cdv A outer s H E).xe := passes_of rfl
  exact (pss_cons (ps_set (i := 2) sc.nd rfl (by first | exact Or.inl rfl | exact Or.inr rfl) pe_dnewT)
 (pss_cons (ps_for pa rfl (pi_seqU (pv 1)) (pg_tup rfl (pgs_cons (pg_name (i := 3) sc.nd rfl (by first | exact Or.inl rfl | exact Or.inr rfl)) (pgs_cons (pg_name (i := 4) sc.nd rfl (by first | exact Or.inl rfl | exact Or.inr rfl)) pgs_nil))) (pss_one (ps_if (pt_cmpR (op_neU hr.units) (pv 3) (pv 4) (nomark _)) (pss_one (ps_dput (hu_of hr) (pv 2) (pe_ifExp (pt_cmpR op_ltU (pv 3) (pv 4) (nomark _)) (pe_tup (pa_cons (pv 3) (pa_cons (pv 4) pa_nil))) (pe_tup (pa_cons (pv 4) (pa_cons (pv 3) pa_nil)))) pe_bl rfl)) pss_nil)))
 (pss_one (ps_ret (pe_tup (pa_cons (pe_callTy (r := rTupU _) call_tupleU rfl T.f_tuple b_tuple (pa_cons (pe_callB (r := rSortedS _) cr_sortedS rfl T.f_sorted b_sorted (pa_cons (pv 0) pa_nil)) pa_nil)) (pa_cons (pe_callTy (r := rTupU _) call_tupleU rfl T.f_tuple b_tuple (pa_cons (pe_callB (r := rSortDT _) (call_sortedDT rfl) rfl T.f_sorted b_sorted (pa_cons (pv 2) pa_nil)) pa_nil)) pa_nil)))))))
def t_u_law_drawn (K : PySem.W.Frag) : TS := (tSeq (tAsg (tLst tNil) (gName 4))
 (tSeq (tAsg (tOp (rAddU K) (tVar 0) (tLst (tCons (tC (.str "E")) (tCons (tC (.str "N")) (tCons (tC (.str "W")) (tCons (tC (.str "S")) tNil)))))) (gName 5))
 (tSeq (tFor (iRng1 (tCons (tVar 3) tNil)) (gName 6) (tDrop (tBM K "list" rAppend (tVar 4) (tCons (tTup (tCons (tOp (rIx K) (tVar 0) (tOp rModU (tOp (rIx K) (tVar 1) (tOp (rAddU K) (tVar 2) (tVar 6))) (tCB (rLen K) (tCons (tVar 0) tNil)))) (tCons (tOp (rIx K) (tVar 5) (tOp rModU (tOp rDivU (tOp (rIx K) (tVar 1) (tOp (rAddU K) (tVar 2) (tVar 6))) (tC (.int 41))) (tCB (rLen K) (tCons (tVar 5) tNil)))) tNil))) tNil))))
 (tRet (tCall (sp_u_law_scheme K) [] E0 (tCons (tVar 0) (tCons (tVar 4) tNil)))))))
theorem dv_u_law_drawn (T : Txt K mg) (O_u_law_scheme : Okd P w K mg base CX0 1 "_law_scheme" ["rooms", "touches"] (sp_u_law_scheme K)) {f : Addr} (cdv : Value) (A : Around) (outer : List PySem.Env) (s : Shared) (H : Hp) (E : XK) (hr : Room 1 (A.deeper (envOfC "_law_drawn" (defScope s_u_law_drawn) s.heap.objs.size f cdv))) :
    PSs (cxOf CX0 P w K mg base N_u_law_drawn "_law_drawn" (defScope s_u_law_drawn) f cdv A outer s H E) (defBody s_u_law_drawn) (t_u_law_drawn K) := by
  have sc := sc_u_law_drawn
  have pa : PassesOwn (model P w) (cxOf CX0 P w K mg base N_u_law_drawn "_law_drawn" (defScope s_u_law_drawn) f cdv A outer s H E).A (cxOf CX0 P w K mg base N_u_law_drawn "_law_drawn" (defScope s_u_law_drawn) f cdv A outer s H E).env (cxOf CX0 P w K mg base N_u_law_drawn "_law_drawn" (defScope s_u_law_drawn) f cdv A outer s H E).xe := passes_of rfl
  exact (pss_cons (ps_set (i := 4) sc.nd rfl (by first | exact Or.inl rfl | exact Or.inr rfl) (pe_lst pa_nil))
 (pss_cons (ps_set (i := 5) sc.nd rfl (by first | exact Or.inl rfl | exact Or.inr rfl) (pe_op op_addU (pv 0) (pe_lst (pa_cons pe_str (pa_cons pe_str (pa_cons pe_str (pa_cons pe_str pa_nil)))))))
 (pss_cons (ps_for pa rfl (pi_range1 rfl T.f_range (pa_cons (pv 3) pa_nil)) (pg_name (i := 6) sc.nd rfl (by first | exact Or.inl rfl | exact Or.inr rfl)) (pss_one (ps_expr (pe_bm PySem.F.plainAttrs_list PySem.F.slot_list_append PySem.F.type_list_append mt_append (pv 4) (pa_cons (pe_tup (pa_cons (pe_ix ix_seq (pv 0) (pe_op op_mod (pe_ix ix_seq (pv 1) (pe_op op_addU (pv 2) (pv 6)) (fun _ _ => rfl)) (pe_callB (r := rLen _) call_len rfl T.f_len b_len (pa_cons (pv 0) pa_nil))) (fun _ _ => rfl)) (pa_cons (pe_ix ix_seq (pv 5) (pe_op op_mod (pe_op op_fdiv (pe_ix ix_seq (pv 1) (pe_op op_addU (pv 2) (pv 6)) (fun _ _ => rfl)) pe_int) (pe_callB (r := rLen _) call_len rfl T.f_len b_len (pa_cons (pv 5) pa_nil))) (fun _ _ => rfl)) pa_nil))) pa_nil)))))
 (pss_one (ps_ret (pe_callD O_u_law_scheme hr (by decide) (pa_cons (pv 0) (pa_cons (pv 4) pa_nil))))))))
def t_u_law_text (K : PySem.W.Frag) : TS := (tSeq (tAsg (tLst (tCons (tOp (rAddU K) (tC (.str "rooms ")) (tM1 (rJoinU K) (tC (.str " ")) (tCB (rListU K) (tCons (tOp (rIx K) (tVar 0) (tC (.int 0))) tNil)))) tNil)) (gName 1))
 (tSeq (tFor (iSeqU K (tOp (rIx K) (tVar 0) (tC (.int 0)))) (gName 2) (tSeq (tAsg (tLc (iSeqU K (tOp (rIx K) (tVar 0) (tC (.int 1)))) (gTup K 2 (gCons (gName 4) (gCons (gName 5) gNil))) (tTest (tOp (rEqU K) (tVar 5) (tVar 2))) (tVar 4) [4, 5]) (gName 3))
 (tIfS (tTest (tOp rGtU (tCB (rLen K) (tCons (tVar 3) tNil)) (tC (.int 0)))) (tDrop (tBM K "list" rAppend (tVar 1) (tCons (tOp (rAddU K) (tOp (rAddU K) (tVar 2) (tC (.str ": "))) (tM1 (rJoinU K) (tC (.str " ")) (tVar 3))) tNil))) tNext)))
 (tRet (tM1 (rJoinU K) (tC (.str "
")) (tVar 1)))))
theorem dv_u_law_text (T : Txt K mg)  {f : Addr} (cdv : Value) (A : Around) (outer : List PySem.Env) (s : Shared) (H : Hp) (E : XK) (hr : Room 0 (A.deeper (envOfC "_law_text" (defScope s_u_law_text) s.heap.objs.size f cdv))) :
    PSs (cxOf CX0 P w K mg base N_u_law_text "_law_text" (defScope s_u_law_text) f cdv A outer s H E) (defBody s_u_law_text) (t_u_law_text K) := by
  have sc := sc_u_law_text
  have pa : PassesOwn (model P w) (cxOf CX0 P w K mg base N_u_law_text "_law_text" (defScope s_u_law_text) f cdv A outer s H E).A (cxOf CX0 P w K mg base N_u_law_text "_law_text" (defScope s_u_law_text) f cdv A outer s H E).env (cxOf CX0 P w K mg base N_u_law_text "_law_text" (defScope s_u_law_text) f cdv A outer s H E).xe := passes_of rfl
  exact (pss_cons (ps_set (i := 1) sc.nd rfl (by first | exact Or.inl rfl | exact Or.inr rfl) (pe_lst (pa_cons (pe_op op_addU pe_str (pe_joinU pe_str (pe_callTy (r := rListU _) call_listU rfl T.f_list b_list (pa_cons (pe_ix ix_seq (pv 0) pe_int (fun _ _ => rfl)) pa_nil)))) pa_nil)))
 (pss_cons (ps_for pa rfl (pi_seqU (pe_ix ix_seq (pv 0) pe_int (fun _ _ => rfl))) (pg_name (i := 2) sc.nd rfl (by first | exact Or.inl rfl | exact Or.inr rfl)) (pss_cons (ps_setLc (i := 3) (own := [("one", 4), ("other", 5)]) (g := (gTup K 2 (gCons (gName 4) (gCons (gName 5) gNil)))) (tt := (tTest (tOp (rEqU K) (tVar 5) (tVar 2)))) rfl sc.nd rfl rfl (sw_true rfl rfl rfl (by decide +kernel)) (pi_seqU (pe_ix ix_seq (pv 0) pe_int (fun _ _ => rfl))) (blkOk_by (own := [("one", 4), ("other", 5)]) (N := N_u_law_text) (sc := defScope s_u_law_text) (by decide +kernel)) (fun _ _ _ _ _ => (pg_tup rfl (pgs_cons (pg_name (i := 4) sc.nd rfl (by first | exact Or.inl rfl | exact Or.inr rfl)) (pgs_cons (pg_name (i := 5) sc.nd rfl (by first | exact Or.inl rfl | exact Or.inr rfl)) pgs_nil)))) (fun _ _ _ _ _ => (pts_one (pt_cmpR (op_eqU hr.units) (pv 5) (pv 2) (nomark _)))) (fun _ _ _ _ _ => (pv 4)))
 (pss_one (ps_if (pt_cmpR op_gtU (pe_callB (r := rLen _) call_len rfl T.f_len b_len (pa_cons (pv 3) pa_nil)) pe_int (nomark _)) (pss_one (ps_expr (pe_bm PySem.F.plainAttrs_list PySem.F.slot_list_append PySem.F.type_list_append mt_append (pv 1) (pa_cons (pe_op op_addU (pe_op op_addU (pv 2) pe_str) (pe_joinU pe_str (pv 3))) pa_nil)))) pss_nil))))
 (pss_one (ps_ret (pe_joinU pe_str (pv 1))))))
def t_u_law_spaced (K : PySem.W.Frag) : TS := (tSeq (tAsg (tOp rMulU (tC (.str " ")) (tOp (rAddU K) (tC (.int 1)) (tOp rDivU (tOp rModU (tVar 1) (tC (.int 7))) (tC (.int 5))))) (gName 2))
 (tRet (tOp (rAddU K) (tOp (rAddU K) (tOp rMulU (tC (.str " ")) (tOp rDivU (tOp rModU (tOp rDivU (tVar 1) (tC (.int 7))) (tC (.int 9))) (tC (.int 7)))) (tM1 (rJoinU K) (tVar 2) (tVar 0))) (tOp rMulU (tC (.str " ")) (tOp rDivU (tOp rModU (tOp rDivU (tVar 1) (tC (.int 63))) (tC (.int 9))) (tC (.int 7)))))))
theorem dv_u_law_spaced (T : Txt K mg)  {f : Addr} (cdv : Value) (A : Around) (outer : List PySem.Env) (s : Shared) (H : Hp) (E : XK) (hr : Room 0 (A.deeper (envOfC "_law_spaced" (defScope s_u_law_spaced) s.heap.objs.size f cdv))) :
    PSs (cxOf CX0 P w K mg base N_u_law_spaced "_law_spaced" (defScope s_u_law_spaced) f cdv A outer s H E) (defBody s_u_law_spaced) (t_u_law_spaced K) := by
  have sc := sc_u_law_spaced
  exact (pss_cons (ps_set (i := 2) sc.nd rfl (by first | exact Or.inl rfl | exact Or.inr rfl) (pe_op op_mulU pe_str (pe_op op_addU pe_int (pe_op op_fdiv (pe_op op_mod (pv 1) pe_int) pe_int))))
 (pss_one (ps_ret (pe_op op_addU (pe_op op_addU (pe_op op_mulU pe_str (pe_op op_fdiv (pe_op op_mod (pe_op op_fdiv (pv 1) pe_int) pe_int) pe_int)) (pe_joinU (pv 2) (pv 0))) (pe_op op_mulU pe_str (pe_op op_fdiv (pe_op op_mod (pe_op op_fdiv (pv 1) pe_int) pe_int) pe_int))))))
def t_u_law_written (K : PySem.W.Frag) : TS := (tSeq (tAsg (tLst tNil) (gName 4))
 (tSeq (tAsg (tC (.int 0)) (gName 5))
 (tSeq (tFor (iRng1 (tCons (tCB (rLen K) (tCons (tVar 1) tNil)) tNil)) (gName 6) (tIfS (tTest (tOp rLtU (tVar 5) (tCB (rLen K) (tCons (tVar 1) tNil)))) (tSeq (tAsg (tOp (rAddU K) (tC (.int 1)) (tOp rModU (tOp (rIx K) (tVar 2) (tOp (rAddU K) (tVar 3) (tVar 6))) (tIf (tTest (tOp (rEqU K) (tOp rModU (tVar 6) (tC (.int 2))) (tC (.int 0)))) (tCB (rLen K) (tCons (tVar 1) tNil)) (tC (.int 3))))) (gName 7))
 (tSeq (tDrop (tBM K "list" rAppend (tVar 4) (tCons (tCall (sp_u_law_spaced K) [] E0 (tCons (tOp (rAddU K) (tLst (tCons (tC (.str "rooms")) tNil)) (tSl (rSlU K) (tVar 1) (tPart (tVar 5)) (tPart (tOp (rAddU K) (tVar 5) (tVar 7))))) (tCons (tOp rDivU (tOp (rIx K) (tVar 2) (tOp (rAddU K) (tVar 3) (tVar 6))) (tC (.int 41))) tNil))) tNil)))
 (tAug 5 (tVar 7) rIAddU))) tNext))
 (tSeq (tAsg tDNewK (gName 8))
 (tSeq (tFor (iRng1 (tCons (tCB (rLen K) (tCons (tOp (rIx K) (tVar 0) (tC (.int 1))) tNil)) tNil)) (gName 6) (tSeq (tAsg (tOp (rAddU K) (tOp (rIx K) (tVar 2) (tOp (rAddU K) (tOp (rAddU K) (tVar 3) (tC (.int 40))) (tOp rModU (tVar 6) (tC (.int 20))))) (tVar 6)) (gName 9))
 (tSeq (tAsg (tOp (rIx K) (tOp (rIx K) (tVar 0) (tC (.int 1))) (tVar 6)) (gTup K 2 (gCons (gName 10) (gCons (gName 11) gNil))))
 (tSeq (tIfS (tAnd (tTest (tOp (rEqU K) (tOp rModU (tVar 9) (tC (.int 2))) (tC (.int 1)))) (tOr (tTest (tOp (rNinU K) (tVar 10) (tC (.str "ENWS")))) (tTest (tOp rGtU (tOp rModU (tOp (rIx K) (tVar 2) (tOp (rAddU K) (tVar 3) (tC (.int 66)))) (tC (.int 3))) (tC (.int 0)))))) (tPar 10 11 (tCons (tVar 11) (tCons (tVar 10) tNil))) tNext)
 (tSeq (sDPut (tVar 8) (tVar 10) (tOp (rAddU K) (tDGet2 (tVar 8) (tVar 10) (tLst tNil)) (tLst (tCons (tVar 11) tNil))))
 (tSeq (tIfS (tTest (tOp (rEqU K) (tOp rModU (tOp rDivU (tVar 9) (tC (.int 2))) (tC (.int 5))) (tC (.int 0)))) (sDPut (tVar 8) (tVar 11) (tOp (rAddU K) (tDGet2 (tVar 8) (tVar 11) (tLst tNil)) (tLst (tCons (tVar 10) tNil)))) tNext)
 (tIfS (tTest (tOp (rEqU K) (tOp rModU (tOp rDivU (tVar 9) (tC (.int 10))) (tC (.int 5))) (tC (.int 0)))) (sDPut (tVar 8) (tVar 10) (tOp (rAddU K) (tDGet (tVar 8) (tVar 10)) (tLst (tCons (tVar 11) tNil)))) tNext)))))))
 (tSeq (tAsg (tCB rListDK (tCons (tVar 8) tNil)) (gName 12))
 (tSeq (tIfS (tTest (tOp rGtU (tCB (rLen K) (tCons (tVar 12) tNil)) (tC (.int 0)))) (tSeq (tAsg (tOp rModU (tOp (rIx K) (tVar 2) (tVar 3)) (tCB (rLen K) (tCons (tVar 12) tNil))) (gName 13))
 (tAsg (tOp (rAddU K) (tSl (rSlU K) (tVar 12) (tPart (tVar 13)) tNoPart) (tSl (rSlU K) (tVar 12) tNoPart (tPart (tVar 13)))) (gName 12))) tNext)
 (tSeq (tFor (iRng1 (tCons (tCB (rLen K) (tCons (tVar 12) tNil)) tNil)) (gName 6) (tSeq (tAsg (tDGet (tVar 8) (tOp (rIx K) (tVar 12) (tVar 6))) (gName 14))
 (tSeq (tAsg (tOp (rAddU K) (tC (.int 1)) (tOp rModU (tOp (rAddU K) (tOp (rIx K) (tVar 2) (tOp (rAddU K) (tOp (rAddU K) (tVar 3) (tC (.int 60))) (tOp rModU (tVar 6) (tC (.int 5))))) (tVar 6)) (tCB (rLen K) (tCons (tVar 14) tNil)))) (gName 15))
 (tSeq (tDrop (tBM K "list" rAppend (tVar 4) (tCons (tCall (sp_u_law_spaced K) [] E0 (tCons (tOp (rAddU K) (tLst (tCons (tOp (rAddU K) (tOp (rIx K) (tVar 12) (tVar 6)) (tC (.str ":"))) tNil)) (tSl (rSlU K) (tVar 14) tNoPart (tPart (tVar 15)))) (tCons (tOp rDivU (tOp (rIx K) (tVar 2) (tOp (rAddU K) (tVar 3) (tOp rModU (tVar 6) (tC (.int 40))))) (tC (.int 97))) tNil))) tNil)))
 (tIfS (tTest (tOp rLtU (tVar 15) (tCB (rLen K) (tCons (tVar 14) tNil)))) (tDrop (tBM K "list" rAppend (tVar 4) (tCons (tCall (sp_u_law_spaced K) [] E0 (tCons (tOp (rAddU K) (tLst (tCons (tOp (rAddU K) (tOp (rIx K) (tVar 12) (tVar 6)) (tC (.str ":"))) tNil)) (tSl (rSlU K) (tVar 14) (tPart (tVar 15)) tNoPart)) (tCons (tOp rDivU (tOp (rIx K) (tVar 2) (tOp (rAddU K) (tVar 3) (tOp rModU (tVar 6) (tC (.int 40))))) (tC (.int 89))) tNil))) tNil))) tNext)))))
 (tRet (tVar 4))))))))))
theorem dv_u_law_written (T : Txt K mg) (O_u_law_spaced : Okd P w K mg base CX0 1 "_law_spaced" ["words", "pick"] (sp_u_law_spaced K)) {f : Addr} (cdv : Value) (A : Around) (outer : List PySem.Env) (s : Shared) (H : Hp) (E : XK) (hr : Room 1 (A.deeper (envOfC "_law_written" (defScope s_u_law_written) s.heap.objs.size f cdv))) :
    PSs (cxOf CX0 P w K mg base N_u_law_written "_law_written" (defScope s_u_law_written) f cdv A outer s H E) (defBody s_u_law_written) (t_u_law_written K) := by
  have sc := sc_u_law_written
  have pa : PassesOwn (model P w) (cxOf CX0 P w K mg base N_u_law_written "_law_written" (defScope s_u_law_written) f cdv A outer s H E).A (cxOf CX0 P w K mg base N_u_law_written "_law_written" (defScope s_u_law_written) f cdv A outer s H E).env (cxOf CX0 P w K mg base N_u_law_written "_law_written" (defScope s_u_law_written) f cdv A outer s H E).xe := passes_of rfl
  exact (pss_cons (ps_set (i := 4) sc.nd rfl (by first | exact Or.inl rfl | exact Or.inr rfl) (pe_lst pa_nil))
 (pss_cons (ps_set (i := 5) sc.nd rfl (by first | exact Or.inl rfl | exact Or.inr rfl) pe_int)
 (pss_cons (ps_for pa rfl (pi_range1 rfl T.f_range (pa_cons (pe_callB (r := rLen _) call_len rfl T.f_len b_len (pa_cons (pv 1) pa_nil)) pa_nil)) (pg_name (i := 6) sc.nd rfl (by first | exact Or.inl rfl | exact Or.inr rfl)) (pss_one (ps_if (pt_cmpR op_ltU (pv 5) (pe_callB (r := rLen _) call_len rfl T.f_len b_len (pa_cons (pv 1) pa_nil)) (nomark _)) (pss_cons (ps_set (i := 7) sc.nd rfl (by first | exact Or.inl rfl | exact Or.inr rfl) (pe_op op_addU pe_int (pe_op op_mod (pe_ix ix_seq (pv 2) (pe_op op_addU (pv 3) (pv 6)) (fun _ _ => rfl)) (pe_ifExp (pt_cmpR (op_eqU hr.units) (pe_op op_mod (pv 6) pe_int) pe_int (nomark _)) (pe_callB (r := rLen _) call_len rfl T.f_len b_len (pa_cons (pv 1) pa_nil)) pe_int))))
 (pss_cons (ps_expr (pe_bm PySem.F.plainAttrs_list PySem.F.slot_list_append PySem.F.type_list_append mt_append (pv 4) (pa_cons (pe_callD O_u_law_spaced hr (by decide) (pa_cons (pe_op op_addU (pe_lst (pa_cons pe_str pa_nil)) (pe_slice sl_U (pv 1) (po_some (pv 5)) (po_some (pe_op op_addU (pv 5) (pv 7))))) (pa_cons (pe_op op_fdiv (pe_ix ix_seq (pv 2) (pe_op op_addU (pv 3) (pv 6)) (fun _ _ => rfl)) pe_int) pa_nil))) pa_nil)))
 (pss_one (ps_aug (i := 5) sc.nd rfl (by first | exact Or.inl rfl | exact Or.inr rfl) (pv 7) ip_addU)))) pss_nil)))
 (pss_cons (ps_set (i := 8) sc.nd rfl (by first | exact Or.inl rfl | exact Or.inr rfl) pe_dnewK)
 (pss_cons (ps_for pa rfl (pi_range1 rfl T.f_range (pa_cons (pe_callB (r := rLen _) call_len rfl T.f_len b_len (pa_cons (pe_ix ix_seq (pv 0) pe_int (fun _ _ => rfl)) pa_nil)) pa_nil)) (pg_name (i := 6) sc.nd rfl (by first | exact Or.inl rfl | exact Or.inr rfl)) (pss_cons (ps_set (i := 9) sc.nd rfl (by first | exact Or.inl rfl | exact Or.inr rfl) (pe_op op_addU (pe_ix ix_seq (pv 2) (pe_op op_addU (pe_op op_addU (pv 3) pe_int) (pe_op op_mod (pv 6) pe_int)) (fun _ _ => rfl)) (pv 6)))
 (pss_cons (ps_asg (pe_ix ix_seq (pe_ix ix_seq (pv 0) pe_int (fun _ _ => rfl)) (pv 6) (fun _ _ => rfl)) (pg_tup rfl (pgs_cons (pg_name (i := 10) sc.nd rfl (by first | exact Or.inl rfl | exact Or.inr rfl)) (pgs_cons (pg_name (i := 11) sc.nd rfl (by first | exact Or.inl rfl | exact Or.inr rfl)) pgs_nil))))
 (pss_cons (ps_if (PW.pt (pw_and (pt_cmpR (op_eqU hr.units) (pe_op op_mod (pv 9) pe_int) pe_int (nomark _)) (pw_and1 (PW.pt (pw_or (pt_cmpR op_ninU (pv 10) pe_str rfl) (pw_or1 (pt_cmpR op_gtU (pe_op op_mod (pe_ix ix_seq (pv 2) (pe_op op_addU (pv 3) pe_int) (fun _ _ => rfl)) pe_int) pe_int (nomark _)))))))) (pss_one (ps_par (i := 10) (j := 11) rfl sc.nd rfl rfl (by decide) rfl rfl (pa_cons (pv 11) (pa_cons (pv 10) pa_nil)) rfl)) pss_nil)
 (pss_cons (ps_dput (hu_of hr) (pv 8) (pv 10) (pe_op op_addU (pe_dget2 (hu_of hr) (pv 8) (pv 10) (pe_lst pa_nil) ⟨rfl, rfl, rfl, rfl⟩) (pe_lst (pa_cons (pv 11) pa_nil))) rfl)
 (pss_cons (ps_if (pt_cmpR (op_eqU hr.units) (pe_op op_mod (pe_op op_fdiv (pv 9) pe_int) pe_int) pe_int (nomark _)) (pss_one (ps_dput (hu_of hr) (pv 8) (pv 11) (pe_op op_addU (pe_dget2 (hu_of hr) (pv 8) (pv 11) (pe_lst pa_nil) ⟨rfl, rfl, rfl, rfl⟩) (pe_lst (pa_cons (pv 10) pa_nil))) rfl)) pss_nil)
 (pss_one (ps_if (pt_cmpR (op_eqU hr.units) (pe_op op_mod (pe_op op_fdiv (pv 9) pe_int) pe_int) pe_int (nomark _)) (pss_one (ps_dput (hu_of hr) (pv 8) (pv 10) (pe_op op_addU (pe_dget (hu_of hr) (pv 8) (pv 10) (fun _ _ => rfl)) (pe_lst (pa_cons (pv 11) pa_nil))) rfl)) pss_nil))))))))
 (pss_cons (ps_set (i := 12) sc.nd rfl (by first | exact Or.inl rfl | exact Or.inr rfl) (pe_callTy (r := rListDK) (cr_listDK rfl) rfl T.f_list b_list (pa_cons (pv 8) pa_nil)))
 (pss_cons (ps_if (pt_cmpR op_gtU (pe_callB (r := rLen _) call_len rfl T.f_len b_len (pa_cons (pv 12) pa_nil)) pe_int (nomark _)) (pss_cons (ps_set (i := 13) sc.nd rfl (by first | exact Or.inl rfl | exact Or.inr rfl) (pe_op op_mod (pe_ix ix_seq (pv 2) (pv 3) (fun _ _ => rfl)) (pe_callB (r := rLen _) call_len rfl T.f_len b_len (pa_cons (pv 12) pa_nil))))
 (pss_one (ps_set (i := 12) sc.nd rfl (by first | exact Or.inl rfl | exact Or.inr rfl) (pe_op op_addU (pe_slice sl_U (pv 12) (po_some (pv 13)) po_none) (pe_slice sl_U (pv 12) po_none (po_some (pv 13))))))) pss_nil)
 (pss_cons (ps_for pa rfl (pi_range1 rfl T.f_range (pa_cons (pe_callB (r := rLen _) call_len rfl T.f_len b_len (pa_cons (pv 12) pa_nil)) pa_nil)) (pg_name (i := 6) sc.nd rfl (by first | exact Or.inl rfl | exact Or.inr rfl)) (pss_cons (ps_set (i := 14) sc.nd rfl (by first | exact Or.inl rfl | exact Or.inr rfl) (pe_dget (hu_of hr) (pv 8) (pe_ix ix_seq (pv 12) (pv 6) (fun _ _ => rfl)) (fun _ _ => rfl)))
 (pss_cons (ps_set (i := 15) sc.nd rfl (by first | exact Or.inl rfl | exact Or.inr rfl) (pe_op op_addU pe_int (pe_op op_mod (pe_op op_addU (pe_ix ix_seq (pv 2) (pe_op op_addU (pe_op op_addU (pv 3) pe_int) (pe_op op_mod (pv 6) pe_int)) (fun _ _ => rfl)) (pv 6)) (pe_callB (r := rLen _) call_len rfl T.f_len b_len (pa_cons (pv 14) pa_nil)))))
 (pss_cons (ps_expr (pe_bm PySem.F.plainAttrs_list PySem.F.slot_list_append PySem.F.type_list_append mt_append (pv 4) (pa_cons (pe_callD O_u_law_spaced hr (by decide) (pa_cons (pe_op op_addU (pe_lst (pa_cons (pe_op op_addU (pe_ix ix_seq (pv 12) (pv 6) (fun _ _ => rfl)) pe_str) pa_nil)) (pe_slice sl_U (pv 14) po_none (po_some (pv 15)))) (pa_cons (pe_op op_fdiv (pe_ix ix_seq (pv 2) (pe_op op_addU (pv 3) (pe_op op_mod (pv 6) pe_int)) (fun _ _ => rfl)) pe_int) pa_nil))) pa_nil)))
 (pss_one (ps_if (pt_cmpR op_ltU (pv 15) (pe_callB (r := rLen _) call_len rfl T.f_len b_len (pa_cons (pv 14) pa_nil)) (nomark _)) (pss_one (ps_expr (pe_bm PySem.F.plainAttrs_list PySem.F.slot_list_append PySem.F.type_list_append mt_append (pv 4) (pa_cons (pe_callD O_u_law_spaced hr (by decide) (pa_cons (pe_op op_addU (pe_lst (pa_cons (pe_op op_addU (pe_ix ix_seq (pv 12) (pv 6) (fun _ _ => rfl)) pe_str) pa_nil)) (pe_slice sl_U (pv 14) (po_some (pv 15)) po_none)) (pa_cons (pe_op op_fdiv (pe_ix ix_seq (pv 2) (pe_op op_addU (pv 3) (pe_op op_mod (pv 6) pe_int)) (fun _ _ => rfl)) pe_int) pa_nil))) pa_nil)))) pss_nil))))))
 (pss_one (ps_ret (pv 4)))))))))))
def t_u_law_bare (K : PySem.W.Frag) : TS := (tSeq (tIfS (tOr (tTest (tOp rLtU (tCB (rLen K) (tCons (tVar 0) tNil)) (tC (.int 1)))) (tTest (tOp rGtU (tCB (rLen K) (tCons (tVar 0) tNil)) (tC (.int 8))))) (tRet (tC (.bl false))) tNext)
 (tSeq (tFor (iRng1 (tCons (tCB (rLen K) (tCons (tVar 0) tNil)) tNil)) (gName 1) (tIfS (tAnd (tTest (tOp (rNinU K) (tOp (rIx K) (tVar 0) (tVar 1)) (tC (.str "abcdefghijklmnopqrstuvwxyz")))) (tOr (tTest (tOp (rEqU K) (tVar 1) (tC (.int 0)))) (tTest (tOp (rNinU K) (tOp (rIx K) (tVar 0) (tVar 1)) (tC (.str "0123456789")))))) (tRet (tC (.bl false))) tNext))
 (tRet (tC (.bl true)))))
theorem dv_u_law_bare (T : Txt K mg)  {f : Addr} (cdv : Value) (A : Around) (outer : List PySem.Env) (s : Shared) (H : Hp) (E : XK) (hr : Room 0 (A.deeper (envOfC "_law_bare" (defScope s_u_law_bare) s.heap.objs.size f cdv))) :
    PSs (cxOf CX0 P w K mg base N_u_law_bare "_law_bare" (defScope s_u_law_bare) f cdv A outer s H E) (defBody s_u_law_bare) (t_u_law_bare K) := by
  have sc := sc_u_law_bare
  have pa : PassesOwn (model P w) (cxOf CX0 P w K mg base N_u_law_bare "_law_bare" (defScope s_u_law_bare) f cdv A outer s H E).A (cxOf CX0 P w K mg base N_u_law_bare "_law_bare" (defScope s_u_law_bare) f cdv A outer s H E).env (cxOf CX0 P w K mg base N_u_law_bare "_law_bare" (defScope s_u_law_bare) f cdv A outer s H E).xe := passes_of rfl
  exact (pss_cons (ps_if (PW.pt (pw_or (pt_cmpR op_ltU (pe_callB (r := rLen _) call_len rfl T.f_len b_len (pa_cons (pv 0) pa_nil)) pe_int (nomark _)) (pw_or1 (pt_cmpR op_gtU (pe_callB (r := rLen _) call_len rfl T.f_len b_len (pa_cons (pv 0) pa_nil)) pe_int (nomark _))))) (pss_one (ps_ret pe_bl)) pss_nil)
 (pss_cons (ps_for pa rfl (pi_range1 rfl T.f_range (pa_cons (pe_callB (r := rLen _) call_len rfl T.f_len b_len (pa_cons (pv 0) pa_nil)) pa_nil)) (pg_name (i := 1) sc.nd rfl (by first | exact Or.inl rfl | exact Or.inr rfl)) (pss_one (ps_if (PW.pt (pw_and (pt_cmpR op_ninU (pe_ix ix_seq (pv 0) (pv 1) (fun _ _ => rfl)) pe_str rfl) (pw_and1 (PW.pt (pw_or (pt_cmpR (op_eqU hr.units) (pv 1) pe_int (nomark _)) (pw_or1 (pt_cmpR op_ninU (pe_ix ix_seq (pv 0) (pv 1) (fun _ _ => rfl)) pe_str rfl))))))) (pss_one (ps_ret pe_bl)) pss_nil)))
 (pss_one (ps_ret pe_bl))))
def t_u_law_rooms_word (K : PySem.W.Frag) : TS := (tSeq (tIfS (tTest (tOp (rEqU K) (tCB (rLen K) (tCons (tVar 0) tNil)) (tC (.int 1)))) (tRet (tC (.str "words"))) tNext)
 (tSeq (tIfS (tTr K (tVar 2)) (tRet (tC (.str "place"))) tNext)
 (tSeq (tIfS (tTest (tOp rGtU (tCB (rLen K) (tCons (tLc (iSeqU K (tSl (rSlU K) (tVar 0) (tPart (tC (.int 1))) tNoPart)) (gName 3) (tNot (tTr K (tCall (sp_u_law_bare K) [] E0 (tCons (tVar 3) tNil)))) (tVar 3) [3]) tNil)) (tC (.int 0)))) (tRet (tC (.str "name"))) tNext)
 (tSeq (tAsg (tCB (rListU K) (tCons (tVar 1) tNil)) (gName 4))
 (tSeq (tFor (iSeqU K (tSl (rSlU K) (tVar 0) (tPart (tC (.int 1))) tNoPart)) (gName 3) (tSeq (tIfS (tTest (tOp (rInU K) (tVar 3) (tVar 4))) (tRet (tC (.str "twice"))) tNext)
 (tDrop (tBM K "list" rAppend (tVar 4) (tCons (tVar 3) tNil)))))
 (tRet (tIf (tTest (tOp rGtU (tCB (rLen K) (tCons (tVar 4) tNil)) (tC (.int 40)))) (tC (.str "limit")) (tC (.str "")))))))))
theorem dv_u_law_rooms_word (T : Txt K mg) (O_u_law_bare : Okd P w K mg base CX0 1 "_law_bare" ["thing"] (sp_u_law_bare K)) {f : Addr} (cdv : Value) (A : Around) (outer : List PySem.Env) (s : Shared) (H : Hp) (E : XK) (hr : Room 1 (A.deeper (envOfC "_law_rooms_word" (defScope s_u_law_rooms_word) s.heap.objs.size f cdv))) :
    PSs (cxOf CX0 P w K mg base N_u_law_rooms_word "_law_rooms_word" (defScope s_u_law_rooms_word) f cdv A outer s H E) (defBody s_u_law_rooms_word) (t_u_law_rooms_word K) := by
  have sc := sc_u_law_rooms_word
  have pa : PassesOwn (model P w) (cxOf CX0 P w K mg base N_u_law_rooms_word "_law_rooms_word" (defScope s_u_law_rooms_word) f cdv A outer s H E).A (cxOf CX0 P w K mg base N_u_law_rooms_word "_law_rooms_word" (defScope s_u_law_rooms_word) f cdv A outer s H E).env (cxOf CX0 P w K mg base N_u_law_rooms_word "_law_rooms_word" (defScope s_u_law_rooms_word) f cdv A outer s H E).xe := passes_of rfl
  exact (pss_cons (ps_if (pt_cmpR (op_eqU hr.units) (pe_callB (r := rLen _) call_len rfl T.f_len b_len (pa_cons (pv 0) pa_nil)) pe_int (nomark _)) (pss_one (ps_ret pe_str)) pss_nil)
 (pss_cons (ps_if (pt_tr (pv 2)) (pss_one (ps_ret pe_str)) pss_nil)
 (pss_cons (ps_if (pt_cmpR op_gtU (pe_callB (r := rLen _) call_len rfl T.f_len b_len (pa_cons (pe_lc (own := [("word", 3)]) (g := (gName 3)) (tt := (tNot (tTr K (tCall (sp_u_law_bare K) [] E0 (tCons (tVar 3) tNil))))) rfl sc.nd (pi_seqU (pe_slice sl_U (pv 0) (po_some pe_int) po_none)) (blkOk_by (own := [("word", 3)]) (N := N_u_law_rooms_word) (sc := defScope s_u_law_rooms_word) (by decide +kernel)) (fun _ _ _ _ _ => (pg_name (i := 3) sc.nd rfl (by first | exact Or.inl rfl | exact Or.inr rfl))) (fun _ _ _ _ _ => (pts_one (pt_not (pt_tr (pe_callD O_u_law_bare hr (by decide) (pa_cons (pv 3) pa_nil)))))) (fun _ _ _ _ _ => (pv 3))) pa_nil)) pe_int (nomark _)) (pss_one (ps_ret pe_str)) pss_nil)
 (pss_cons (ps_set (i := 4) sc.nd rfl (by first | exact Or.inl rfl | exact Or.inr rfl) (pe_callTy (r := rListU _) call_listU rfl T.f_list b_list (pa_cons (pv 1) pa_nil)))
 (pss_cons (ps_for pa rfl (pi_seqU (pe_slice sl_U (pv 0) (po_some pe_int) po_none)) (pg_name (i := 3) sc.nd rfl (by first | exact Or.inl rfl | exact Or.inr rfl)) (pss_cons (ps_if (pt_cmpR op_inU (pv 3) (pv 4) rfl) (pss_one (ps_ret pe_str)) pss_nil)
 (pss_one (ps_expr (pe_bm PySem.F.plainAttrs_list PySem.F.slot_list_append PySem.F.type_list_append mt_append (pv 4) (pa_cons (pv 3) pa_nil))))))
 (pss_one (ps_ret (pe_ifExp (pt_cmpR op_gtU (pe_callB (r := rLen _) call_len rfl T.f_len b_len (pa_cons (pv 4) pa_nil)) pe_int (nomark _)) pe_str pe_str))))))))
def t_u_law_touch_word (K : PySem.W.Frag) : TS := (tSeq (tIfS (tOr (tTest (tOp (rEqU K) (tCB (rLen K) (tCons (tVar 0) tNil)) (tC (.int 1)))) (tNot (tTr K (tM1 rEndsU (tOp (rIx K) (tVar 0) (tC (.int 0))) (tC (.str ":")))))) (tRet (tC (.str "words"))) tNext)
 (tSeq (tIfS (tTest (tOp (rEqU K) (tCB (rLen K) (tCons (tVar 1) tNil)) (tC (.int 0)))) (tRet (tC (.str "place"))) tNext)
 (tSeq (tAsg (tLst (tCons (tC (.str "E")) (tCons (tC (.str "N")) (tCons (tC (.str "W")) (tCons (tC (.str "S")) tNil))))) (gName 2))
 (tSeq (tAsg (tOp (rAddU K) (tLst (tCons (tSl (rSlU K) (tOp (rIx K) (tVar 0) (tC (.int 0))) tNoPart (tPart (tOp rSubU (tCB (rLen K) (tCons (tOp (rIx K) (tVar 0) (tC (.int 0))) tNil)) (tC (.int 1))))) tNil)) (tSl (rSlU K) (tVar 0) (tPart (tC (.int 1))) tNoPart)) (gName 3))
 (tSeq (tIfS (tTest (tOp rGtU (tCB (rLen K) (tCons (tLc (iSeqU K (tVar 3)) (gName 4) (tAnd (tTest (tOp (rNinU K) (tVar 4) (tVar 2))) (tNot (tTr K (tCall (sp_u_law_bare K) [] E0 (tCons (tVar 4) tNil))))) (tVar 4) [4]) tNil)) (tC (.int 0)))) (tRet (tC (.str "name"))) tNext)
 (tSeq (tIfS (tTest (tOp rGtU (tCB (rLen K) (tCons (tLc (iSeqU K (tVar 3)) (gName 4) (tAnd (tTest (tOp (rNinU K) (tVar 4) (tVar 2))) (tTest (tOp (rNinU K) (tVar 4) (tVar 1)))) (tVar 4) [4]) tNil)) (tC (.int 0)))) (tRet (tC (.str "unknown"))) tNext)
 (tSeq (tIfS (tAnd (tTest (tOp (rInU K) (tOp (rIx K) (tVar 3) (tC (.int 0))) (tVar 2))) (tTest (tOp rGtU (tCB (rLen K) (tCons (tLc (iSeqU K (tSl (rSlU K) (tVar 3) (tPart (tC (.int 1))) tNoPart)) (gName 4) (tTest (tOp (rInU K) (tVar 4) (tVar 2))) (tVar 4) [4]) tNil)) (tC (.int 0))))) (tRet (tC (.str "sides"))) tNext)
 (tRet (tIf (tTest (tOp (rInU K) (tOp (rIx K) (tVar 3) (tC (.int 0))) (tSl (rSlU K) (tVar 3) (tPart (tC (.int 1))) tNoPart))) (tC (.str "self")) (tC (.str "")))))))))))
theorem dv_u_law_touch_word (T : Txt K mg) (O_u_law_bare : Okd P w K mg base CX0 1 "_law_bare" ["thing"] (sp_u_law_bare K)) {f : Addr} (cdv : Value) (A : Around) (outer : List PySem.Env) (s : Shared) (H : Hp) (E : XK) (hr : Room 1 (A.deeper (envOfC "_law_touch_word" (defScope s_u_law_touch_word) s.heap.objs.size f cdv))) :
    PSs (cxOf CX0 P w K mg base N_u_law_touch_word "_law_touch_word" (defScope s_u_law_touch_word) f cdv A outer s H E) (defBody s_u_law_touch_word) (t_u_law_touch_word K) := by
  have sc := sc_u_law_touch_word
  exact (pss_cons (ps_if (PW.pt (pw_or (pt_cmpR (op_eqU hr.units) (pe_callB (r := rLen _) call_len rfl T.f_len b_len (pa_cons (pv 0) pa_nil)) pe_int (nomark _)) (pw_or1 (pt_not (pt_tr (pe_endsU (pe_ix ix_seq (pv 0) pe_int (fun _ _ => rfl)) pe_str)))))) (pss_one (ps_ret pe_str)) pss_nil)
 (pss_cons (ps_if (pt_cmpR (op_eqU hr.units) (pe_callB (r := rLen _) call_len rfl T.f_len b_len (pa_cons (pv 1) pa_nil)) pe_int (nomark _)) (pss_one (ps_ret pe_str)) pss_nil)
 (pss_cons (ps_set (i := 2) sc.nd rfl (by first | exact Or.inl rfl | exact Or.inr rfl) (pe_lst (pa_cons pe_str (pa_cons pe_str (pa_cons pe_str (pa_cons pe_str pa_nil))))))
 (pss_cons (ps_set (i := 3) sc.nd rfl (by first | exact Or.inl rfl | exact Or.inr rfl) (pe_op op_addU (pe_lst (pa_cons (pe_slice sl_U (pe_ix ix_seq (pv 0) pe_int (fun _ _ => rfl)) po_none (po_some (pe_op op_sub (pe_callB (r := rLen _) call_len rfl T.f_len b_len (pa_cons (pe_ix ix_seq (pv 0) pe_int (fun _ _ => rfl)) pa_nil)) pe_int))) pa_nil)) (pe_slice sl_U (pv 0) (po_some pe_int) po_none)))
 (pss_cons (ps_if (pt_cmpR op_gtU (pe_callB (r := rLen _) call_len rfl T.f_len b_len (pa_cons (pe_lc (own := [("name", 4)]) (g := (gName 4)) (tt := (tAnd (tTest (tOp (rNinU K) (tVar 4) (tVar 2))) (tNot (tTr K (tCall (sp_u_law_bare K) [] E0 (tCons (tVar 4) tNil)))))) rfl sc.nd (pi_seqU (pv 3)) (blkOk_by (own := [("name", 4)]) (N := N_u_law_touch_word) (sc := defScope s_u_law_touch_word) (by decide +kernel)) (fun _ _ _ _ _ => (pg_name (i := 4) sc.nd rfl (by first | exact Or.inl rfl | exact Or.inr rfl))) (fun _ _ _ _ _ => (pts_one (PW.pt (pw_and (pt_cmpR op_ninU (pv 4) (pv 2) rfl) (pw_and1 (pt_not (pt_tr (pe_callD O_u_law_bare hr (by decide) (pa_cons (pv 4) pa_nil))))))))) (fun _ _ _ _ _ => (pv 4))) pa_nil)) pe_int (nomark _)) (pss_one (ps_ret pe_str)) pss_nil)
 (pss_cons (ps_if (pt_cmpR op_gtU (pe_callB (r := rLen _) call_len rfl T.f_len b_len (pa_cons (pe_lc (own := [("name", 4)]) (g := (gName 4)) (tt := (tAnd (tTest (tOp (rNinU K) (tVar 4) (tVar 2))) (tTest (tOp (rNinU K) (tVar 4) (tVar 1))))) rfl sc.nd (pi_seqU (pv 3)) (blkOk_by (own := [("name", 4)]) (N := N_u_law_touch_word) (sc := defScope s_u_law_touch_word) (by decide +kernel)) (fun _ _ _ _ _ => (pg_name (i := 4) sc.nd rfl (by first | exact Or.inl rfl | exact Or.inr rfl))) (fun _ _ _ _ _ => (pts_one (PW.pt (pw_and (pt_cmpR op_ninU (pv 4) (pv 2) rfl) (pw_and1 (pt_cmpR op_ninU (pv 4) (pv 1) rfl)))))) (fun _ _ _ _ _ => (pv 4))) pa_nil)) pe_int (nomark _)) (pss_one (ps_ret pe_str)) pss_nil)
 (pss_cons (ps_if (PW.pt (pw_and (pt_cmpR op_inU (pe_ix ix_seq (pv 3) pe_int (fun _ _ => rfl)) (pv 2) rfl) (pw_and1 (pt_cmpR op_gtU (pe_callB (r := rLen _) call_len rfl T.f_len b_len (pa_cons (pe_lc (own := [("name", 4)]) (g := (gName 4)) (tt := (tTest (tOp (rInU K) (tVar 4) (tVar 2)))) rfl sc.nd (pi_seqU (pe_slice sl_U (pv 3) (po_some pe_int) po_none)) (blkOk_by (own := [("name", 4)]) (N := N_u_law_touch_word) (sc := defScope s_u_law_touch_word) (by decide +kernel)) (fun _ _ _ _ _ => (pg_name (i := 4) sc.nd rfl (by first | exact Or.inl rfl | exact Or.inr rfl))) (fun _ _ _ _ _ => (pts_one (pt_cmpR op_inU (pv 4) (pv 2) rfl))) (fun _ _ _ _ _ => (pv 4))) pa_nil)) pe_int (nomark _))))) (pss_one (ps_ret pe_str)) pss_nil)
 (pss_one (ps_ret (pe_ifExp (pt_cmpR op_inU (pe_ix ix_seq (pv 3) pe_int (fun _ _ => rfl)) (pe_slice sl_U (pv 3) (po_some pe_int) po_none) rfl) pe_str pe_str))))))))))
def t_u_law_read (K : PySem.W.Frag) : TS := (tSeq (tAsg (tIf (tTest (tOp (rNeU K) (tVar 0) (tC (.str "")))) (tM1 rSplitU (tVar 0) (tC (.str "
"))) (tLst tNil)) (gName 1))
 (tSeq (tAsg (tLst tNil) (gName 2))
 (tSeq (tAsg (tLst tNil) (gName 3))
 (tSeq (tAsg (tC (.bl false)) (gName 4))
 (tSeq (tFor (iRng1 (tCons (tCB (rLen K) (tCons (tVar 1) tNil)) tNil)) (gName 5) (tSeq (tAsg (tLc (iSeqU K (tM1 rSplitU (tOp (rIx K) (tVar 1) (tVar 5)) (tC (.str " ")))) (gName 7) (tTest (tOp (rNeU K) (tVar 7) (tC (.str "")))) (tVar 7) [7]) (gName 6))
 (tSeq (tIfS (tOr (tTest (tOp (rEqU K) (tCB (rLen K) (tCons (tVar 6) tNil)) (tC (.int 0)))) (tTest (tOp (rEqU K) (tOp (rIx K) (tOp (rIx K) (tVar 6) (tC (.int 0))) (tC (.int 0))) (tC (.str "#"))))) tCont tNext)
 (tSeq (tAsg (tIf (tTest (tOp (rEqU K) (tOp (rIx K) (tVar 6) (tC (.int 0))) (tC (.str "rooms")))) (tCall (sp_u_law_rooms_word K) [] E0 (tCons (tVar 6) (tCons (tVar 2) (tCons (tVar 4) tNil)))) (tCall (sp_u_law_touch_word K) [] E0 (tCons (tVar 6) (tCons (tVar 2) tNil)))) (gName 7))
 (tSeq (tIfS (tTest (tOp (rNeU K) (tVar 7) (tC (.str "")))) (tRet (tLst (tCons (tC (.bl true)) (tCons (tOp (rAddU K) (tVar 5) (tC (.int 1))) (tCons (tVar 7) tNil))))) tNext)
 (tIfS (tTest (tOp (rEqU K) (tOp (rIx K) (tVar 6) (tC (.int 0))) (tC (.str "rooms")))) (tAug 2 (tSl (rSlU K) (tVar 6) (tPart (tC (.int 1))) tNoPart) rIAddU) (tSeq (tAsg (tC (.bl true)) (gName 4))
 (tAug 3 (tLc (iSeqU K (tSl (rSlU K) (tVar 6) (tPart (tC (.int 1))) tNoPart)) (gName 8) tYes (tTup (tCons (tSl (rSlU K) (tOp (rIx K) (tVar 6) (tC (.int 0))) tNoPart (tPart (tOp rSubU (tCB (rLen K) (tCons (tOp (rIx K) (tVar 6) (tC (.int 0))) tNil)) (tC (.int 1))))) (tCons (tVar 8) tNil))) [8]) rIAddU))))))))
 (tSeq (tIfS (tTest (tOp (rEqU K) (tCB (rLen K) (tCons (tVar 2) tNil)) (tC (.int 0)))) (tRet (tLst (tCons (tC (.bl true)) (tCons (tOp (rAddU K) (tCB (rLen K) (tCons (tVar 1) tNil)) (tC (.int 1))) (tCons (tC (.str "place")) tNil))))) tNext)
 (tRet (tLst (tCons (tC (.bl false)) (tCons (tCall (sp_u_law_scheme K) [] E0 (tCons (tVar 2) (tCons (tVar 3) tNil))) tNil))))))))))
theorem dv_u_law_read (T : Txt K mg) (O_u_law_scheme : Okd P w K mg base CX0 1 "_law_scheme" ["rooms", "touches"] (sp_u_law_scheme K)) (O_u_law_rooms_word : Okd P w K mg base CX0 2 "_law_rooms_word" ["words", "rooms", "touched"] (sp_u_law_rooms_word K)) (O_u_law_touch_word : Okd P w K mg base CX0 2 "_law_touch_word" ["words", "rooms"] (sp_u_law_touch_word K)) {f : Addr} (cdv : Value) (A : Around) (outer : List PySem.Env) (s : Shared) (H : Hp) (E : XK) (hr : Room 2 (A.deeper (envOfC "_law_read" (defScope s_u_law_read) s.heap.objs.size f cdv))) :
    PSs (cxOf CX0 P w K mg base N_u_law_read "_law_read" (defScope s_u_law_read) f cdv A outer s H E) (defBody s_u_law_read) (t_u_law_read K) := by
  have sc := sc_u_law_read
  have pa : PassesOwn (model P w) (cxOf CX0 P w K mg base N_u_law_read "_law_read" (defScope s_u_law_read) f cdv A outer s H E).A (cxOf CX0 P w K mg base N_u_law_read "_law_read" (defScope s_u_law_read) f cdv A outer s H E).env (cxOf CX0 P w K mg base N_u_law_read "_law_read" (defScope s_u_law_read) f cdv A outer s H E).xe := passes_of rfl
  exact (pss_cons (ps_set (i := 1) sc.nd rfl (by first | exact Or.inl rfl | exact Or.inr rfl) (pe_ifExp (pt_cmpR (op_neU hr.units) (pv 0) pe_str (nomark _)) (pe_splitU (pv 0) pe_str) (pe_lst pa_nil)))
 (pss_cons (ps_set (i := 2) sc.nd rfl (by first | exact Or.inl rfl | exact Or.inr rfl) (pe_lst pa_nil))
 (pss_cons (ps_set (i := 3) sc.nd rfl (by first | exact Or.inl rfl | exact Or.inr rfl) (pe_lst pa_nil))
 (pss_cons (ps_set (i := 4) sc.nd rfl (by first | exact Or.inl rfl | exact Or.inr rfl) pe_bl)
 (pss_cons (ps_for pa rfl (pi_range1 rfl T.f_range (pa_cons (pe_callB (r := rLen _) call_len rfl T.f_len b_len (pa_cons (pv 1) pa_nil)) pa_nil)) (pg_name (i := 5) sc.nd rfl (by first | exact Or.inl rfl | exact Or.inr rfl)) (pss_cons (ps_set (i := 6) sc.nd rfl (by first | exact Or.inl rfl | exact Or.inr rfl) (pe_lc (own := [("word", 7)]) (g := (gName 7)) (tt := (tTest (tOp (rNeU K) (tVar 7) (tC (.str ""))))) rfl sc.nd (pi_seqU (pe_splitU (pe_ix ix_seq (pv 1) (pv 5) (fun _ _ => rfl)) pe_str)) (blkOk_by (own := [("word", 7)]) (N := N_u_law_read) (sc := defScope s_u_law_read) (by decide +kernel)) (fun _ _ _ _ _ => (pg_name (i := 7) sc.nd rfl (by first | exact Or.inl rfl | exact Or.inr rfl))) (fun _ _ _ _ _ => (pts_one (pt_cmpR (op_neU hr.units) (pv 7) pe_str (nomark _)))) (fun _ _ _ _ _ => (pv 7))))
 (pss_cons (ps_if (PW.pt (pw_or (pt_cmpR (op_eqU hr.units) (pe_callB (r := rLen _) call_len rfl T.f_len b_len (pa_cons (pv 6) pa_nil)) pe_int (nomark _)) (pw_or1 (pt_cmpR (op_eqU hr.units) (pe_ix ix_seq (pe_ix ix_seq (pv 6) pe_int (fun _ _ => rfl)) pe_int (fun _ _ => rfl)) pe_str (nomark _))))) (pss_one ps_continue) pss_nil)
 (pss_cons (ps_set (i := 7) sc.nd rfl (by first | exact Or.inl rfl | exact Or.inr rfl) (pe_ifExp (pt_cmpR (op_eqU hr.units) (pe_ix ix_seq (pv 6) pe_int (fun _ _ => rfl)) pe_str (nomark _)) (pe_callD O_u_law_rooms_word hr (by decide) (pa_cons (pv 6) (pa_cons (pv 2) (pa_cons (pv 4) pa_nil)))) (pe_callD O_u_law_touch_word hr (by decide) (pa_cons (pv 6) (pa_cons (pv 2) pa_nil)))))
 (pss_cons (ps_if (pt_cmpR (op_neU hr.units) (pv 7) pe_str (nomark _)) (pss_one (ps_ret (pe_lst (pa_cons pe_bl (pa_cons (pe_op op_addU (pv 5) pe_int) (pa_cons (pv 7) pa_nil)))))) pss_nil)
 (pss_one (ps_if (pt_cmpR (op_eqU hr.units) (pe_ix ix_seq (pv 6) pe_int (fun _ _ => rfl)) pe_str (nomark _)) (pss_one (ps_aug (i := 2) sc.nd rfl (by first | exact Or.inl rfl | exact Or.inr rfl) (pe_slice sl_U (pv 6) (po_some pe_int) po_none) ip_addU)) (pss_cons (ps_set (i := 4) sc.nd rfl (by first | exact Or.inl rfl | exact Or.inr rfl) pe_bl)
 (pss_one (ps_aug (i := 3) sc.nd rfl (by first | exact Or.inl rfl | exact Or.inr rfl) (pe_lc (own := [("other", 8)]) (g := (gName 8)) (tt := tYes) rfl sc.nd (pi_seqU (pe_slice sl_U (pv 6) (po_some pe_int) po_none)) (blkOk_by (own := [("other", 8)]) (N := N_u_law_read) (sc := defScope s_u_law_read) (by decide +kernel)) (fun _ _ _ _ _ => (pg_name (i := 8) sc.nd rfl (by first | exact Or.inl rfl | exact Or.inr rfl))) (fun _ _ _ _ _ => pts_nil) (fun _ _ _ _ _ => (pe_tup (pa_cons (pe_slice sl_U (pe_ix ix_seq (pv 6) pe_int (fun _ _ => rfl)) po_none (po_some (pe_op op_sub (pe_callB (r := rLen _) call_len rfl T.f_len b_len (pa_cons (pe_ix ix_seq (pv 6) pe_int (fun _ _ => rfl)) pa_nil)) pe_int))) (pa_cons (pv 8) pa_nil))))) ip_addU))))))))))
 (pss_cons (ps_if (pt_cmpR (op_eqU hr.units) (pe_callB (r := rLen _) call_len rfl T.f_len b_len (pa_cons (pv 2) pa_nil)) pe_int (nomark _)) (pss_one (ps_ret (pe_lst (pa_cons pe_bl (pa_cons (pe_op op_addU (pe_callB (r := rLen _) call_len rfl T.f_len b_len (pa_cons (pv 1) pa_nil)) pe_int) (pa_cons pe_str pa_nil)))))) pss_nil)
 (pss_one (ps_ret (pe_lst (pa_cons pe_bl (pa_cons (pe_callD O_u_law_scheme hr (by decide) (pa_cons (pv 2) (pa_cons (pv 3) pa_nil))) pa_nil)))))))))))
def t_u_law_same (K : PySem.W.Frag) (sp : Sp) : TS := (tSeq (tIfS (tOr (tNot (tTr K (tCB (rIsi K) (tCons (tVar 0) (tCons (tC (.ty "tuple")) tNil))))) (tTest (tOp (rNeU K) (tCB (rLen K) (tCons (tVar 0) tNil)) (tCB (rLen K) (tCons (tVar 1) tNil))))) (tRet (tC (.bl false))) tNext)
 (tSeq (tFor (iRng1 (tCons (tCB (rLen K) (tCons (tVar 1) tNil)) tNil)) (gName 2) (tIfS (tTr K (tCB (rIsi K) (tCons (tOp (rIx K) (tVar 1) (tVar 2)) (tCons (tC (.ty "tuple")) tNil)))) (tIfS (tNot (tTr K (tCall sp [] E0 (tCons (tOp (rIx K) (tVar 0) (tVar 2)) (tCons (tOp (rIx K) (tVar 1) (tVar 2)) tNil))))) (tRet (tC (.bl false))) tNext) (tIfS (tOr (tNot (tTr K (tCB (rIsi K) (tCons (tOp (rIx K) (tVar 0) (tVar 2)) (tCons (tC (.ty "str")) tNil))))) (tTest (tOp (rNeU K) (tOp (rIx K) (tVar 0) (tVar 2)) (tOp (rIx K) (tVar 1) (tVar 2))))) (tRet (tC (.bl false))) tNext)))
 (tRet (tC (.bl true)))))
theorem dv_u_law_same {k : Nat} {sp : Sp} (T : Txt K mg) (O_u_law_same : Okd P w K mg base CX0 k "_law_same" ["told", "due"] sp) {f : Addr} (cdv : Value) (A : Around) (outer : List PySem.Env) (s : Shared) (H : Hp) (E : XK) (hr : Room k (A.deeper (envOfC "_law_same" (defScope s_u_law_same) s.heap.objs.size f cdv))) :
    PSs (cxOf CX0 P w K mg base N_u_law_same "_law_same" (defScope s_u_law_same) f cdv A outer s H E) (defBody s_u_law_same) (t_u_law_same K sp) := by
  have sc := sc_u_law_same
  have pa : PassesOwn (model P w) (cxOf CX0 P w K mg base N_u_law_same "_law_same" (defScope s_u_law_same) f cdv A outer s H E).A (cxOf CX0 P w K mg base N_u_law_same "_law_same" (defScope s_u_law_same) f cdv A outer s H E).env (cxOf CX0 P w K mg base N_u_law_same "_law_same" (defScope s_u_law_same) f cdv A outer s H E).xe := passes_of rfl
  exact (pss_cons (ps_if (PW.pt (pw_or (pt_not (pt_tr (pe_callB (r := rIsi _) call_isi rfl T.f_isinstance b_isinstance (pa_cons (pv 0) (pa_cons (pe_bltn (v := .ty "tuple") rfl T.f_tuple b_tuple rfl) pa_nil))))) (pw_or1 (pt_cmpR (op_neU hr.units) (pe_callB (r := rLen _) call_len rfl T.f_len b_len (pa_cons (pv 0) pa_nil)) (pe_callB (r := rLen _) call_len rfl T.f_len b_len (pa_cons (pv 1) pa_nil)) (nomark _))))) (pss_one (ps_ret pe_bl)) pss_nil)
 (pss_cons (ps_for pa rfl (pi_range1 rfl T.f_range (pa_cons (pe_callB (r := rLen _) call_len rfl T.f_len b_len (pa_cons (pv 1) pa_nil)) pa_nil)) (pg_name (i := 2) sc.nd rfl (by first | exact Or.inl rfl | exact Or.inr rfl)) (pss_one (ps_if (pt_tr (pe_callB (r := rIsi _) call_isi rfl T.f_isinstance b_isinstance (pa_cons (pe_ix ix_seq (pv 1) (pv 2) (fun _ _ => rfl)) (pa_cons (pe_bltn (v := .ty "tuple") rfl T.f_tuple b_tuple rfl) pa_nil)))) (pss_one (ps_if (pt_not (pt_tr (pe_callD O_u_law_same hr (Nat.le_refl _) (pa_cons (pe_ix ix_seq (pv 0) (pv 2) (fun _ _ => rfl)) (pa_cons (pe_ix ix_seq (pv 1) (pv 2) (fun _ _ => rfl)) pa_nil))))) (pss_one (ps_ret pe_bl)) pss_nil)) (pss_one (ps_if (PW.pt (pw_or (pt_not (pt_tr (pe_callB (r := rIsi _) call_isi rfl T.f_isinstance b_isinstance (pa_cons (pe_ix ix_seq (pv 0) (pv 2) (fun _ _ => rfl)) (pa_cons (pe_bltn (v := .ty "str") rfl T.f_str b_str rfl) pa_nil))))) (pw_or1 (pt_cmpR (op_neU hr.units) (pe_ix ix_seq (pv 0) (pv 2) (fun _ _ => rfl)) (pe_ix ix_seq (pv 1) (pv 2) (fun _ _ => rfl)) (nomark _))))) (pss_one (ps_ret pe_bl)) pss_nil)))))
 (pss_one (ps_ret pe_bl))))
def ts_u_law_right (K : PySem.W.Frag) (a : Addr) (cls : Value) (d : Option Addr) : TS := (tSeq (tIfS (tOr (tNot (tTr K (tCB (rIsX K cls d a) (tCons (tVar 3) (tCons (tC (.ref (He.ga K "BadText"))) tNil))))) (tOr (tNot (tTr K (tCB (rIsX K cls d a) (tCons (tVar 3) (tCons (tC (.ref (He.ga K "TextError"))) tNil))))) (tNot (tTr K (tCB (rIsX K cls d a) (tCons (tVar 3) (tCons (tC (.ty "ValueError")) tNil))))))) (tRet (tC (.bl false))) tNext)
 (tSeq (tIfS (tOr (tTr K (tCB (rIsX K cls d a) (tCons (tVar 3) (tCons (tC (.ref (He.ga K "DataError"))) tNil)))) (tOr (tTr K (tCB (rIsX K cls d a) (tCons (tVar 3) (tCons (tC (.ref (He.ga K "BadScheme"))) tNil)))) (tOr (tTr K (tCB (rIsX K cls d a) (tCons (tVar 3) (tCons (tC (.ref (He.ga K "BadCommand"))) tNil)))) (tNot (tTr K (tOp (rIx K) (tVar 1) (tC (.int 0)))))))) (tRet (tC (.bl false))) tNext)
 (tSeq (tIfS (tOr (tNot (tTr K (tCB (rIsi K) (tCons (tXf a cls d (He.ga K "BadText") "line" (tVar 3)) (tCons (tC (.ty "int")) tNil))))) (tOr (tTr K (tCB (rIsi K) (tCons (tXf a cls d (He.ga K "BadText") "line" (tVar 3)) (tCons (tC (.ty "bool")) tNil)))) (tNot (tTr K (tCB (rIsi K) (tCons (tXf a cls d (He.ga K "BadText") "word" (tVar 3)) (tCons (tC (.ty "str")) tNil))))))) (tRet (tC (.bl false))) tNext)
 (tRet (tAndV (tOp (rEqU K) (tXf a cls d (He.ga K "BadText") "line" (tVar 3)) (tOp (rIx K) (tVar 1) (tC (.int 1)))) (tOp (rEqU K) (tXf a cls d (He.ga K "BadText") "word" (tVar 3)) (tOp (rIx K) (tVar 1) (tC (.int 2)))))))))
def t_u_law_right (K : PySem.W.Frag) : TS := (tSeq (tAsg (tCall (sp_u_law_read K) [] E0 (tCons (tVar 0) tNil)) (gName 1))
 (tSeq (tTryA K (.ref (He.ga K "PlanError")) 3 (ts_u_law_right K) (sp_read_scheme K) (tCons (tVar 0) tNil) 2)
 (tRet (tAndV (tNotV (tOp (rIx K) (tVar 1) (tC (.int 0)))) (tCall (sp_u_law_same K) [] E0 (tCons (tVar 2) (tCons (tOp (rIx K) (tVar 1) (tC (.int 1))) tNil)))))))
theorem dv_u_law_right (T : Txt K mg) (O_u_law_read : Okd P w K mg base CX0 3 "_law_read" ["text"] (sp_u_law_read K)) (O_read_scheme : Okd P w K mg base (L2N.CX P w) 5 "read_scheme" ["text"] (sp_read_scheme K)) (O_u_law_same : Okd P w K mg base CX0 4 "_law_same" ["told", "due"] (sp_u_law_same K)) (X_BadText : ExOk P w K mg base 1 "BadText" ["line", "word"]) {f : Addr} (cdv : Value) (A : Around) (outer : List PySem.Env) (s : Shared) (H : Hp) (E : XK) (hr : Room 5 (A.deeper (envOfC "_law_right" (defScope s_u_law_right) s.heap.objs.size f cdv))) :
    PSs (cxOf CX0 P w K mg base N_u_law_right "_law_right" (defScope s_u_law_right) f cdv A outer s H E) (defBody s_u_law_right) (t_u_law_right K) := by
  have sc := sc_u_law_right
  exact (pss_cons (ps_set (i := 1) sc.nd rfl (by first | exact Or.inl rfl | exact Or.inr rfl) (pe_callD O_u_law_read hr (by decide) (pa_cons (pv 0) pa_nil)))
 (pss_cons (L2N.ps_try_as (i := 3) (tb := fun W => tAsg (tCallS (sp_read_scheme K) (WE W) (tCons (tVar 0) tNil)) (gName 2)) (ts := ts_u_law_right K) (Wout := fun _ _ _ _ => False) rfl rfl sc.nd rfl rfl ⟨rfl, by decide, .inl T.g_PlanError⟩ takes0N
 (fun W pn xe tk _ => pss_one (ps_set (i := 2) sc.nd rfl (by first | exact Or.inl rfl | exact Or.inr rfl) (by exact (pe_callDSN O_read_scheme hr (by decide) tk (pa_cons (pv 0) pa_nil)))))
 (fun a oe cls d pn hz hf => (pss_cons (ps_if (PW.pt (pw_or (pt_not (pt_tr (pe_callB (r := rIsX _ cls d a) (call_isX hz.zc hf) rfl T.f_isinstance b_isinstance (pa_cons (pv 3) (pa_cons (pe_gref T.g_BadText) pa_nil))))) (pw_or (pt_not (pt_tr (pe_callB (r := rIsX _ cls d a) (call_isX hz.zc hf) rfl T.f_isinstance b_isinstance (pa_cons (pv 3) (pa_cons (pe_gref T.g_TextError) pa_nil))))) (pw_or1 (pt_not (pt_tr (pe_callB (r := rIsX _ cls d a) (call_isX hz.zc hf) rfl T.f_isinstance b_isinstance (pa_cons (pv 3) (pa_cons (pe_bltn (v := .ty "ValueError") rfl T.f_ValueError b_ValueError rfl) pa_nil))))))))) (pss_one (ps_ret pe_bl)) pss_nil)
 (pss_cons (ps_if (PW.pt (pw_or (pt_tr (pe_callB (r := rIsX _ cls d a) (call_isX hz.zc hf) rfl T.f_isinstance b_isinstance (pa_cons (pv 3) (pa_cons (pe_gref T.g_DataError) pa_nil)))) (pw_or (pt_tr (pe_callB (r := rIsX _ cls d a) (call_isX hz.zc hf) rfl T.f_isinstance b_isinstance (pa_cons (pv 3) (pa_cons (pe_gref T.g_BadScheme) pa_nil)))) (pw_or (pt_tr (pe_callB (r := rIsX _ cls d a) (call_isX hz.zc hf) rfl T.f_isinstance b_isinstance (pa_cons (pv 3) (pa_cons (pe_gref T.g_BadCommand) pa_nil)))) (pw_or1 (pt_not (pt_tr (pe_ix ix_seq (pv 1) pe_int (fun _ _ => rfl))))))))) (pss_one (ps_ret pe_bl)) pss_nil)
 (pss_cons (ps_if (PW.pt (pw_or (pt_not (pt_tr (pe_callB (r := rIsi _) call_isi rfl T.f_isinstance b_isinstance (pa_cons (pe_xf X_BadText.ef.xf T.n_BadText_line hz.zc hf (pv 3)) (pa_cons (pe_bltn (v := .ty "int") rfl T.f_int b_int rfl) pa_nil))))) (pw_or (pt_tr (pe_callB (r := rIsi _) call_isi rfl T.f_isinstance b_isinstance (pa_cons (pe_xf X_BadText.ef.xf T.n_BadText_line hz.zc hf (pv 3)) (pa_cons (pe_bltn (v := .ty "bool") rfl T.f_bool b_bool rfl) pa_nil)))) (pw_or1 (pt_not (pt_tr (pe_callB (r := rIsi _) call_isi rfl T.f_isinstance b_isinstance (pa_cons (pe_xf X_BadText.ef.xf T.n_BadText_word hz.zc hf (pv 3)) (pa_cons (pe_bltn (v := .ty "str") rfl T.f_str b_str rfl) pa_nil))))))))) (pss_one (ps_ret pe_bl)) pss_nil)
 (pss_one (ps_ret (pe_and (pe_cmpR (op_eqU hr.units) (pe_xf X_BadText.ef.xf T.n_BadText_line hz.zc hf (pv 3)) (pe_ix ix_seq (pv 1) pe_int (fun _ _ => rfl)) (nomark _)) (pe_one (pe_cmpR (op_eqU hr.units) (pe_xf X_BadText.ef.xf T.n_BadText_word hz.zc hf (pv 3)) (pe_ix ix_seq (pv 1) pe_int (fun _ _ => rfl)) (nomark _)))))))))))
 (pss_one (ps_ret (pe_and (pe_not (pe_ix ix_seq (pv 1) pe_int (fun _ _ => rfl))) (pe_one (pe_callD O_u_law_same hr (by decide) (pa_cons (pv 2) (pa_cons (pe_ix ix_seq (pv 1) pe_int (fun _ _ => rfl)) pa_nil)))))))))
def t_u_law_wrong_lines (K : PySem.W.Frag) : TS := (tSeq (tAsg (tOp (rIx K) (tVar 0) (tOp rModU (tVar 1) (tCB (rLen K) (tCons (tVar 0) tNil)))) (gName 2))
 (tSeq (tAsg (tOp (rIx K) (tC (.str "ENWS")) (tOp rModU (tOp rDivU (tVar 1) (tC (.int 41))) (tC (.int 4)))) (gName 3))
 (tSeq (tAsg (tOp (rIx K) (tVar 0) (tOp rModU (tOp rDivU (tVar 1) (tC (.int 164))) (tCB (rLen K) (tCons (tVar 0) tNil)))) (gName 4))
 (tSeq (tAsg (tLst (tCons (tOp (rAddU K) (tVar 2) (tC (.str ":"))) (tCons (tOp (rAddU K) (tVar 2) (tC (.str " N"))) (tCons (tC (.str ":")) (tCons (tOp (rAddU K) (tC (.str ": ")) (tVar 2)) (tCons (tOp (rAddU K) (tOp (rAddU K) (tVar 2) (tC (.str " : "))) (tVar 3)) (tCons (tOp (rAddU K) (tOp (rAddU K) (tVar 2) (tC (.str ": "))) (tVar 2)) (tCons (tOp (rAddU K) (tOp (rAddU K) (tVar 3) (tC (.str ": "))) (tVar 3)) tNil)))))))) (gName 5))
 (tSeq (tAug 5 (tLst (tCons (tOp (rAddU K) (tOp (rAddU K) (tOp (rAddU K) (tVar 3) (tC (.str ": "))) (tVar 4)) (tC (.str " E"))) (tCons (tOp (rAddU K) (tVar 2) (tC (.str ": A"))) (tCons (tOp (rAddU K) (tC (.str "A: ")) (tVar 2)) (tCons (tOp (rAddU K) (tVar 2) (tC (.str ":: N"))) (tCons (tOp (rAddU K) (tVar 2) (tC (.str ": N:"))) (tCons (tOp (rAddU K) (tVar 2) (tC (.str ": q9z9"))) tNil))))))) rIAddU)
 (tSeq (tAug 5 (tLst (tCons (tOp (rAddU K) (tC (.str "q9z9: ")) (tVar 3)) (tCons (tOp (rAddU K) (tOp (rAddU K) (tVar 2) (tC (.str ": q9z9 "))) (tVar 2)) (tCons (tC (.str "E: N q9z9")) (tCons (tC (.str "E: N a-b")) (tCons (tOp (rAddU K) (tOp (rAddU K) (tOp (rAddU K) (tOp (rAddU K) (tVar 2) (tC (.str ": "))) (tVar 4)) (tC (.str " "))) (tVar 2)) tNil)))))) rIAddU)
 (tSeq (tAug 5 (tLst (tCons (tC (.str "abcdefghi: N")) (tCons (tOp (rAddU K) (tVar 2) (tC (.str ": EN"))) (tCons (tOp (rAddU K) (tOp (rAddU K) (tVar 2) (tC (.str ":"))) (tVar 3)) (tCons (tOp (rAddU K) (tC (.str "e: ")) (tVar 2)) (tCons (tOp (rAddU K) (tOp (rAddU K) (tOp (rAddU K) (tOp (rAddU K) (tVar 2) (tC (.str ": "))) (tVar 3)) (tC (.str " 9a "))) (tVar 2)) tNil)))))) rIAddU)
 (tRet (tOp (rAddU K) (tVar 5) (tLst (tCons (tOp (rAddU K) (tC (.str "Rooms: ")) (tVar 2)) (tCons (tC (.str "q9z9:")) (tCons (tC (.str "roomsq8 N")) (tCons (tOp (rAddU K) (tC (.str "rooms: ")) (tVar 2)) tNil))))))))))))))
theorem dv_u_law_wrong_lines (T : Txt K mg)  {f : Addr} (cdv : Value) (A : Around) (outer : List PySem.Env) (s : Shared) (H : Hp) (E : XK) (hr : Room 0 (A.deeper (envOfC "_law_wrong_lines" (defScope s_u_law_wrong_lines) s.heap.objs.size f cdv))) :
    PSs (cxOf CX0 P w K mg base N_u_law_wrong_lines "_law_wrong_lines" (defScope s_u_law_wrong_lines) f cdv A outer s H E) (defBody s_u_law_wrong_lines) (t_u_law_wrong_lines K) := by
  have sc := sc_u_law_wrong_lines
  exact (pss_cons (ps_set (i := 2) sc.nd rfl (by first | exact Or.inl rfl | exact Or.inr rfl) (pe_ix ix_seq (pv 0) (pe_op op_mod (pv 1) (pe_callB (r := rLen _) call_len rfl T.f_len b_len (pa_cons (pv 0) pa_nil))) (fun _ _ => rfl)))
 (pss_cons (ps_set (i := 3) sc.nd rfl (by first | exact Or.inl rfl | exact Or.inr rfl) (pe_ix ix_seq pe_str (pe_op op_mod (pe_op op_fdiv (pv 1) pe_int) pe_int) (fun _ _ => rfl)))
 (pss_cons (ps_set (i := 4) sc.nd rfl (by first | exact Or.inl rfl | exact Or.inr rfl) (pe_ix ix_seq (pv 0) (pe_op op_mod (pe_op op_fdiv (pv 1) pe_int) (pe_callB (r := rLen _) call_len rfl T.f_len b_len (pa_cons (pv 0) pa_nil))) (fun _ _ => rfl)))
 (pss_cons (ps_set (i := 5) sc.nd rfl (by first | exact Or.inl rfl | exact Or.inr rfl) (pe_lst (pa_cons (pe_op op_addU (pv 2) pe_str) (pa_cons (pe_op op_addU (pv 2) pe_str) (pa_cons pe_str (pa_cons (pe_op op_addU pe_str (pv 2)) (pa_cons (pe_op op_addU (pe_op op_addU (pv 2) pe_str) (pv 3)) (pa_cons (pe_op op_addU (pe_op op_addU (pv 2) pe_str) (pv 2)) (pa_cons (pe_op op_addU (pe_op op_addU (pv 3) pe_str) (pv 3)) pa_nil)))))))))
 (pss_cons (ps_aug (i := 5) sc.nd rfl (by first | exact Or.inl rfl | exact Or.inr rfl) (pe_lst (pa_cons (pe_op op_addU (pe_op op_addU (pe_op op_addU (pv 3) pe_str) (pv 4)) pe_str) (pa_cons (pe_op op_addU (pv 2) pe_str) (pa_cons (pe_op op_addU pe_str (pv 2)) (pa_cons (pe_op op_addU (pv 2) pe_str) (pa_cons (pe_op op_addU (pv 2) pe_str) (pa_cons (pe_op op_addU (pv 2) pe_str) pa_nil))))))) ip_addU)
 (pss_cons (ps_aug (i := 5) sc.nd rfl (by first | exact Or.inl rfl | exact Or.inr rfl) (pe_lst (pa_cons (pe_op op_addU pe_str (pv 3)) (pa_cons (pe_op op_addU (pe_op op_addU (pv 2) pe_str) (pv 2)) (pa_cons pe_str (pa_cons pe_str (pa_cons (pe_op op_addU (pe_op op_addU (pe_op op_addU (pe_op op_addU (pv 2) pe_str) (pv 4)) pe_str) (pv 2)) pa_nil)))))) ip_addU)
 (pss_cons (ps_aug (i := 5) sc.nd rfl (by first | exact Or.inl rfl | exact Or.inr rfl) (pe_lst (pa_cons pe_str (pa_cons (pe_op op_addU (pv 2) pe_str) (pa_cons (pe_op op_addU (pe_op op_addU (pv 2) pe_str) (pv 3)) (pa_cons (pe_op op_addU pe_str (pv 2)) (pa_cons (pe_op op_addU (pe_op op_addU (pe_op op_addU (pe_op op_addU (pv 2) pe_str) (pv 3)) pe_str) (pv 2)) pa_nil)))))) ip_addU)
 (pss_one (ps_ret (pe_op op_addU (pv 5) (pe_lst (pa_cons (pe_op op_addU pe_str (pv 2)) (pa_cons pe_str (pa_cons pe_str (pa_cons (pe_op op_addU pe_str (pv 2)) pa_nil)))))))))))))))
def t_u_law_wrong_heads (K : PySem.W.Frag) : TS := (tSeq (tAsg (tOp (rIx K) (tVar 0) (tOp rModU (tVar 1) (tCB (rLen K) (tCons (tVar 0) tNil)))) (gName 2))
 (tSeq (tAsg (tLst (tCons (tC (.str "rooms")) (tCons (tOp (rAddU K) (tC (.str "rooms ")) (tVar 2)) (tCons (tC (.str "rooms q8 q8")) (tCons (tC (.str "rooms q8 E")) (tCons (tOp (rAddU K) (tOp (rAddU K) (tC (.str "rooms ")) (tVar 2)) (tC (.str " Q"))) (tCons (tC (.str "rooms a_")) (tCons (tOp (rAddU K) (tC (.str "rooms q8 ")) (tVar 2)) tNil)))))))) (gName 3))
 (tRet (tOp (rAddU K) (tVar 3) (tLst (tCons (tC (.str "rooms abcdefghi")) (tCons (tC (.str "rooms q8 q9:")) (tCons (tC (.str "rooms q8")) (tCons (tOp (rAddU K) (tC (.str "# rooms ")) (tVar 2)) tNil)))))))))
theorem dv_u_law_wrong_heads (T : Txt K mg)  {f : Addr} (cdv : Value) (A : Around) (outer : List PySem.Env) (s : Shared) (H : Hp) (E : XK) (hr : Room 0 (A.deeper (envOfC "_law_wrong_heads" (defScope s_u_law_wrong_heads) s.heap.objs.size f cdv))) :
    PSs (cxOf CX0 P w K mg base N_u_law_wrong_heads "_law_wrong_heads" (defScope s_u_law_wrong_heads) f cdv A outer s H E) (defBody s_u_law_wrong_heads) (t_u_law_wrong_heads K) := by
  have sc := sc_u_law_wrong_heads
  exact (pss_cons (ps_set (i := 2) sc.nd rfl (by first | exact Or.inl rfl | exact Or.inr rfl) (pe_ix ix_seq (pv 0) (pe_op op_mod (pv 1) (pe_callB (r := rLen _) call_len rfl T.f_len b_len (pa_cons (pv 0) pa_nil))) (fun _ _ => rfl)))
 (pss_cons (ps_set (i := 3) sc.nd rfl (by first | exact Or.inl rfl | exact Or.inr rfl) (pe_lst (pa_cons pe_str (pa_cons (pe_op op_addU pe_str (pv 2)) (pa_cons pe_str (pa_cons pe_str (pa_cons (pe_op op_addU (pe_op op_addU pe_str (pv 2)) pe_str) (pa_cons pe_str (pa_cons (pe_op op_addU pe_str (pv 2)) pa_nil)))))))))
 (pss_one (ps_ret (pe_op op_addU (pv 3) (pe_lst (pa_cons pe_str (pa_cons pe_str (pa_cons pe_str (pa_cons (pe_op op_addU pe_str (pv 2)) pa_nil))))))))))
def t_u_law_put (K : PySem.W.Frag) : TS := (tRet (tOp (rAddU K) (tOp (rAddU K) (tSl (rSlU K) (tVar 0) tNoPart (tPart (tVar 1))) (tLst (tCons (tVar 2) tNil))) (tSl (rSlU K) (tVar 0) (tPart (tVar 1)) tNoPart)))
theorem dv_u_law_put (T : Txt K mg)  {f : Addr} (cdv : Value) (A : Around) (outer : List PySem.Env) (s : Shared) (H : Hp) (E : XK) (hr : Room 0 (A.deeper (envOfC "_law_put" (defScope s_u_law_put) s.heap.objs.size f cdv))) :
    PSs (cxOf CX0 P w K mg base N_u_law_put "_law_put" (defScope s_u_law_put) f cdv A outer s H E) (defBody s_u_law_put) (t_u_law_put K) := by
  have sc := sc_u_law_put
  exact (pss_one (ps_ret (pe_op op_addU (pe_op op_addU (pe_slice sl_U (pv 0) po_none (po_some (pv 1))) (pe_lst (pa_cons (pv 2) pa_nil))) (pe_slice sl_U (pv 0) (po_some (pv 1)) po_none))))
def t_u_law_noted (K : PySem.W.Frag) : TS := (tSeq (tAsg (tLst (tCons (tC (.str "")) (tCons (tC (.str "# a: zz")) (tCons (tC (.str "   ")) (tCons (tC (.str "#")) (tCons (tC (.str "#rooms E")) (tCons (tC (.str " # E: N")) tNil))))))) (gName 4))
 (tSeq (tFor (iRng1 (tCons (tOp rModU (tOp (rIx K) (tVar 1) (tVar 2)) (tC (.int 6))) tNil)) (gName 5) (tAsg (tCall (sp_u_law_put K) [] E0 (tCons (tVar 0) (tCons (tOp rModU (tOp (rAddU K) (tOp (rIx K) (tVar 1) (tOp (rAddU K) (tVar 2) (tC (.int 1)))) (tOp rMulU (tC (.int 7)) (tVar 5))) (tOp (rAddU K) (tCB (rLen K) (tCons (tVar 0) tNil)) (tC (.int 1)))) (tCons (tOp (rIx K) (tVar 4) (tOp rModU (tOp (rAddU K) (tOp (rIx K) (tVar 1) (tOp (rAddU K) (tVar 2) (tC (.int 2)))) (tVar 5)) (tC (.int 6)))) tNil)))) (gName 0)))
 (tRet (tOp (rAddU K) (tLc (iRng1 (tCons (tVar 3) tNil)) (gName 5) tYes (tOp (rIx K) (tVar 4) (tOp rModU (tOp (rAddU K) (tOp (rIx K) (tVar 1) (tOp (rAddU K) (tVar 2) (tC (.int 2)))) (tVar 5)) (tC (.int 6)))) [5]) (tVar 0)))))
theorem dv_u_law_noted (T : Txt K mg) (O_u_law_put : Okd P w K mg base CX0 1 "_law_put" ["lines", "at", "line"] (sp_u_law_put K)) {f : Addr} (cdv : Value) (A : Around) (outer : List PySem.Env) (s : Shared) (H : Hp) (E : XK) (hr : Room 1 (A.deeper (envOfC "_law_noted" (defScope s_u_law_noted) s.heap.objs.size f cdv))) :
    PSs (cxOf CX0 P w K mg base N_u_law_noted "_law_noted" (defScope s_u_law_noted) f cdv A outer s H E) (defBody s_u_law_noted) (t_u_law_noted K) := by
  have sc := sc_u_law_noted
  have pa : PassesOwn (model P w) (cxOf CX0 P w K mg base N_u_law_noted "_law_noted" (defScope s_u_law_noted) f cdv A outer s H E).A (cxOf CX0 P w K mg base N_u_law_noted "_law_noted" (defScope s_u_law_noted) f cdv A outer s H E).env (cxOf CX0 P w K mg base N_u_law_noted "_law_noted" (defScope s_u_law_noted) f cdv A outer s H E).xe := passes_of rfl
  exact (pss_cons (ps_set (i := 4) sc.nd rfl (by first | exact Or.inl rfl | exact Or.inr rfl) (pe_lst (pa_cons pe_str (pa_cons pe_str (pa_cons pe_str (pa_cons pe_str (pa_cons pe_str (pa_cons pe_str pa_nil))))))))
 (pss_cons (ps_for pa rfl (pi_range1 rfl T.f_range (pa_cons (pe_op op_mod (pe_ix ix_seq (pv 1) (pv 2) (fun _ _ => rfl)) pe_int) pa_nil)) (pg_name (i := 5) sc.nd rfl (by first | exact Or.inl rfl | exact Or.inr rfl)) (pss_one (ps_set (i := 0) sc.nd rfl (by first | exact Or.inl rfl | exact Or.inr rfl) (pe_callD O_u_law_put hr (by decide) (pa_cons (pv 0) (pa_cons (pe_op op_mod (pe_op op_addU (pe_ix ix_seq (pv 1) (pe_op op_addU (pv 2) pe_int) (fun _ _ => rfl)) (pe_op op_mulU pe_int (pv 5))) (pe_op op_addU (pe_callB (r := rLen _) call_len rfl T.f_len b_len (pa_cons (pv 0) pa_nil)) pe_int)) (pa_cons (pe_ix ix_seq (pv 4) (pe_op op_mod (pe_op op_addU (pe_ix ix_seq (pv 1) (pe_op op_addU (pv 2) pe_int) (fun _ _ => rfl)) (pv 5)) pe_int) (fun _ _ => rfl)) pa_nil)))))))
 (pss_one (ps_ret (pe_op op_addU (pe_lc (own := [("k", 5)]) (g := (gName 5)) (tt := tYes) rfl sc.nd (pi_range1 rfl T.f_range (pa_cons (pv 3) pa_nil)) (blkOk_by (own := [("k", 5)]) (N := N_u_law_noted) (sc := defScope s_u_law_noted) (by decide +kernel)) (fun _ _ _ _ _ => (pg_name (i := 5) sc.nd rfl (by first | exact Or.inl rfl | exact Or.inr rfl))) (fun _ _ _ _ _ => pts_nil) (fun _ _ _ _ _ => (pe_ix ix_seq (pv 4) (pe_op op_mod (pe_op op_addU (pe_ix ix_seq (pv 1) (pe_op op_addU (pv 2) pe_int) (fun _ _ => rfl)) (pv 5)) pe_int) (fun _ _ => rfl)))) (pv 0))))))
def t_u_law_all_right (K : PySem.W.Frag) : TS := (tSeq (tAsg (tOp (rAddU K) (tCB (rMax K) (tCons (tLc (iRng1 (tCons (tCB (rLen K) (tCons (tVar 1) tNil)) tNil)) (gName 6) (tTr K (tM1 rStartsU (tM1 rStripU (tOp (rIx K) (tVar 1) (tVar 6)) (tC (.str " "))) (tC (.str "rooms ")))) (tVar 6) [6]) tNil)) (tC (.int 1))) (gName 5))
 (tSeq (tAsg (tCall (sp_u_law_wrong_lines K) [] E0 (tCons (tVar 0) (tCons (tOp (rIx K) (tVar 2) (tVar 3)) tNil))) (gName 7))
 (tSeq (tFor (iRng1 (tCons (tCB (rLen K) (tCons (tVar 7) tNil)) tNil)) (gName 6) (tIfS (tTest (tOp (rEqU K) (tOp rModU (tOp (rAddU K) (tVar 6) (tOp (rIx K) (tVar 2) (tOp (rAddU K) (tVar 3) (tC (.int 1))))) (tVar 4)) (tC (.int 0)))) (tSeq (tAsg (tOp (rAddU K) (tVar 5) (tOp rModU (tOp (rAddU K) (tOp (rIx K) (tVar 2) (tOp (rAddU K) (tVar 3) (tC (.int 2)))) (tOp rMulU (tC (.int 5)) (tVar 6))) (tOp (rAddU K) (tOp rSubU (tCB (rLen K) (tCons (tVar 1) tNil)) (tVar 5)) (tC (.int 1))))) (gName 8))
 (tSeq (tAsg (tCall (sp_u_law_put K) [] E0 (tCons (tVar 1) (tCons (tVar 8) (tCons (tOp (rIx K) (tVar 7) (tVar 6)) tNil)))) (gName 9))
 (tSeq (tIfS (tNot (tTr K (tCall (sp_u_law_right K) [] E0 (tCons (tM1 (rJoinU K) (tC (.str "
")) (tVar 9)) tNil)))) (tRet (tC (.bl false))) tNext)
 (tIfS (tNot (tTr K (tCall (sp_u_law_right K) [] E0 (tCons (tM1 (rJoinU K) (tC (.str "
")) (tCall (sp_u_law_put K) [] E0 (tCons (tVar 9) (tCons (tVar 5) (tCons (tOp (rIx K) (tVar 7) (tOp rModU (tOp (rAddU K) (tVar 6) (tOp (rIx K) (tVar 2) (tOp (rAddU K) (tVar 3) (tC (.int 3))))) (tCB (rLen K) (tCons (tVar 7) tNil)))) tNil))))) tNil)))) (tRet (tC (.bl false))) tNext)))) tNext))
 (tSeq (tAsg (tCall (sp_u_law_wrong_heads K) [] E0 (tCons (tVar 0) (tCons (tOp (rIx K) (tVar 2) (tOp (rAddU K) (tVar 3) (tC (.int 4)))) tNil))) (gName 10))
 (tSeq (tFor (iRng1 (tCons (tCB (rLen K) (tCons (tVar 10) tNil)) tNil)) (gName 6) (tIfS (tTest (tOp (rEqU K) (tOp rModU (tOp (rAddU K) (tVar 6) (tOp (rIx K) (tVar 2) (tOp (rAddU K) (tVar 3) (tC (.int 1))))) (tVar 4)) (tC (.int 0)))) (tSeq (tIfS (tNot (tTr K (tCall (sp_u_law_right K) [] E0 (tCons (tM1 (rJoinU K) (tC (.str "
")) (tCall (sp_u_law_put K) [] E0 (tCons (tVar 1) (tCons (tOp rModU (tOp (rIx K) (tVar 2) (tOp (rAddU K) (tVar 3) (tC (.int 5)))) (tOp (rAddU K) (tVar 5) (tC (.int 1)))) (tCons (tOp (rIx K) (tVar 10) (tVar 6)) tNil))))) tNil)))) (tRet (tC (.bl false))) tNext)
 (tIfS (tNot (tTr K (tCall (sp_u_law_right K) [] E0 (tCons (tM1 (rJoinU K) (tC (.str "
")) (tCall (sp_u_law_put K) [] E0 (tCons (tVar 1) (tCons (tCB (rLen K) (tCons (tVar 1) tNil)) (tCons (tOp (rIx K) (tVar 10) (tVar 6)) tNil))))) tNil)))) (tRet (tC (.bl false))) tNext)) tNext))
 (tRet (tCall (sp_u_law_right K) [] E0 (tCons (tM1 (rJoinU K) (tC (.str "
")) (tCall (sp_u_law_put K) [] E0 (tCons (tVar 1) (tCons (tC (.int 0)) (tCons (tOp (rAddU K) (tOp (rIx K) (tVar 0) (tC (.int 0))) (tC (.str ": N"))) tNil))))) tNil))))))))
theorem dv_u_law_all_right (T : Txt K mg) (O_u_law_wrong_lines : Okd P w K mg base CX0 1 "_law_wrong_lines" ["rooms", "pick"] (sp_u_law_wrong_lines K)) (O_u_law_wrong_heads : Okd P w K mg base CX0 1 "_law_wrong_heads" ["rooms", "pick"] (sp_u_law_wrong_heads K)) (O_u_law_right : Okd P w K mg base CX0 6 "_law_right" ["text"] (sp_u_law_right K)) (O_u_law_put : Okd P w K mg base CX0 1 "_law_put" ["lines", "at", "line"] (sp_u_law_put K)) {f : Addr} (cdv : Value) (A : Around) (outer : List PySem.Env) (s : Shared) (H : Hp) (E : XK) (hr : Room 6 (A.deeper (envOfC "_law_all_right" (defScope s_u_law_all_right) s.heap.objs.size f cdv))) :
    PSs (cxOf CX0 P w K mg base N_u_law_all_right "_law_all_right" (defScope s_u_law_all_right) f cdv A outer s H E) (defBody s_u_law_all_right) (t_u_law_all_right K) := by
  have sc := sc_u_law_all_right
  have pa : PassesOwn (model P w) (cxOf CX0 P w K mg base N_u_law_all_right "_law_all_right" (defScope s_u_law_all_right) f cdv A outer s H E).A (cxOf CX0 P w K mg base N_u_law_all_right "_law_all_right" (defScope s_u_law_all_right) f cdv A outer s H E).env (cxOf CX0 P w K mg base N_u_law_all_right "_law_all_right" (defScope s_u_law_all_right) f cdv A outer s H E).xe := passes_of rfl
  exact (pss_cons (ps_set (i := 5) sc.nd rfl (by first | exact Or.inl rfl | exact Or.inr rfl) (pe_op op_addU (pe_callB (r := rMax _) (cr_max rfl) rfl T.f_max b_max (pa_cons (pe_lc (own := [("k", 6)]) (g := (gName 6)) (tt := (tTr K (tM1 rStartsU (tM1 rStripU (tOp (rIx K) (tVar 1) (tVar 6)) (tC (.str " "))) (tC (.str "rooms "))))) rfl sc.nd (pi_range1 rfl T.f_range (pa_cons (pe_callB (r := rLen _) call_len rfl T.f_len b_len (pa_cons (pv 1) pa_nil)) pa_nil)) (blkOk_by (own := [("k", 6)]) (N := N_u_law_all_right) (sc := defScope s_u_law_all_right) (by decide +kernel)) (fun _ _ _ _ _ => (pg_name (i := 6) sc.nd rfl (by first | exact Or.inl rfl | exact Or.inr rfl))) (fun _ _ _ _ _ => (pts_one (pt_tr (pe_startsU (pe_stripU (pe_ix ix_seq (pv 1) (pv 6) (fun _ _ => rfl)) pe_str) pe_str)))) (fun _ _ _ _ _ => (pv 6))) pa_nil)) pe_int))
 (pss_cons (ps_set (i := 7) sc.nd rfl (by first | exact Or.inl rfl | exact Or.inr rfl) (pe_callD O_u_law_wrong_lines hr (by decide) (pa_cons (pv 0) (pa_cons (pe_ix ix_seq (pv 2) (pv 3) (fun _ _ => rfl)) pa_nil))))
 (pss_cons (ps_for pa rfl (pi_range1 rfl T.f_range (pa_cons (pe_callB (r := rLen _) call_len rfl T.f_len b_len (pa_cons (pv 7) pa_nil)) pa_nil)) (pg_name (i := 6) sc.nd rfl (by first | exact Or.inl rfl | exact Or.inr rfl)) (pss_one (ps_if (pt_cmpR (op_eqU hr.units) (pe_op op_mod (pe_op op_addU (pv 6) (pe_ix ix_seq (pv 2) (pe_op op_addU (pv 3) pe_int) (fun _ _ => rfl))) (pv 4)) pe_int (nomark _)) (pss_cons (ps_set (i := 8) sc.nd rfl (by first | exact Or.inl rfl | exact Or.inr rfl) (pe_op op_addU (pv 5) (pe_op op_mod (pe_op op_addU (pe_ix ix_seq (pv 2) (pe_op op_addU (pv 3) pe_int) (fun _ _ => rfl)) (pe_op op_mulU pe_int (pv 6))) (pe_op op_addU (pe_op op_sub (pe_callB (r := rLen _) call_len rfl T.f_len b_len (pa_cons (pv 1) pa_nil)) (pv 5)) pe_int))))
 (pss_cons (ps_set (i := 9) sc.nd rfl (by first | exact Or.inl rfl | exact Or.inr rfl) (pe_callD O_u_law_put hr (by decide) (pa_cons (pv 1) (pa_cons (pv 8) (pa_cons (pe_ix ix_seq (pv 7) (pv 6) (fun _ _ => rfl)) pa_nil)))))
 (pss_cons (ps_if (pt_not (pt_tr (pe_callD O_u_law_right hr (by decide) (pa_cons (pe_joinU pe_str (pv 9)) pa_nil)))) (pss_one (ps_ret pe_bl)) pss_nil)
 (pss_one (ps_if (pt_not (pt_tr (pe_callD O_u_law_right hr (by decide) (pa_cons (pe_joinU pe_str (pe_callD O_u_law_put hr (by decide) (pa_cons (pv 9) (pa_cons (pv 5) (pa_cons (pe_ix ix_seq (pv 7) (pe_op op_mod (pe_op op_addU (pv 6) (pe_ix ix_seq (pv 2) (pe_op op_addU (pv 3) pe_int) (fun _ _ => rfl))) (pe_callB (r := rLen _) call_len rfl T.f_len b_len (pa_cons (pv 7) pa_nil))) (fun _ _ => rfl)) pa_nil))))) pa_nil)))) (pss_one (ps_ret pe_bl)) pss_nil))))) pss_nil)))
 (pss_cons (ps_set (i := 10) sc.nd rfl (by first | exact Or.inl rfl | exact Or.inr rfl) (pe_callD O_u_law_wrong_heads hr (by decide) (pa_cons (pv 0) (pa_cons (pe_ix ix_seq (pv 2) (pe_op op_addU (pv 3) pe_int) (fun _ _ => rfl)) pa_nil))))
 (pss_cons (ps_for pa rfl (pi_range1 rfl T.f_range (pa_cons (pe_callB (r := rLen _) call_len rfl T.f_len b_len (pa_cons (pv 10) pa_nil)) pa_nil)) (pg_name (i := 6) sc.nd rfl (by first | exact Or.inl rfl | exact Or.inr rfl)) (pss_one (ps_if (pt_cmpR (op_eqU hr.units) (pe_op op_mod (pe_op op_addU (pv 6) (pe_ix ix_seq (pv 2) (pe_op op_addU (pv 3) pe_int) (fun _ _ => rfl))) (pv 4)) pe_int (nomark _)) (pss_cons (ps_if (pt_not (pt_tr (pe_callD O_u_law_right hr (by decide) (pa_cons (pe_joinU pe_str (pe_callD O_u_law_put hr (by decide) (pa_cons (pv 1) (pa_cons (pe_op op_mod (pe_ix ix_seq (pv 2) (pe_op op_addU (pv 3) pe_int) (fun _ _ => rfl)) (pe_op op_addU (pv 5) pe_int)) (pa_cons (pe_ix ix_seq (pv 10) (pv 6) (fun _ _ => rfl)) pa_nil))))) pa_nil)))) (pss_one (ps_ret pe_bl)) pss_nil)
 (pss_one (ps_if (pt_not (pt_tr (pe_callD O_u_law_right hr (by decide) (pa_cons (pe_joinU pe_str (pe_callD O_u_law_put hr (by decide) (pa_cons (pv 1) (pa_cons (pe_callB (r := rLen _) call_len rfl T.f_len b_len (pa_cons (pv 1) pa_nil)) (pa_cons (pe_ix ix_seq (pv 10) (pv 6) (fun _ _ => rfl)) pa_nil))))) pa_nil)))) (pss_one (ps_ret pe_bl)) pss_nil))) pss_nil)))
 (pss_one (ps_ret (pe_callD O_u_law_right hr (by decide) (pa_cons (pe_joinU pe_str (pe_callD O_u_law_put hr (by decide) (pa_cons (pv 1) (pa_cons pe_int (pa_cons (pe_op op_addU (pe_ix ix_seq (pv 0) pe_int (fun _ _ => rfl)) pe_str) pa_nil))))) pa_nil)))))))))
def t_law (K : PySem.W.Frag) : TS := (tSeq (tAsg (tCall (sp_u_law_pool K) [] E0 (tCons (tVar 0) (tCons (tC (.int 360)) tNil))) (gName 1))
 (tSeq (tAsg (tCall (sp_u_law_names K) [] E0 (tCons (tVar 1) (tCons (tC (.int 0)) (tCons (tOp (rAddU K) (tC (.int 1)) (tOp rModU (tOp rDivU (tOp (rIx K) (tVar 1) (tC (.int 0))) (tC (.int 13))) (tC (.int 9)))) tNil)))) (gName 2))
 (tSeq (tAsg (tCall (sp_u_law_names K) [] E0 (tCons (tVar 1) (tCons (tC (.int 10)) (tCons (tC (.int 40)) tNil)))) (gName 3))
 (tSeq (tFor (iRng1 (tCons (tC (.int 2)) tNil)) (gName 4) (tSeq (tAsg (tIf (tTest (tOp (rEqU K) (tVar 4) (tC (.int 0)))) (tVar 2) (tVar 3)) (gName 5))
 (tSeq (tAsg (tCall (sp_u_law_drawn K) [] E0 (tCons (tVar 5) (tCons (tVar 1) (tCons (tOp (rAddU K) (tC (.int 60)) (tOp rMulU (tC (.int 30)) (tVar 4))) (tCons (tOp rModU (tOp (rIx K) (tVar 1) (tOp rSubU (tC (.int 59)) (tVar 4))) (tIf (tTest (tOp (rEqU K) (tVar 4) (tC (.int 0)))) (tC (.int 30)) (tC (.int 61)))) tNil))))) (gName 6))
 (tSeq (tAsg (tLc (iSeqU K (tSl (rSlU K) (tVar 5) tNoPart (tPart (tOp rModU (tOp (rIx K) (tVar 1) (tC (.int 357))) (tC (.int 41)))))) (gName 8) tYes (tTup (tCons (tVar 8) (tCons (tOp (rIx K) (tC (.str "ENWS")) (tOp rModU (tOp (rIx K) (tVar 1) (tC (.int 356))) (tC (.int 4)))) tNil))) [8]) (gName 7))
 (tSeq (tAsg (tCall (sp_u_law_scheme K) [] E0 (tCons (tVar 5) (tCons (tOp (rAddU K) (tCB (rListU K) (tCons (tOp (rIx K) (tVar 6) (tC (.int 1))) tNil)) (tVar 7)) tNil))) (gName 6))
 (tSeq (tAsg (tCall (sp_scheme_text K) [] E0 (tCons (tVar 6) tNil)) (gName 9))
 (tSeq (tIfS (tOr (tNot (tTr K (tCB (rIsi K) (tCons (tVar 9) (tCons (tC (.ty "str")) tNil))))) (tOr (tTest (tOp (rNeU K) (tVar 9) (tCall (sp_u_law_text K) [] E0 (tCons (tVar 6) tNil)))) (tNot (tTr K (tCall (sp_u_law_right K) [] E0 (tCons (tVar 9) tNil)))))) (tRet (tC (.bl false))) tNext)
 (tSeq (tAsg (tCall (sp_u_law_written K) [] E0 (tCons (tVar 6) (tCons (tVar 5) (tCons (tVar 1) (tCons (tOp (rAddU K) (tC (.int 160)) (tOp rMulU (tC (.int 80)) (tVar 4))) tNil))))) (gName 10))
 (tSeq (tIfS (tOr (tTest (tOp (rNeU K) (tOp (rIx K) (tCall (sp_u_law_read K) [] E0 (tCons (tM1 (rJoinU K) (tC (.str "
")) (tVar 10)) tNil)) (tC (.int 1))) (tVar 6))) (tNot (tTr K (tCall (sp_u_law_right K) [] E0 (tCons (tM1 (rJoinU K) (tC (.str "
")) (tVar 10)) tNil))))) (tRet (tC (.bl false))) tNext)
 (tSeq (tAsg (tIf (tAnd (tTest (tOp (rEqU K) (tVar 4) (tC (.int 0)))) (tTest (tOp (rEqU K) (tOp rModU (tOp (rIx K) (tVar 1) (tC (.int 332))) (tC (.int 13))) (tC (.int 0))))) (tC (.int 1400)) (tC (.int 0))) (gName 11))
 (tSeq (tAsg (tCall (sp_u_law_noted K) [] E0 (tCons (tVar 10) (tCons (tVar 1) (tCons (tOp (rAddU K) (tC (.int 333)) (tOp rMulU (tC (.int 3)) (tVar 4))) (tCons (tVar 11) tNil))))) (gName 10))
 (tSeq (tIfS (tNot (tTr K (tCall (sp_u_law_right K) [] E0 (tCons (tM1 (rJoinU K) (tC (.str "
")) (tVar 10)) tNil)))) (tRet (tC (.bl false))) tNext)
 (tSeq (tAsg (tIf (tTest (tOp rGtU (tVar 11) (tC (.int 0)))) (tC (.int 12)) (tOp (rAddU K) (tC (.int 1)) (tOp rMulU (tC (.int 3)) (tVar 4)))) (gName 12))
 (tIfS (tNot (tTr K (tCall (sp_u_law_all_right K) [] E0 (tCons (tVar 5) (tCons (tVar 10) (tCons (tVar 1) (tCons (tOp (rAddU K) (tC (.int 340)) (tOp rMulU (tC (.int 6)) (tVar 4))) (tCons (tVar 12) tNil)))))))) (tRet (tC (.bl false))) tNext))))))))))))))
 (tSeq (tAsg (tOp (rAddU K) (tOp (rAddU K) (tOp (rAddU K) (tOp (rAddU K) (tC (.str "rooms ")) (tM1 (rJoinU K) (tC (.str " ")) (tSl (rSlU K) (tVar 3) tNoPart (tPart (tC (.int 20)))))) (tC (.str "
rooms "))) (tM1 (rJoinU K) (tC (.str " ")) (tSl (rSlU K) (tVar 3) (tPart (tC (.int 20))) tNoPart))) (tC (.str "

"))) (gName 13))
 (tSeq (tIfS (tOr (tNot (tTr K (tCall (sp_u_law_right K) [] E0 (tCons (tOp (rAddU K) (tOp (rAddU K) (tOp (rAddU K) (tVar 13) (tC (.str "rooms q9
"))) (tOp (rIx K) (tVar 3) (tC (.int 3)))) (tC (.str ": E"))) tNil)))) (tNot (tTr K (tCall (sp_u_law_right K) [] E0 (tCons (tOp (rAddU K) (tOp (rAddU K) (tVar 13) (tOp (rIx K) (tVar 3) (tC (.int 3)))) (tC (.str ": E"))) tNil))))) (tRet (tC (.bl false))) tNext)
 (tSeq (tAsg (tLst (tCons (tC (.str "")) (tCons (tC (.str "#")) (tCons (tC (.str "
#a
  ")) (tCons (tC (.str " 
# rooms a")) (tCons (tOp (rAddU K) (tOp rMulU (tC (.str "#a
")) (tOp rModU (tOp (rIx K) (tVar 1) (tC (.int 355))) (tC (.int 9)))) (tC (.str "# E: N"))) (tCons (tC (.str "E: N")) (tCons (tC (.str "
a: b")) tNil)))))))) (gName 14))
 (tSeq (tAug 14 (tLst (tCons (tC (.str "a: N
rooms a")) (tCons (tC (.str "rooms a
a: b
rooms b")) (tCons (tC (.str "rooms a
a: N
rooms b
b: E")) (tCons (tC (.str "rooms a
N: b

rooms b")) tNil))))) rIAddU)
 (tSeq (tFor (iSeqU K (tVar 14)) (gName 9) (tIfS (tNot (tTr K (tCall (sp_u_law_right K) [] E0 (tCons (tVar 9) tNil)))) (tRet (tC (.bl false))) tNext))
 (tRet (tAndV (tCall (sp_u_law_right K) [] E0 (tCons (tC (.str "rooms a
a: c N
rooms")) tNil)) (tCall (sp_u_law_right K) [] E0 (tCons (tC (.str "rooms rooms
rooms: N E")) tNil)))))))))))))
theorem dv_law (T : Txt K mg) (O_u_law_pool : Okd P w K mg base CX0 1 "_law_pool" ["script", "many"] (sp_u_law_pool K)) (O_u_law_names : Okd P w K mg base CX0 1 "_law_names" ["pool", "begin", "many"] (sp_u_law_names K)) (O_u_law_drawn : Okd P w K mg base CX0 2 "_law_drawn" ["rooms", "pool", "begin", "many"] (sp_u_law_drawn K)) (O_u_law_scheme : Okd P w K mg base CX0 1 "_law_scheme" ["rooms", "touches"] (sp_u_law_scheme K)) (O_scheme_text : Okd P w K mg base CX0 1 "scheme_text" ["scheme"] (sp_scheme_text K)) (O_u_law_written : Okd P w K mg base CX0 2 "_law_written" ["scheme", "rooms", "pool", "begin"] (sp_u_law_written K)) (O_u_law_noted : Okd P w K mg base CX0 2 "_law_noted" ["lines", "pool", "begin", "many"] (sp_u_law_noted K)) (O_u_law_right : Okd P w K mg base CX0 6 "_law_right" ["text"] (sp_u_law_right K)) (O_u_law_all_right : Okd P w K mg base CX0 7 "_law_all_right" ["rooms", "lines", "pool", "begin", "few"] (sp_u_law_all_right K)) (O_u_law_text : Okd P w K mg base CX0 1 "_law_text" ["scheme"] (sp_u_law_text K)) (O_u_law_read : Okd P w K mg base CX0 3 "_law_read" ["text"] (sp_u_law_read K)) {f : Addr} (cdv : Value) (A : Around) (outer : List PySem.Env) (s : Shared) (H : Hp) (E : XK) (hr : Room 7 (A.deeper (envOfC "law" (defScope s_law) s.heap.objs.size f cdv))) :
    PSs (cxOf CX0 P w K mg base N_law "law" (defScope s_law) f cdv A outer s H E) (defBody s_law) (t_law K) := by
  have sc := sc_law
  have pa : PassesOwn (model P w) (cxOf CX0 P w K mg base N_law "law" (defScope s_law) f cdv A outer s H E).A (cxOf CX0 P w K mg base N_law "law" (defScope s_law) f cdv A outer s H E).env (cxOf CX0 P w K mg base N_law "law" (defScope s_law) f cdv A outer s H E).xe := passes_of rfl
  exact (pss_cons (ps_set (i := 1) sc.nd rfl (by first | exact Or.inl rfl | exact Or.inr rfl) (pe_callD O_u_law_pool hr (by decide) (pa_cons (pv 0) (pa_cons pe_int pa_nil))))
 (pss_cons (ps_set (i := 2) sc.nd rfl (by first | exact Or.inl rfl | exact Or.inr rfl) (pe_callD O_u_law_names hr (by decide) (pa_cons (pv 1) (pa_cons pe_int (pa_cons (pe_op op_addU pe_int (pe_op op_mod (pe_op op_fdiv (pe_ix ix_seq (pv 1) pe_int (fun _ _ => rfl)) pe_int) pe_int)) pa_nil)))))
 (pss_cons (ps_set (i := 3) sc.nd rfl (by first | exact Or.inl rfl | exact Or.inr rfl) (pe_callD O_u_law_names hr (by decide) (pa_cons (pv 1) (pa_cons pe_int (pa_cons pe_int pa_nil)))))
 (pss_cons (ps_for pa rfl (pi_range1 rfl T.f_range (pa_cons pe_int pa_nil)) (pg_name (i := 4) sc.nd rfl (by first | exact Or.inl rfl | exact Or.inr rfl)) (pss_cons (ps_set (i := 5) sc.nd rfl (by first | exact Or.inl rfl | exact Or.inr rfl) (pe_ifExp (pt_cmpR (op_eqU hr.units) (pv 4) pe_int (nomark _)) (pv 2) (pv 3)))
 (pss_cons (ps_set (i := 6) sc.nd rfl (by first | exact Or.inl rfl | exact Or.inr rfl) (pe_callD O_u_law_drawn hr (by decide) (pa_cons (pv 5) (pa_cons (pv 1) (pa_cons (pe_op op_addU pe_int (pe_op op_mulU pe_int (pv 4))) (pa_cons (pe_op op_mod (pe_ix ix_seq (pv 1) (pe_op op_sub pe_int (pv 4)) (fun _ _ => rfl)) (pe_ifExp (pt_cmpR (op_eqU hr.units) (pv 4) pe_int (nomark _)) pe_int pe_int)) pa_nil))))))
 (pss_cons (ps_setLc (i := 7) (own := [("room", 8)]) (g := (gName 8)) (tt := tYes) rfl sc.nd rfl rfl (sw_true rfl rfl rfl (by decide +kernel)) (pi_seqU (pe_slice sl_U (pv 5) po_none (po_some (pe_op op_mod (pe_ix ix_seq (pv 1) pe_int (fun _ _ => rfl)) pe_int)))) (blkOk_by (own := [("room", 8)]) (N := N_law) (sc := defScope s_law) (by decide +kernel)) (fun _ _ _ _ _ => (pg_name (i := 8) sc.nd rfl (by first | exact Or.inl rfl | exact Or.inr rfl))) (fun _ _ _ _ _ => pts_nil) (fun _ _ _ _ _ => (pe_tup (pa_cons (pv 8) (pa_cons (pe_ix ix_seq pe_str (pe_op op_mod (pe_ix ix_seq (pv 1) pe_int (fun _ _ => rfl)) pe_int) (fun _ _ => rfl)) pa_nil)))))
 (pss_cons (ps_set (i := 6) sc.nd rfl (by first | exact Or.inl rfl | exact Or.inr rfl) (pe_callD O_u_law_scheme hr (by decide) (pa_cons (pv 5) (pa_cons (pe_op op_addU (pe_callTy (r := rListU _) call_listU rfl T.f_list b_list (pa_cons (pe_ix ix_seq (pv 6) pe_int (fun _ _ => rfl)) pa_nil)) (pv 7)) pa_nil))))
 (pss_cons (ps_set (i := 9) sc.nd rfl (by first | exact Or.inl rfl | exact Or.inr rfl) (pe_callD O_scheme_text hr (by decide) (pa_cons (pv 6) pa_nil)))
 (pss_cons (ps_if (PW.pt (pw_or (pt_not (pt_tr (pe_callB (r := rIsi _) call_isi rfl T.f_isinstance b_isinstance (pa_cons (pv 9) (pa_cons (pe_bltn (v := .ty "str") rfl T.f_str b_str rfl) pa_nil))))) (pw_or (pt_cmpR (op_neU hr.units) (pv 9) (pe_callD O_u_law_text hr (by decide) (pa_cons (pv 6) pa_nil)) (nomark _)) (pw_or1 (pt_not (pt_tr (pe_callD O_u_law_right hr (by decide) (pa_cons (pv 9) pa_nil)))))))) (pss_one (ps_ret pe_bl)) pss_nil)
 (pss_cons (ps_set (i := 10) sc.nd rfl (by first | exact Or.inl rfl | exact Or.inr rfl) (pe_callD O_u_law_written hr (by decide) (pa_cons (pv 6) (pa_cons (pv 5) (pa_cons (pv 1) (pa_cons (pe_op op_addU pe_int (pe_op op_mulU pe_int (pv 4))) pa_nil))))))
 (pss_cons (ps_if (PW.pt (pw_or (pt_cmpR (op_neU hr.units) (pe_ix ix_seq (pe_callD O_u_law_read hr (by decide) (pa_cons (pe_joinU pe_str (pv 10)) pa_nil)) pe_int (fun _ _ => rfl)) (pv 6) (nomark _)) (pw_or1 (pt_not (pt_tr (pe_callD O_u_law_right hr (by decide) (pa_cons (pe_joinU pe_str (pv 10)) pa_nil))))))) (pss_one (ps_ret pe_bl)) pss_nil)
 (pss_cons (ps_set (i := 11) sc.nd rfl (by first | exact Or.inl rfl | exact Or.inr rfl) (pe_ifExp (PW.pt (pw_and (pt_cmpR (op_eqU hr.units) (pv 4) pe_int (nomark _)) (pw_and1 (pt_cmpR (op_eqU hr.units) (pe_op op_mod (pe_ix ix_seq (pv 1) pe_int (fun _ _ => rfl)) pe_int) pe_int (nomark _))))) pe_int pe_int))
 (pss_cons (ps_set (i := 10) sc.nd rfl (by first | exact Or.inl rfl | exact Or.inr rfl) (pe_callD O_u_law_noted hr (by decide) (pa_cons (pv 10) (pa_cons (pv 1) (pa_cons (pe_op op_addU pe_int (pe_op op_mulU pe_int (pv 4))) (pa_cons (pv 11) pa_nil))))))
 (pss_cons (ps_if (pt_not (pt_tr (pe_callD O_u_law_right hr (by decide) (pa_cons (pe_joinU pe_str (pv 10)) pa_nil)))) (pss_one (ps_ret pe_bl)) pss_nil)
 (pss_cons (ps_set (i := 12) sc.nd rfl (by first | exact Or.inl rfl | exact Or.inr rfl) (pe_ifExp (pt_cmpR op_gtU (pv 11) pe_int (nomark _)) pe_int (pe_op op_addU pe_int (pe_op op_mulU pe_int (pv 4)))))
 (pss_one (ps_if (pt_not (pt_tr (pe_callD O_u_law_all_right hr (by decide) (pa_cons (pv 5) (pa_cons (pv 10) (pa_cons (pv 1) (pa_cons (pe_op op_addU pe_int (pe_op op_mulU pe_int (pv 4))) (pa_cons (pv 12) pa_nil)))))))) (pss_one (ps_ret pe_bl)) pss_nil)))))))))))))))
 (pss_cons (ps_set (i := 13) sc.nd rfl (by first | exact Or.inl rfl | exact Or.inr rfl) (pe_op op_addU (pe_op op_addU (pe_op op_addU (pe_op op_addU pe_str (pe_joinU pe_str (pe_slice sl_U (pv 3) po_none (po_some pe_int)))) pe_str) (pe_joinU pe_str (pe_slice sl_U (pv 3) (po_some pe_int) po_none))) pe_str))
 (pss_cons (ps_if (PW.pt (pw_or (pt_not (pt_tr (pe_callD O_u_law_right hr (by decide) (pa_cons (pe_op op_addU (pe_op op_addU (pe_op op_addU (pv 13) pe_str) (pe_ix ix_seq (pv 3) pe_int (fun _ _ => rfl))) pe_str) pa_nil)))) (pw_or1 (pt_not (pt_tr (pe_callD O_u_law_right hr (by decide) (pa_cons (pe_op op_addU (pe_op op_addU (pv 13) (pe_ix ix_seq (pv 3) pe_int (fun _ _ => rfl))) pe_str) pa_nil))))))) (pss_one (ps_ret pe_bl)) pss_nil)
 (pss_cons (ps_set (i := 14) sc.nd rfl (by first | exact Or.inl rfl | exact Or.inr rfl) (pe_lst (pa_cons pe_str (pa_cons pe_str (pa_cons pe_str (pa_cons pe_str (pa_cons (pe_op op_addU (pe_op op_mulU pe_str (pe_op op_mod (pe_ix ix_seq (pv 1) pe_int (fun _ _ => rfl)) pe_int)) pe_str) (pa_cons pe_str (pa_cons pe_str pa_nil)))))))))
 (pss_cons (ps_aug (i := 14) sc.nd rfl (by first | exact Or.inl rfl | exact Or.inr rfl) (pe_lst (pa_cons pe_str (pa_cons pe_str (pa_cons pe_str (pa_cons pe_str pa_nil))))) ip_addU)
 (pss_cons (ps_for pa rfl (pi_seqU (pv 14)) (pg_name (i := 9) sc.nd rfl (by first | exact Or.inl rfl | exact Or.inr rfl)) (pss_one (ps_if (pt_not (pt_tr (pe_callD O_u_law_right hr (by decide) (pa_cons (pv 9) pa_nil)))) (pss_one (ps_ret pe_bl)) pss_nil)))
 (pss_one (ps_ret (pe_and (pe_callD O_u_law_right hr (by decide) (pa_cons pe_str pa_nil)) (pe_one (pe_callD O_u_law_right hr (by decide) (pa_cons pe_str pa_nil)))))))))))))))
end
end K05
set_option maxHeartbeats 4000000
namespace K05
open PySem PySem.Spec PyProof.Rows L2 DL
local macro_rules | `(tactic| walk_at "sz") => `(tactic| first
  | assumption
  | decide
  | omega
  | (rw [sizeLine_eq]; omega)
  | (simp only [sizeLine_eq, len_app, len_rep, len_one, List.length_append, List.length_cons, List.length_nil, List.length_map, List.length_replicate] <;> omega)
  | (simp only [sizeLine_eq, len_app, len_rep, len_one, List.length_append, List.length_cons, List.length_nil, List.length_map, List.length_replicate] at * <;> omega))
local macro_rules | `(tactic| walk_at "flat") => `(tactic| first
  | rfl
  | assumption
  | exact strs_flat _
  | decide)
local macro_rules | `(tactic| walk_at "ix") => `(tactic| first
  | rfl
  | exact atI_ints (by walk_at "sz") (by walk_at "sz")
  | exact atI_strs (by walk_at "sz") (by walk_at "sz")
  | exact atI_nn PyData.none (by walk_at "sz") (by walk_at "sz")
  | exact atI_nn (α := Nat) 0 (by walk_at "sz") (by walk_at "sz"))
local macro_rules | `(tactic| walk_at "odx") => `(tactic| first
  | fail "odx")
local macro_rules | `(tactic| walk_at "od") => `(tactic| first
  | ((with_reducible apply od_addI))
  | ((with_reducible apply od_sub))
  | ((with_reducible apply od_cmpI))
  | ((with_reducible apply od_eqI))
  | ((with_reducible apply od_neI))
  | ((with_reducible apply od_cmpS))
  | ((with_reducible apply od_eqS))
  | ((with_reducible apply od_neS))
  | ((with_reducible apply od_eqB))
  | ((with_reducible apply od_neB))
  | ((with_reducible apply od_isB))
  | ((with_reducible apply od_notB))
  | ((with_reducible apply od_inC))
  | ((with_reducible apply od_ninC))
  | ((with_reducible apply od_mod); (· walk_at "sz"))
  | ((with_reducible apply od_div); (· walk_at "sz"))
  | ((with_reducible apply od_mulI); (· first | exact Or.inr (by decide) | exact Or.inl (by decide) | exact Or.inr (by omega) | exact Or.inl (by omega)))
  | ((with_reducible apply od_addS); (· walk_at "sz"))
  | ((with_reducible apply od_addT); (· walk_at "sz"))
  | ((with_reducible apply od_ixL); (· walk_at "ix"))
  | ((with_reducible apply od_ixT); (· walk_at "ix"))
  | ((with_reducible apply od_ixS); (· walk_at "sz"); (· walk_at "ix"))
  | ((with_reducible apply od_inT); (· walk_at "flat"); (· walk_at "flat"))
  | ((with_reducible apply od_ninT); (· walk_at "flat"); (· walk_at "flat"))
  | ((with_reducible apply od_inL); (· walk_at "flat"); (· walk_at "flat"))
  | ((with_reducible apply od_ninL); (· walk_at "flat"); (· walk_at "flat"))
  | ((with_reducible apply od_pow); (· walk_at "sz"))
  | ((with_reducible apply od_mulS); (· walk_at "sz"); (· walk_at "sz"); (· walk_at "sz"))
  | ((with_reducible apply od_ltQ))
  | ((with_reducible apply od_geQ))
  | exact od_inC
  | exact od_ninC
  | walk_at "odx")
local macro_rules | `(tactic| walk_at "ea") => `(tactic| first
  | ((with_reducible apply ea_nil))
  | ((with_reducible apply ea_cons); (· walk_at "ev"); (· walk_at "ea")))
local macro_rules | `(tactic| walk_at "cdx") => `(tactic| first
  | fail "cdx")
local macro_rules | `(tactic| walk_at "cd") => `(tactic| first
  | ((with_reducible apply cd_max))
  | ((with_reducible apply cd_min))
  | ((with_reducible apply cd_abs))
  | ((with_reducible apply cd_lenL))
  | ((with_reducible apply cd_lenT))
  | ((with_reducible apply cd_lenS); (· walk_at "sz"))
  | ((with_reducible apply cd_int))
  | ((with_reducible apply cd_strI); (· walk_at "sz"))
  | ((with_reducible apply cd_tupL))
  | ((with_reducible apply cd_tupT))
  | walk_at "cdx")
local macro_rules | `(tactic| walk_at "eo") => `(tactic| first
  | ((with_reducible apply eo_none))
  | ((with_reducible apply eo_some); (· walk_at "ev")))
local macro_rules | `(tactic| walk_at "cnx") => `(tactic| first
  | fail "cnx")
local macro_rules | `(tactic| walk_at "evnx") => `(tactic| first
  | fail "evnx")
local macro_rules | `(tactic| walk_at "evn") => `(tactic| first
  | ((with_reducible apply en_lst); (· walk_at "ea"); (· walk_at "sz"))
  | ((with_reducible apply en_slL); (· walk_at "ev"); (· walk_at "eo"); (· walk_at "eo"))
  | ((with_reducible apply en_slScr); (· walk_at "ev"); (· walk_at "eo"); (· walk_at "eo"))
  | ((with_reducible apply en_revL); (· walk_at "ev"))
  | ((with_reducible apply en_dnewT))
  | ((with_reducible apply en_dnewK))
  | ((with_reducible apply en_op); (· walk_at "ev"); (· walk_at "ev"); (· first | ((with_reducible apply on_addL); (· walk_at "sz")) | ((with_reducible apply on_mulL); (· walk_at "sz"); (· walk_at "sz"); (· walk_at "sz"))))
  | ((with_reducible apply en_cb); (· walk_at "ea"); (· first | with_reducible exact cn_listL | with_reducible exact cn_listT | with_reducible exact cn_sortS (by walk_at "sz") | walk_at "cnx"))
  | walk_at "evnx")
local macro_rules | `(tactic| walk_at "sd") => `(tactic| first
  | assumption
  | rfl
  | omega
  | decide
  | (constructor <;> omega)
  | (simp only [*]; done))
local macro_rules | `(tactic| walk_at "relx") => `(tactic| first
  | fail "relx")
local macro_rules | `(tactic| walk_at "rel") => `(tactic| first
  | exact ⟨_, rfl, by rfl⟩
  | exact ⟨_, rfl, by walk_at "sd", by rfl⟩
  | exact ⟨_, _, rfl, by rfl⟩
  | exact ⟨_, _, rfl, by walk_at "sd", by rfl⟩
  | exact ⟨_, _, rfl, by walk_at "sd", by walk_at "sd", by rfl⟩
  | walk_at "relx")
local macro_rules | `(tactic| walk_at "evx") => `(tactic| first
  | fail "evx")
local macro_rules | `(tactic| walk_at "isi") => `(tactic| first
  | rfl
  | assumption
  | (simp only [isDicD, tyD]; done))
local macro_rules | `(tactic| walk_at "ok") => `(tactic| first
  | rfl
  | assumption
  | decide
  | (simp only [*]; done))
local macro_rules | `(tactic| walk_at "ev") => `(tactic| first
  | ((with_reducible apply ev_var); (· exact rfl))
  | ((with_reducible apply ev_int))
  | ((with_reducible apply ev_str))
  | ((with_reducible apply ev_bl))
  | ((with_reducible apply ev_non))
  | ((with_reducible apply ev_neg); (· walk_at "ev"))
  | ((with_reducible apply ev_ixO); (· exact rfl); (· walk_at "ev"); (· walk_at "ix"))
  | ((with_reducible apply ev_lenO); (· exact rfl))
  | ((with_reducible apply ev_inO); (· walk_at "ev"); (· exact rfl); (· walk_at "flat"); (· walk_at "flat"))
  | ((with_reducible apply ev_ninO); (· walk_at "ev"); (· exact rfl); (· walk_at "flat"); (· walk_at "flat"))
  | ((with_reducible apply ev_op); (· walk_at "ev"); (· walk_at "ev"); (· walk_at "od"))
  | ((with_reducible apply ev_cb); (· walk_at "ea"); (· walk_at "cd"))
  | ((with_reducible apply ev_call); (· walk_at "ea"); (· walk_at "rel"))
  | ((with_reducible apply ev_tup); (· walk_at "ea"); (· walk_at "sz"))
  | ((with_reducible apply ev_isi); (· walk_at "ev"); (· walk_at "isi"); (· first | exact (show kitB _ _ = some true from rfl) | exact (show kitB _ _ = some false from rfl)))
  | ((with_reducible apply ev_isN); (· walk_at "ev"))
  | ((with_reducible apply ev_notN); (· walk_at "ev"))
  | ((with_reducible apply ev_inDS); (· walk_at "ev"); (· walk_at "ev"))
  | ((with_reducible apply ev_ninDS); (· walk_at "ev"); (· walk_at "ev"))
  | ((with_reducible apply ev_and0); (· exact ev_is (by walk_at "ev") (congrArg PyData.bool (by walk_at "ok"))))
  | ((with_reducible apply ev_or1); (· exact ev_is (by walk_at "ev") (congrArg PyData.bool (by walk_at "ok"))))
  | ((with_reducible apply ev_andV); (· walk_at "ev"); (· intro _; walk_at "ev"))
  | ((with_reducible apply ev_orV); (· walk_at "ev"); (· intro _; walk_at "ev"))
  | ((with_reducible apply ev_notV); (· walk_at "ev"))
  | ((with_reducible apply ev_if1); (· exact et_is (by walk_at "et") (by walk_at "ok")); (· walk_at "ev"))
  | ((with_reducible apply ev_if0); (· exact et_is (by walk_at "et") (by walk_at "ok")); (· walk_at "ev"))
  | ((with_reducible apply ev_ite); (· walk_at "et"); (· intro _; walk_at "ev"); (· intro _; walk_at "ev"))
  | ((with_reducible apply ev_slS); (· walk_at "ev"); (· walk_at "sz"); (· walk_at "eo"); (· walk_at "eo"))
  | ((with_reducible apply ev_slT); (· walk_at "ev"); (· walk_at "eo"); (· walk_at "eo"))
  | ((with_reducible apply ev_chain); (· walk_at "ev"); (· walk_at "ev"); (· walk_at "od"); (· intro _; walk_at "ev"); (· intro _; walk_at "od"))
  | ((with_reducible apply ev_N); (· walk_at "evn"))
  | walk_at "evx")
local macro_rules | `(tactic| walk_at "et!") => `(tactic| first
  | exact et_is (by walk_at "et") (by walk_at "ok"))
local macro_rules | `(tactic| walk_at "et") => `(tactic| first
  | ((with_reducible apply et_or1); (· exact et_is (by walk_at "et") (by walk_at "ok")))
  | ((with_reducible apply et_and0); (· exact et_is (by walk_at "et") (by walk_at "ok")))
  | ((with_reducible apply et_test); (· walk_at "ev"))
  | ((with_reducible apply et_B); (· walk_at "ev"))
  | ((with_reducible apply et_not); (· walk_at "et"))
  | ((with_reducible apply et_and); (· walk_at "et"); (· intro _; walk_at "et"))
  | ((with_reducible apply et_or); (· walk_at "et"); (· intro _; walk_at "et"))
  | ((with_reducible apply et_trB); (· walk_at "ev"))
  | ((with_reducible apply et_trO); (· exact rfl))
  | ((with_reducible apply et_tr); (· walk_at "ev"); (· walk_at "isi"); (· walk_at "sz")))
section
variable {P : Program} {w : World} {K : PySem.W.Frag} {mg : Str → Option Value} {base : Heap}
abbrev FnP (K : PySem.W.Frag) (x : Str) (st : Stmt) : Prop := ∃ fd, FunD K x x (defArgs st) (defBody st) (defScope st) [] [] (He.ga K x) fd
theorem ev_SIDES (T : Txt K mg) {ρ : List Sl} : EV K (tC (.ref (He.ga K "SIDES"))) ρ (.tuple [.str "E", .str "N", .str "W", .str "S"]) := ev_glob fun G => .tup (T.t_SIDES G) (.cons (.str _) (.cons (.str _) (.cons (.str _) (.cons (.str _) .nil))))
theorem fk_is_side (T : Txt K mg)  {fd : FuncData} (F : FunD K "is_side" "is_side" (defArgs s_is_side) (defBody s_is_side) (defScope s_is_side) [] [] (He.ga K "is_side") fd) : FnOk P w K mg base CX0 1 (He.ga K "is_side") fd ["thing"] (sp_is_side K) := by
  refine fn_pf F sc_is_side ?_ (fun cdv A outer s H E hr => ⟨_, dv_is_side T  cdv A outer s H E hr, ?_⟩)
  · rintro ds d ⟨x0, rfl, _⟩
    rfl
  · rintro ds d ⟨z, rfl, rfl⟩
    refine ST.mono (P := fun o => o = .rt (.bool (sideB z))) ?_ fun o h => .inl h
    show ST K E0 (t_is_side K) [.fr (.str z)] _
    unfold t_is_side
    refine st_ret (ev_andV (b := inD (.str z) [.str "E", .str "N", .str "W", .str "S"]) (by walk_at "ev") (fun _ => ev_op (by walk_at "ev") (ev_SIDES T) (by walk_at "od"))) ?_
    show Oc.rt (.bool (true && inD (.str z) (sides4.map PyData.str))) = _
    rw [inD_str]
    rfl
theorem fk_name_fault (T : Txt K mg)  {fd : FuncData} (F : FunD K "name_fault" "name_fault" (defArgs s_name_fault) (defBody s_name_fault) (defScope s_name_fault) [] [] (He.ga K "name_fault") fd) : FnOk P w K mg base CX0 1 (He.ga K "name_fault") fd ["thing"] (sp_name_fault K) := by
  refine fn_pf F sc_name_fault ?_ (fun cdv A outer s H E hr => ⟨_, dv_name_fault T  cdv A outer s H E hr, ?_⟩)
  · rintro ds d ⟨x0, rfl, _⟩
    rfl
  · rintro ds d ⟨z, rfl, hz, rfl⟩
    refine ST.mono (P := fun o => o = .rt (nfS z)) ?_ fun o h => .inl h
    show ST K E0 (t_name_fault K) [.fr (.str z), .no, .no] _
    unfold t_name_fault
    have hz' : z.length ≤ sizeLine := by rw [sizeLine_eq]; omega
    refine q_when (b := !lenOk z) (by walk_at "et!") (fun hb => st_ret (by walk_at "ev") ?_) fun hb => ?_
    · show Oc.rt _ = Oc.rt (if lenOk z = true then _ else _)
      rw [if_neg (by simpa using hb)]
    · refine q_for (ei_enumS (by walk_at "ea")) (fun i ρ => (∀ j, j < i → badAt z j = false) ∧ ∃ s1 s2, ρ = [.fr (.str z), s1, s2]) ⟨fun j hj => absurd hj (Nat.not_lt_zero _), _, _, rfl⟩ ?_ ?_
      · rintro i ρ hi ⟨hb2, s1, s2, rfl⟩
        refine ⟨_, _, gt_tup rfl (gts_cons gt_name (gts_cons gt_name gts_nil)), ?_⟩
        refine st_if (b := badAt z i) (by walk_at "et!") (fun hb3 => st_ret (by walk_at "ev") ?_) (fun hb3 => st_next ?_)
        · show Oc.rt _ = Oc.rt (if lenOk z = true then _ else _)
          rw [if_pos (by simpa using hb), firstP_some hi hb2 hb3]
          rfl
        · refine ⟨fun j hj => ?_, _, _, rfl⟩
          by_cases e : j = i
          · rw [e]; exact hb3
          · exact hb2 j (by omega)
      · rintro ρ ⟨hb2, s1, s2, rfl⟩
        refine st_ret (by walk_at "ev") ?_
        show Oc.rt _ = Oc.rt (if lenOk z = true then _ else _)
        rw [if_pos (by simpa using hb), firstP_none hb2]
        rfl
theorem fk_is_name (T : Txt K mg) (O_name_fault : Okd P w K mg base CX0 1 "name_fault" ["thing"] (sp_name_fault K)) {fd : FuncData} (F : FunD K "is_name" "is_name" (defArgs s_is_name) (defBody s_is_name) (defScope s_is_name) [] [] (He.ga K "is_name") fd) : FnOk P w K mg base CX0 2 (He.ga K "is_name") fd ["thing"] (sp_is_name K) := by
  refine fn_pf F sc_is_name ?_ (fun cdv A outer s H E hr => ⟨_, dv_is_name T O_name_fault cdv A outer s H E hr, ?_⟩)
  · rintro ds d ⟨x0, rfl, _⟩
    rfl
  · rintro ds d ⟨z, rfl, hz, rfl⟩
    refine ST.mono (P := fun o => o = .rt (.bool (nameB z))) ?_ fun o h => .inl h
    show ST K E0 (t_is_name K) [.fr (.str z)] _
    unfold t_is_name sp_name_fault
    exact st_ret (ev_isN (ev_call (ea_cons (ev_var rfl) ea_nil) ⟨z, rfl, hz, rfl⟩)) rfl
theorem fk_ordered_pair (T : Txt K mg)  {fd : FuncData} (F : FunD K "ordered_pair" "ordered_pair" (defArgs s_ordered_pair) (defBody s_ordered_pair) (defScope s_ordered_pair) [] [] (He.ga K "ordered_pair") fd) : FnOk P w K mg base CX0 1 (He.ga K "ordered_pair") fd ["one", "other"] (sp_ordered_pair K) := by
  refine fn_pf F sc_ordered_pair ?_ (fun cdv A outer s H E hr => ⟨_, dv_ordered_pair T  cdv A outer s H E hr, ?_⟩)
  · rintro ds d ⟨x0, x1, rfl, _⟩
    rfl
  · rintro ds d ⟨a, b, rfl, rfl⟩
    refine ST.mono (P := fun o => o = .rt (pqD (ordQ (a, b)))) ?_ fun o h => .inl h
    show ST K E0 (t_ordered_pair K) [.fr (.str a), .fr (.str b)] _
    unfold t_ordered_pair
    refine st_ret (ev_ite (b := ltS a b) (d1 := .tuple [.str a, .str b]) (d2 := .tuple [.str b, .str a]) (et_is (by walk_at "et") (by rfl)) (fun _ => by walk_at "ev") (fun _ => by walk_at "ev")) ?_
    unfold ordQ
    dsimp only
    split <;> rfl
theorem range_getD {α β : Type} (f : α → β) (z : α) (l : List α) : (List.range l.length).map (fun i => f (l.getD i z)) = l.map f := by
  refine List.ext_getElem (by rw [List.length_map, List.length_range, List.length_map]) fun i h1 h2 => ?_
  rw [List.length_map, List.length_range] at h1
  rw [List.getElem_map, List.getElem_range, List.getElem_map, List.getD_eq_getElem?_getD, List.getElem?_eq_getElem h1]
  rfl
theorem fk_make_scheme (T : Txt K mg) (O_ordered_pair : Okd P w K mg base CX0 1 "ordered_pair" ["one", "other"] (sp_ordered_pair K)) {fd : FuncData} (F : FunD K "make_scheme" "make_scheme" (defArgs s_make_scheme) (defBody s_make_scheme) (defScope s_make_scheme) [] [] (He.ga K "make_scheme") fd) : FnOk P w K mg base CX0 2 (He.ga K "make_scheme") fd ["rooms", "touches"] (sp_make_scheme K) := by
  refine fn_pf F sc_make_scheme ?_ (fun cdv A outer s H E hr => ⟨_, dv_make_scheme T O_ordered_pair cdv A outer s H E hr, ?_⟩)
  · rintro ds d ⟨x0, x1, rfl, _⟩
    rfl
  · rintro ds d ⟨rs, ts, rfl, hr, ht, hdd, rfl⟩
    refine ST.mono (P := fun o => o = .rt (mkD rs ts)) ?_ fun o h => .inl h
    show ST K E0 (t_make_scheme K) [.fr (.tuple (rs.map PyData.str)), .fr (.tuple (ts.map pqD)), .no, .no, .no] _
    unfold t_make_scheme sp_ordered_pair
    have e := range_getD ordQ (Str.empty, Str.empty) ts
    refine q_asgN (en_sortSc (n := ts.length) (f := fun i => ordQ (ts.getD i (Str.empty, Str.empty))) (ei_tupQ (by walk_at "ev")) ?_ fun i hi => ⟨_, _, gt_tup rfl (gts_cons gt_name (gts_cons gt_name gts_nil)), by simp, ev_call (by walk_at "ea") ⟨_, _, rfl, rfl⟩⟩) ?_
    · rw [e]
      exact hdd
    rw [e]
    refine q_frz (i := 2) rfl ?_
    exact st_ret (ev_tup (ea_cons (ev_cb (ea_cons (ev_N (en_sortSet (ev_var rfl) (.inr rfl) (by omega))) ea_nil) cd_tupL) (ea_cons (ev_cb (ea_cons (ev_var rfl) ea_nil) cd_tupL) ea_nil)) (by show 2 ≤ sizeLine; rw [sizeLine_eq]; decide)) (by rfl)
theorem fk_text_lines (T : Txt K mg)  {fd : FuncData} (F : FunD K "text_lines" "text_lines" (defArgs s_text_lines) (defBody s_text_lines) (defScope s_text_lines) [] [] (He.ga K "text_lines") fd) : FnOk P w K mg base CX0 1 (He.ga K "text_lines") fd ["text"] (sp_text_lines K) := by
  refine fn_pf F sc_text_lines ?_ (fun cdv A outer s H E hr => ⟨_, dv_text_lines T  cdv A outer s H E hr, ?_⟩)
  · rintro ds d ⟨x0, rfl, _⟩
    rfl
  · rintro ds d ⟨z, rfl, hz, rfl⟩
    refine ST.mono (P := fun o => o = .rt (.list ((linesT z).map PyData.str))) ?_ fun o h => .inl h
    show ST K E0 (t_text_lines K) [.fr (.str z)] _
    unfold t_text_lines
    refine st_ret (ev_ite (d1 := .list ((piecesT 10 z).map PyData.str)) (d2 := .list []) (et_test (ev_op (ev_var (by rfl)) ev_str od_neS)) (fun _ => ev_N (en_is (en_split (ev_var (by rfl)) ev_str (by decide +kernel) (by rw [sizeLine_eq]; omega)) (by rw [split_nl]))) (fun _ => ev_N (en_lst ea_nil (Nat.zero_le _)))) ?_
    unfold linesT
    by_cases h : z = ""
    · rw [decide_eq_true h, if_pos h]; rfl
    · rw [decide_eq_false h, if_neg h]; rfl
theorem wipe_len : ∀ (vs : List Nat) (ρ : List Sl), (wipeS ρ vs).length = ρ.length
  | [], _ => rfl
  | v :: vs, ρ => by
    unfold wipeS
    rw [List.length_set]
    exact wipe_len vs ρ
theorem words_lc (z : Str) : lcD (piecesT 32 z).length (fun i => (fun w : Str => !decide (w = "")) ((piecesT 32 z).getD i Str.empty)) (fun i => PyData.str ((piecesT 32 z).getD i Str.empty)) = (wordsT z).map PyData.str := lc_filterA (p := fun w : Str => !decide (w = "")) (h := PyData.str) Str.empty (piecesT 32 z)
theorem en_words {ρ : List Sl} {te : TE} {vs : List Nat} {n : Nat} {z : Str} (hn : n ∈ vs) (hl : n < ρ.length) (h : EV K te ρ (.str z)) (hz : z.length ≤ 10000000) : EVN K (tLc (iSeqU K (tM1 rSplitU te (tC (.str " ")))) (gName n) (tTest (tOp (rNeU K) (tVar n) (tC (.str "")))) (tVar n) vs) ρ (.list ((wordsT z).map PyData.str)) := by
  have hp := pieces_len 32 z
  refine en_is (en_lc (b := fun i => (fun w : Str => !decide (w = "")) ((piecesT 32 z).getD i Str.empty)) (f := fun i => PyData.str ((piecesT 32 z).getD i Str.empty)) (ei_listS (zs := piecesT 32 z) (ev_N (en_is (en_split h ev_str (by decide +kernel) (by rw [sizeLine_eq]; omega)) (by rw [split_sp])))) (by omega) fun i hi => ⟨_, _, gt_name, by simpa using hn, ?_, fun _ => ?_⟩) (congrArg PyData.list (words_lc z))
  · exact et_test (ev_op (ev_var (by rw [List.getElem?_set_self (by rw [wipe_len]; exact hl)])) ev_str od_neS)
  · exact ev_var (by rw [List.getElem?_set_self (by rw [wipe_len]; exact hl)])
theorem fk_words_of (T : Txt K mg)  {fd : FuncData} (F : FunD K "words_of" "words_of" (defArgs s_words_of) (defBody s_words_of) (defScope s_words_of) [] [] (He.ga K "words_of") fd) : FnOk P w K mg base CX0 1 (He.ga K "words_of") fd ["line"] (sp_words_of K) := by
  refine fn_pf F sc_words_of ?_ (fun cdv A outer s H E hr => ⟨_, dv_words_of T  cdv A outer s H E hr, ?_⟩)
  · rintro ds d ⟨x0, rfl, _⟩
    rfl
  · rintro ds d ⟨z, rfl, hz, rfl⟩
    refine ST.mono (P := fun o => o = .rt (.list ((wordsT z).map PyData.str))) ?_ fun o h => .inl h
    show ST K E0 (t_words_of K) [.fr (.str z), .no] _
    unfold t_words_of
    exact st_ret (ev_N (en_words (n := 1) (by simp) (Nat.lt_succ_self 1) (ev_var (by rfl)) hz)) (by rfl)
theorem lines_len (z : Str) : (linesT z).length ≤ z.length + 1 := by
  unfold linesT
  split
  · exact Nat.zero_le _
  · exact pieces_len 10 z
theorem lines_mem {z l : Str} (h : l ∈ linesT z) : l.length ≤ z.length := by
  unfold linesT at h
  split at h
  · cases h
  · exact (pieces_mem h).2.2
theorem words_len (l : Str) : (wordsT l).length ≤ l.length + 1 := Nat.le_trans (List.length_filter_le _ _) (pieces_len 32 l)
theorem words_mem {l w : Str} (h : w ∈ wordsT l) : w.length ≤ l.length ∧ 32 ∉ w.cps.toList ∧ w ≠ "" := by
  obtain ⟨h1, h2⟩ := List.mem_filter.mp h
  obtain ⟨a, _, b⟩ := pieces_mem h1
  exact ⟨b, a, by simpa using h2⟩
theorem fk_passed_over (T : Txt K mg) (O_words_of : Okd P w K mg base CX0 1 "words_of" ["line"] (sp_words_of K)) {fd : FuncData} (F : FunD K "passed_over" "passed_over" (defArgs s_passed_over) (defBody s_passed_over) (defScope s_passed_over) [] [] (He.ga K "passed_over") fd) : FnOk P w K mg base CX0 2 (He.ga K "passed_over") fd ["line"] (sp_passed_over K) := by
  refine fn_pf F sc_passed_over ?_ (fun cdv A outer s H E hr => ⟨_, dv_passed_over T O_words_of cdv A outer s H E hr, ?_⟩)
  · rintro ds d ⟨x0, rfl, _⟩
    rfl
  · rintro ds d ⟨z, rfl, hz, rfl⟩
    refine ST.mono (P := fun o => o = .rt (.bool (passW (wordsT z)))) ?_ fun o h => .inl h
    show ST K E0 (t_passed_over K) [.fr (.str z), .no] _
    unfold t_passed_over sp_words_of
    refine q_asg (d := .list ((wordsT z).map PyData.str)) (ev_call (ea_cons (ev_var rfl) ea_nil) ⟨z, rfl, hz, rfl⟩) ?_
    have hw := words_len z
    generalize wordsT z = ws at hw
    cases ws with
    | nil => exact st_ret (ev_or1 (ev_is (ev_op (ev_cb (ea_cons (ev_var (d := .list []) (by rfl)) ea_nil) cd_lenL) ev_int od_eqI) (by rfl))) (by rfl)
    | cons w ws =>
      refine st_ret (ev_orV (a := false) (b := Txt.startswith w "#") (ev_is (ev_op (ev_cb (ea_cons (ev_var (d := .list ((w :: ws).map PyData.str)) (by rfl)) ea_nil) cd_lenL) ev_int od_eqI) (congrArg PyData.bool (decide_eq_false (by rw [List.length_map, List.length_cons]; omega)))) fun _ => ev_starts (first_at (ws := ws) (by rfl)) ev_str) ?_
      rfl
theorem told_snoc (l : Str) : ∀ (a : List Str) (k : Nat), toldL k (a ++ [l]) = toldL k a ++ (if passW (wordsT l) = true then [] else [(k + a.length + 1, wordsT l)])
  | [], k => by
    show toldL k [l] = _
    unfold toldL
    split <;> rfl
  | x :: a, k => by
    rw [List.cons_append]
    conv => lhs; unfold toldL
    conv => rhs; unfold toldL
    have e : k + 1 + a.length + 1 = k + (x :: a).length + 1 := by rw [List.length_cons]; omega
    split
    · rw [told_snoc l a (k + 1), e]
    · rw [told_snoc l a (k + 1), e, List.cons_append]
theorem told_len : ∀ (a : List Str) (k : Nat), (toldL k a).length ≤ a.length
  | [], _ => Nat.le_refl _
  | x :: a, k => by
    have := told_len a (k + 1)
    unfold toldL
    split
    · rw [List.length_cons]; omega
    · rw [List.length_cons, List.length_cons]; omega
theorem map_getD {α : Type} {f : α → D} {ls : List α} {i : Nat} (hi : i < ls.length) (z : α) (y : D) : (ls.map f).getD i y = f (ls.getD i z) := by
  rw [List.getD_eq_getElem?_getD, List.getElem?_map, List.getD_eq_getElem?_getD, List.getElem?_eq_getElem hi]
  rfl
theorem fk_told_lines (T : Txt K mg) (O_text_lines : Okd P w K mg base CX0 1 "text_lines" ["text"] (sp_text_lines K)) (O_passed_over : Okd P w K mg base CX0 2 "passed_over" ["line"] (sp_passed_over K)) (O_words_of : Okd P w K mg base CX0 1 "words_of" ["line"] (sp_words_of K)) {fd : FuncData} (F : FunD K "told_lines" "told_lines" (defArgs s_told_lines) (defBody s_told_lines) (defScope s_told_lines) [] [] (He.ga K "told_lines") fd) : FnOk P w K mg base CX0 3 (He.ga K "told_lines") fd ["text"] (sp_told_lines K) := by
  refine fn_pf F sc_told_lines ?_ (fun cdv A outer s H E hr => ⟨_, dv_told_lines T O_text_lines O_passed_over O_words_of cdv A outer s H E hr, ?_⟩)
  · rintro ds d ⟨x0, rfl, _⟩
    rfl
  · rintro ds d ⟨z, rfl, hz, rfl⟩
    refine ST.mono (P := fun o => o = .rt (.list ((toldL 0 (linesT z)).map linD))) ?_ fun o h => .inl h
    show ST K E0 (t_told_lines K) [.fr (.str z), .no, .no, .no] _
    unfold t_told_lines sp_text_lines sp_passed_over sp_words_of
    have hl := lines_len z
    have hm : ∀ l ∈ linesT z, l.length ≤ z.length := fun l h => lines_mem h
    generalize hL : linesT z = ls at hl hm
    refine q_asgN (d := .list ((toldL 0 (ls.take 0)).map linD)) (by exact en_lst ea_nil (Nat.zero_le _)) ?_
    refine q_for (ei_enumL (ds := ls.map PyData.str) (ea_cons (ev_call (ea_cons (ev_var rfl) ea_nil) ⟨z, rfl, hz, by rw [hL]⟩) ea_nil)) (fun i ρ => ∃ s2 s3 : Sl, ρ = [.fr (.str z), .ow (.list ((toldL 0 (ls.take i)).map linD)), s2, s3]) ⟨_, _, rfl⟩ ?_ ?_
    · rintro i ρ hi ⟨s2, s3, rfl⟩
      rw [List.length_map] at hi
      rw [map_getD hi Str.empty]
      have hy := hm _ (getD_mem (z := Str.empty) hi)
      refine ⟨_, _, gt_tup rfl (gts_cons gt_name (gts_cons gt_name gts_nil)), ?_⟩
      rw [take_one hi Str.empty, told_snoc]
      have h9 : (ls.take i).length = i := by rw [List.length_take]; omega
      have h8 := told_len (ls.take i) 0
      rw [h9, Nat.zero_add]
      generalize ls.getD i Str.empty = l at hy
      refine st_if (b := !passW (wordsT l)) (et_not (et_trB (ev_call (ea_cons (ev_var (by rfl)) ea_nil) ⟨l, rfl, by omega, rfl⟩))) (fun hb => ?_) (fun hb => st_next ?_)
      · have hb' : passW (wordsT l) = false := by simpa using hb
        rw [hb', if_neg (by decide)]
        refine st_append (d := linD (i + 1, wordsT l)) (by rfl) (ev_tup (ea_cons (ev_op (ev_var (by rfl)) ev_int od_addI) (ea_cons (ev_call (ea_cons (ev_var (by rfl)) ea_nil) ⟨l, rfl, by omega, rfl⟩) ea_nil)) (by show 2 ≤ sizeLine; rw [sizeLine_eq]; decide)) (by rw [List.length_map]; omega) ?_
        refine ⟨.fr (.int (i : Nat)), .fr (.str l), ?_⟩
        rw [List.map_append]
        rfl
      · have hb' : passW (wordsT l) = true := by simpa using hb
        rw [hb', if_pos rfl, List.append_nil]
        exact ⟨_, _, rfl⟩
    rintro ρ ⟨s2, s3, rfl⟩
    rw [List.length_map, List.take_length]
    exact q_frz (i := 1) rfl (st_ret (ev_var (by rfl)) (by rfl))
theorem fk_line_behind (T : Txt K mg) (O_text_lines : Okd P w K mg base CX0 1 "text_lines" ["text"] (sp_text_lines K)) {fd : FuncData} (F : FunD K "line_behind" "line_behind" (defArgs s_line_behind) (defBody s_line_behind) (defScope s_line_behind) [] [] (He.ga K "line_behind") fd) : FnOk P w K mg base CX0 2 (He.ga K "line_behind") fd ["text"] (sp_line_behind K) := by
  refine fn_pf F sc_line_behind ?_ (fun cdv A outer s H E hr => ⟨_, dv_line_behind T O_text_lines cdv A outer s H E hr, ?_⟩)
  · rintro ds d ⟨x0, rfl, _⟩
    rfl
  · rintro ds d ⟨z, rfl, hz, rfl⟩
    refine ST.mono (P := fun o => o = .rt (.int (((linesT z).length : Nat) + 1))) ?_ fun o h => .inl h
    show ST K E0 (t_line_behind K) [.fr (.str z)] _
    unfold t_line_behind sp_text_lines
    refine st_ret (ev_op (ev_cb (ea_cons (ev_call (ea_cons (ev_var rfl) ea_nil) ⟨z, rfl, hz, rfl⟩) ea_nil) cd_lenL) ev_int od_addI) ?_
    rw [List.length_map]
theorem any_take {ws : List Str} {p : Str → Bool} {i : Nat} (hi : i < ws.length) (h : p (ws.getD i Str.empty) = true) : ws.any p = true := List.any_eq_true.mpr ⟨_, getD_mem hi, h⟩
theorem any_none {ws : List Str} {p : Str → Bool} (h : ∀ j, j < ws.length → p (ws.getD j Str.empty) = false) : ws.any p = false := by
  refine List.any_eq_false.mpr fun w hw => ?_
  obtain ⟨i, hi, e⟩ := List.getElem_of_mem hw
  have := h i hi
  rw [List.getD_eq_getElem?_getD, List.getElem?_eq_getElem hi] at this
  rw [← e]
  simpa using this
/-- a loop that answers as soon as one of these has p -/
theorem q_find {ρ : List Sl} {ws : List Str} {wi : TI} {n : Nat} {t u : TS} {Ex : XK} {P : Oc → Prop} {p : Str → Bool} (hw : EI K wi ρ ws.length (fun i => .str (ws.getD i Str.empty)))
    (hs : ∀ s w, w ∈ ws → ST K Ex t ((ρ.set n s).set n (.fr (.str w))) (loopP (fun ρ' => p w = false ∧ ∃ s, ρ' = ρ.set n s) (seqP K Ex u P)))
    (hd : ws.any p = false → ∀ s, ST K Ex u (ρ.set n s) P) : ST K Ex (tSeq (tFor wi (gName n) t) u) ρ P := by
  have h0 : ∃ s, ρ = ρ.set n s := by
    by_cases h : n < ρ.length
    · exact ⟨ρ[n], (List.set_getElem_self h).symm⟩
    · exact ⟨.no, (List.set_eq_of_length_le (by omega)).symm⟩
  refine q_for hw (fun i ρ' => (∀ j, j < i → p (ws.getD j Str.empty) = false) ∧ ∃ s, ρ' = ρ.set n s) ⟨fun j hj => absurd hj (Nat.not_lt_zero _), h0⟩ ?_ ?_
  · rintro i ρ' hi ⟨hb, s, rfl⟩
    refine ⟨_, _, gt_name, ?_⟩
    refine ST.mono (hs s _ (getD_mem hi)) fun o h => ?_
    have up : ∀ ρ', (p (ws.getD i Str.empty) = false ∧ ∃ s, ρ' = ρ.set n s) → ((∀ j, j < i + 1 → p (ws.getD j Str.empty) = false) ∧ ∃ s, ρ' = ρ.set n s) := fun ρ' ⟨a, b⟩ => ⟨fun j hj => by
      by_cases e : j = i
      · rw [e]; exact a
      · exact hb j (by omega), b⟩
    cases o with
    | nx ρ' => exact up ρ' h
    | ct ρ' => exact up ρ' h
    | bk ρ' => exact h
    | rt d => exact h
    | ex C fl => exact h
  · rintro ρ' ⟨hb, s, rfl⟩
    exact hd (any_none hb) s
/-- for x in ws: if test: return d -/
theorem q_anyRet {ρ : List Sl} {ws : List Str} {wi : TI} {n : Nat} {u : TS} {tt : TT} {te : TE} {Ex : XK} {P : Oc → Prop} {p : Str → Bool} {d : D} (hw : EI K wi ρ ws.length (fun i => .str (ws.getD i Str.empty)))
    (ht : ∀ s w, w ∈ ws → ET K tt ((ρ.set n s).set n (.fr (.str w))) (p w)) (hr : ∀ ρ', EV K te ρ' d) (h1 : ws.any p = true → P (.rt d))
    (h2 : ws.any p = false → ∀ s, ST K Ex u (ρ.set n s) P) : ST K Ex (tSeq (tFor wi (gName n) (tIfS tt (tRet te) tNext)) u) ρ P :=
  q_find (p := p) hw (fun s w hm => st_if (b := p w) (ht s w hm) (fun hb => st_ret (hr _) (h1 (List.any_eq_true.mpr ⟨w, hm, hb⟩))) fun hb => st_next ⟨hb, .fr (.str w), by rw [List.set_set]⟩) h2
theorem st_find {ρ : List Sl} {ws : List Str} {wi : TI} {n : Nat} {u : TS} {tt : TT} {te : TE} {Ex : XK} {P : Oc → Prop} {p : Str → Bool} {d : D} (hw : EI K wi ρ ws.length (fun i => .str (ws.getD i Str.empty)))
    (ht : ∀ s w, w ∈ ws → ET K tt ((ρ.set n s).set n (.fr (.str w))) (p w)) (hr : ∀ ρ', EV K te ρ' d) (h1 : ws.any p = true → seqP K Ex u P (.rt d))
    (h2 : ws.any p = false → ∀ s, ST K Ex u (ρ.set n s) P) : ST K Ex (tFor wi (gName n) (tIfS tt (tRet te) tNext)) ρ (seqP K Ex u P) := by
  have h0 : ∃ s, ρ = ρ.set n s := by
    by_cases h : n < ρ.length
    · exact ⟨ρ[n], (List.set_getElem_self h).symm⟩
    · exact ⟨.no, (List.set_eq_of_length_le (by omega)).symm⟩
  refine st_for hw (fun i ρ' => (∀ j, j < i → p (ws.getD j Str.empty) = false) ∧ ∃ s, ρ' = ρ.set n s) ⟨fun j hj => absurd hj (Nat.not_lt_zero _), h0⟩ ?_ ?_
  · rintro i ρ' hi ⟨hb, s, rfl⟩
    refine ⟨_, _, gt_name, ?_⟩
    refine st_if (b := p (ws.getD i Str.empty)) (ht s _ (getD_mem hi)) (fun hp => st_ret (hr _) (h1 (any_take hi hp))) fun hp => st_next ⟨fun j hj => ?_, .fr (.str (ws.getD i Str.empty)), by rw [List.set_set]⟩
    by_cases e : j = i
    · rw [e]; exact hp
    · exact hb j (by omega)
  · rintro ρ' ⟨hb, s, rfl⟩
    exact h2 (any_none hb) s
theorem ev_in_rooms {ρ : List Sl} {a b : TE} {w : Str} {rs : List Str} (h1 : EV K a ρ (.str w)) (h2 : EV K b ρ (dkD (bS rs))) : EV K (tDIn a b) ρ (.bool (decide (w ∈ rs))) := ev_is (ev_inDS h1 h2) (congrArg PyData.bool has_bS)
theorem ev_nin_rooms {ρ : List Sl} {a b : TE} {w : Str} {rs : List Str} (h1 : EV K a ρ (.str w)) (h2 : EV K b ρ (dkD (bS rs))) : EV K (tDNotIn a b) ρ (.bool (!decide (w ∈ rs))) := ev_is (ev_ninDS h1 h2) (congrArg PyData.bool (by rw [has_bS]))
theorem dd_full {α : Type} [DecidableEq α] : ∀ {l : List α}, ¬ (dd l).length < l.length → l.Nodup
  | [], _ => List.nodup_nil
  | x :: l, h => by
    have := DL.dd_len l
    unfold dd at h
    split at h
    · rw [List.length_cons] at h
      omega
    · rename_i hx
      rw [List.length_cons, List.length_cons] at h
      exact List.nodup_cons.mpr ⟨fun m => hx (mem_dd.mpr m), dd_full (by omega)⟩
theorem nodup_app {rs ws : List Str} (h : rs.Nodup) : (rs ++ ws).Nodup ↔ ws.Nodup ∧ (ws.any fun w => decide (w ∈ rs)) = false := by
  rw [List.nodup_append, List.any_eq_false]
  constructor
  · rintro ⟨_, h2, h3⟩
    exact ⟨h2, fun w hw => by simpa using fun k => h3 w k w hw rfl⟩
  · rintro ⟨h2, h3⟩
    exact ⟨h, h2, fun a ha b hb e => by subst e; exact (by simpa using h3 a hb : a ∉ rs) ha⟩
theorem fk_scheme_rooms_fault (T : Txt K mg) (O_is_name : Okd P w K mg base CX0 2 "is_name" ["thing"] (sp_is_name K)) {fd : FuncData} (F : FunD K "scheme_rooms_fault" "scheme_rooms_fault" (defArgs s_scheme_rooms_fault) (defBody s_scheme_rooms_fault) (defScope s_scheme_rooms_fault) [] [] (He.ga K "scheme_rooms_fault") fd) : FnOk P w K mg base CX0 3 (He.ga K "scheme_rooms_fault") fd ["rooms", "known"] (sp_scheme_rooms_fault K) := by
  refine fn_pf F sc_scheme_rooms_fault ?_ (fun cdv A outer s H E hr => ⟨_, dv_scheme_rooms_fault T O_is_name cdv A outer s H E hr, ?_⟩)
  · rintro ds d ⟨x0, x1, rfl, _⟩
    rfl
  · rintro ds d ⟨ws, rs, rfl, nd, hl, hw, hz, rfl⟩
    refine ST.mono (P := fun o => o = .rt (optS (roomsF ws rs))) ?_ fun o h => .inl h
    show ST K E0 (t_scheme_rooms_fault K) [.fr (.list (ws.map PyData.str)), .fr (dkD (bS rs)), .no] _
    unfold t_scheme_rooms_fault sp_is_name
    refine q_anyRet (p := fun w => !nameB w) (ei_listS (zs := ws) (ev_var rfl)) (fun s w hm => et_not (et_trB (ev_call (ea_cons (ev_var (by rfl)) ea_nil) ⟨w, rfl, by have := hz w hm; omega, rfl⟩))) (fun _ => ev_str) (fun h => ?_) fun h s => ?_
    · show Oc.rt _ = Oc.rt _
      unfold roomsF
      rw [if_pos h]
      rfl
    have e0 : roomsF ws rs = if ¬ ((rs ++ ws).Nodup) then (some "twice" : Option Str) else if rs.length + ws.length > 40 then (some "limit" : Option Str) else none := by
      unfold roomsF
      rw [if_neg (by rw [h]; decide)]
    rw [e0]
    refine q_when (b := decide ((dd ws).length < ws.length)) (et_is (et_test (ev_op (ev_lenSet (zs := ws) (ev_var (d := .list (ws.map PyData.str)) (by rfl)) (.inl rfl) (by omega)) (ev_cb (ea_cons (ev_var (d := .list (ws.map PyData.str)) (by rfl)) ea_nil) cd_lenL) od_cmpI)) (by rw [List.length_map]; exact decide_eq_decide.mpr (by omega))) (fun hb => ?_) fun hb => ?_
    · have hb := of_decide_eq_true hb
      refine st_ret ev_str ?_
      rw [if_pos fun k => ?_]
      · rfl
      · have h3 := ((nodup_app nd).mp k).1
        rw [dd_of h3] at hb
        omega
    have hd := dd_full (of_decide_eq_false hb)
    refine q_anyRet (p := fun w => decide (w ∈ rs)) (ei_listS (zs := ws) (ev_var rfl)) (fun s w hm => et_B (ev_in_rooms (ev_var (by rfl)) (ev_var (by rfl)))) (fun _ => ev_str) (fun h => ?_) fun h s => ?_
    · show Oc.rt _ = Oc.rt _
      rw [if_pos fun k => by rw [((nodup_app nd).mp k).2] at h; cases h]
      rfl
    rw [if_neg (fun k => k ((nodup_app nd).mpr ⟨hd, h⟩))]
    refine q_when (b := decide (rs.length + ws.length > 40)) (et_is (et_test (ev_op (ev_op (ev_lenDK (kvs := bS rs) (ev_var (by rfl))) (ev_cb (ea_cons (ev_var (d := .list (ws.map PyData.str)) (by rfl)) ea_nil) cd_lenL) od_addI) ev_int od_cmpI)) (by rw [List.length_map, bS_len]; exact decide_eq_decide.mpr (by omega))) (fun hb => ?_) fun hb => ?_
    · refine st_ret ev_str ?_
      rw [if_pos (of_decide_eq_true hb)]
      rfl
    · refine st_ret ev_non ?_
      rw [if_neg (of_decide_eq_false hb)]
      rfl
theorem fk_scheme_touch_fault (T : Txt K mg) (O_is_side : Okd P w K mg base CX0 1 "is_side" ["thing"] (sp_is_side K)) (O_is_name : Okd P w K mg base CX0 2 "is_name" ["thing"] (sp_is_name K)) {fd : FuncData} (F : FunD K "scheme_touch_fault" "scheme_touch_fault" (defArgs s_scheme_touch_fault) (defBody s_scheme_touch_fault) (defScope s_scheme_touch_fault) [] [] (He.ga K "scheme_touch_fault") fd) : FnOk P w K mg base CX0 3 (He.ga K "scheme_touch_fault") fd ["first", "others", "known"] (sp_scheme_touch_fault K) := by
  refine fn_pf F sc_scheme_touch_fault ?_ (fun cdv A outer s H E hr => ⟨_, dv_scheme_touch_fault T O_is_side O_is_name cdv A outer s H E hr, ?_⟩)
  · rintro ds d ⟨x0, x1, x2, rfl, _⟩
    rfl
  · rintro ds d ⟨z, ws, rs, rfl, hw, hz, rfl⟩
    refine ST.mono (P := fun o => o = .rt (optS (touchF z ws rs))) ?_ fun o h => .inl h
    show ST K E0 (t_scheme_touch_fault K) [.fr (.str z), .fr (.list (ws.map PyData.str)), .fr (dkD (bS rs)), .no] _
    unfold t_scheme_touch_fault sp_is_side sp_is_name
    refine q_anyRet (ws := z :: ws) (p := fun y => !sideB y && !nameB y) (ei_firsts (ev_var rfl) (ev_var rfl) (by omega)) (fun s w hm => et_and (et_not (et_trB (ev_call (ea_cons (ev_var (by rfl)) ea_nil) ⟨w, rfl, rfl⟩))) fun _ => et_not (et_trB (ev_call (ea_cons (ev_var (by rfl)) ea_nil) ⟨w, rfl, by have := hz w hm; omega, rfl⟩))) (fun _ => ev_str) (fun h => ?_) fun h s => ?_
    · show Oc.rt _ = Oc.rt _
      unfold touchF
      rw [if_pos h]
      rfl
    have e0 : touchF z ws rs = if ((z :: ws).any fun y => !sideB y && !decide (y ∈ rs)) = true then (some "unknown" : Option Str) else if (sideB z && ws.any sideB) = true then (some "sides" : Option Str) else if z ∈ ws then (some "self" : Option Str) else none := by
      unfold touchF
      rw [if_neg (by rw [h]; decide)]
    rw [e0]
    refine q_anyRet (ws := z :: ws) (p := fun y => !sideB y && !decide (y ∈ rs)) (ei_firsts (ev_var rfl) (ev_var rfl) (by omega)) (fun s w hm => et_and (et_not (et_trB (ev_call (ea_cons (ev_var (by rfl)) ea_nil) ⟨w, rfl, rfl⟩))) fun _ => et_B (ev_nin_rooms (ev_var (by rfl)) (ev_var (by rfl)))) (fun _ => ev_str) (fun h => ?_) fun h s => ?_
    · show Oc.rt _ = Oc.rt _
      rw [if_pos h]
      rfl
    rw [if_neg (by rw [h]; decide)]
    have tail : ∀ s, (sideB z && ws.any sideB) = false → ST K E0 (tSeq (tIfS (tTest (tOp (rInU K) (tVar 0) (tVar 1))) (tRet (tC (.str "self"))) tNext) (tRet (tC .non))) [.fr (.str z), .fr (.list (ws.map PyData.str)), .fr (dkD (bS rs)), s] fun o => o = .rt (optS (if (sideB z && ws.any sideB) = true then (some "sides" : Option Str) else if z ∈ ws then (some "self" : Option Str) else none)) := fun s hn => by
      rw [if_neg (by rw [hn]; decide)]
      refine q_when (b := decide (z ∈ ws)) (et_is (et_test (ev_op (ev_var (d := .str z) (by rfl)) (ev_var (d := .list (ws.map PyData.str)) (by rfl)) (od_inL rfl (strs_flat _)))) inD_str) (fun hb => ?_) fun hb => ?_
      · rw [if_pos (of_decide_eq_true hb)]
        exact st_ret ev_str (by rfl)
      · rw [if_neg (of_decide_eq_false hb)]
        exact st_ret ev_non (by rfl)
    refine q_when (b := sideB z) (et_trB (ev_call (ea_cons (ev_var (by rfl)) ea_nil) ⟨z, rfl, rfl⟩)) (fun hb => ?_) fun hb => ?_
    · refine st_find (p := sideB) (ei_listS (zs := ws) (ev_var (by rfl))) (fun s w hm => et_trB (ev_call (ea_cons (ev_var (by rfl)) ea_nil) ⟨w, rfl, rfl⟩)) (fun _ => ev_str) (fun h => ?_) fun h s => ?_
      · show Oc.rt _ = Oc.rt _
        rw [hb, h]
        rfl
      · exact tail _ (by rw [h, Bool.and_false])
    · exact tail _ (by rw [hb]; rfl)
theorem lineF_cons (w : Str) (ws rs : List Str) (b : Bool) : lineF (w :: ws) rs b = (if (decide ((w :: ws).length = 1) || !(decide (w = "rooms") || Txt.endswith w ":")) = true then (some "words" : Option Str) else
  if (decide (w = "rooms") && b || !decide (w = "rooms") && decide (rs.length = 0)) = true then (some "place" : Option Str) else
  if w = "rooms" then roomsF ws rs else touchF (initS w) ws rs) := rfl
theorem fk_scheme_line_fault (T : Txt K mg) (O_scheme_touch_fault : Okd P w K mg base CX0 3 "scheme_touch_fault" ["first", "others", "known"] (sp_scheme_touch_fault K)) (O_scheme_rooms_fault : Okd P w K mg base CX0 3 "scheme_rooms_fault" ["rooms", "known"] (sp_scheme_rooms_fault K)) {fd : FuncData} (F : FunD K "scheme_line_fault" "scheme_line_fault" (defArgs s_scheme_line_fault) (defBody s_scheme_line_fault) (defScope s_scheme_line_fault) [] [] (He.ga K "scheme_line_fault") fd) : FnOk P w K mg base CX0 4 (He.ga K "scheme_line_fault") fd ["words", "known", "begun"] (sp_scheme_line_fault K) := by
  refine fn_pf F sc_scheme_line_fault ?_ (fun cdv A outer s H E hr => ⟨_, dv_scheme_line_fault T O_scheme_touch_fault O_scheme_rooms_fault cdv A outer s H E hr, ?_⟩)
  · rintro ds d ⟨x0, x1, x2, rfl, _⟩
    rfl
  · rintro ds d ⟨ws, rs, b, rfl, nd, hl, h1, hw, hz, rfl⟩
    refine ST.mono (P := fun o => o = .rt (optS (lineF ws rs b))) ?_ fun o h => .inl h
    show ST K E0 (t_scheme_line_fault K) [.fr (.list (ws.map PyData.str)), .fr (dkD (bS rs)), .fr (.bool b), .no] _
    unfold t_scheme_line_fault sp_scheme_rooms_fault sp_scheme_touch_fault
    cases ws with
    | nil => exact absurd h1 (by decide)
    | cons w ws =>
      have hz2 : ∀ x ∈ ws, x.length ≤ 4000 := fun x hx => hz x (List.mem_cons_of_mem _ hx)
      have hzw := hz w List.mem_cons_self
      rw [List.length_cons] at hw
      rw [lineF_cons]
      refine q_asg (d := .bool (decide (w = "rooms"))) (ev_op (first_at rfl) ev_str od_eqS) ?_
      refine q_when (b := decide ((w :: ws).length = 1) || !(decide (w = "rooms") || Txt.endswith w ":")) (et_or (et_is (et_test (ev_op (ev_cb (ea_cons (ev_var (by rfl)) ea_nil) cd_lenL) ev_int od_eqI)) (by rw [List.length_map]; exact decide_eq_decide.mpr (by omega))) fun _ => et_not (et_or (et_trB (ev_var (by rfl))) fun _ => et_trB (ev_ends (first_at (ws := ws) (by rfl)) ev_str))) (fun hb => ?_) fun hb => ?_
      · rw [if_pos hb]
        exact st_ret ev_str (by rfl)
      rw [if_neg (by rw [hb]; decide)]
      refine q_when (b := decide (w = "rooms") && b || !decide (w = "rooms") && decide (rs.length = 0)) (et_or (et_and (et_trB (ev_var (by rfl))) fun _ => et_trB (ev_var (by rfl))) fun _ => et_and (et_not (et_trB (ev_var (by rfl)))) fun _ => et_is (et_test (ev_op (ev_lenDK (kvs := bS rs) (ev_var (by rfl))) ev_int od_eqI)) (by rw [bS_len]; exact decide_eq_decide.mpr (by omega))) (fun hb => ?_) fun hb => ?_
      · rw [if_pos hb]
        exact st_ret ev_str (by rfl)
      rw [if_neg (by rw [hb]; decide)]
      refine q_when (et_trB (ev_var (by rfl))) (fun hb => ?_) fun hb => ?_
      · rw [if_pos (of_decide_eq_true hb)]
        exact st_ret (ev_call (ea_cons (rest_at (ws := ws) (by rfl)) (ea_cons (ev_var (by rfl)) ea_nil)) ⟨ws, rs, rfl, nd, hl, by omega, hz2, rfl⟩) (by rfl)
      · rw [if_neg (of_decide_eq_false hb)]
        have := init_len w
        exact st_ret (ev_call (ea_cons (head_init (ws := ws) (by omega) (by rfl)) (ea_cons (rest_at (ws := ws) (by rfl)) (ea_cons (ev_var (by rfl)) ea_nil))) ⟨initS w, ws, rs, rfl, by omega, fun x hx => by
          rcases List.mem_cons.mp hx with rfl | hx
          · omega
          · exact hz2 x hx, rfl⟩) (by rfl)
theorem told_ok : ∀ (ls : List Str) (k : Nat) (p : Nat × List Str), p ∈ toldL k ls → 1 ≤ p.2.length ∧ ∃ l ∈ ls, p.2 = wordsT l
  | [], _, _, h => by cases h
  | x :: ls, k, p, h => by
    unfold toldL at h
    have inner : p ∈ toldL (k + 1) ls → 1 ≤ p.2.length ∧ ∃ l ∈ x :: ls, p.2 = wordsT l := fun h => by
      obtain ⟨a, l, b, c⟩ := told_ok ls (k + 1) p h
      exact ⟨a, l, List.mem_cons_of_mem _ b, c⟩
    split at h
    · exact inner h
    · rename_i hp
      rcases List.mem_cons.mp h with rfl | h
      · refine ⟨?_, x, List.mem_cons_self, rfl⟩
        show 1 ≤ (wordsT x).length
        generalize wordsT x = ws at hp
        cases ws with
        | nil => exact absurd rfl hp
        | cons w r => rw [List.length_cons]; omega
      · exact inner h
theorem roomsF_none {ws rs : List Str} (h : roomsF ws rs = none) : (∀ w ∈ ws, nameB w = true) ∧ (rs ++ ws).Nodup ∧ rs.length + ws.length ≤ 40 := by
  unfold roomsF at h
  split at h
  · cases h
  · rename_i h1
    split at h
    · cases h
    · rename_i h2
      split at h
      · cases h
      · rename_i h3
        refine ⟨fun w hw => ?_, Classical.not_not.mp h2, by omega⟩
        cases e : nameB w with
        | true => rfl
        | false => exact absurd (List.any_eq_true.mpr ⟨w, hw, by rw [e]; rfl⟩) h1
theorem lineF_rooms {w : Str} {ws rs : List Str} {b : Bool} (h : lineF (w :: ws) rs b = none) (e : w = "rooms") : roomsF ws rs = none := by
  rw [lineF_cons] at h
  split at h
  · cases h
  · split at h
    · cases h
    · first
        | exact h
        | (rw [if_pos e] at h; exact h)
theorem readL_bad {e : Int} {k : Nat} {ws : List Str} {r : List (Nat × List Str)} {rs : List Str} {ts : List (Str × Str)} {w : Str} (h : lineF ws rs (!ts.isEmpty) = some w) : readL e ((k, ws) :: r) rs ts = .bad k w := by
  conv => lhs; unfold readL
  rw [h]
theorem readL_rooms {e : Int} {k : Nat} {ws : List Str} {r : List (Nat × List Str)} {rs : List Str} {ts : List (Str × Str)} (h : lineF ("rooms" :: ws) rs (!ts.isEmpty) = none) : readL e ((k, "rooms" :: ws) :: r) rs ts = readL e r (rs ++ ws) ts := by
  conv => lhs; unfold readL
  rw [h]
  exact if_pos rfl
theorem readL_touch {e : Int} {k : Nat} {w : Str} {ws : List Str} {r : List (Nat × List Str)} {rs : List Str} {ts : List (Str × Str)} (h : lineF (w :: ws) rs (!ts.isEmpty) = none) (hw : w ≠ "rooms") : readL e ((k, w :: ws) :: r) rs ts = readL e r rs (ts ++ ws.map fun y => (initS w, y)) := by
  conv => lhs; unfold readL
  rw [h]
  exact if_neg hw
theorem optS_flat (o : Option Str) : flatD (optS o) = true := by cases o <;> rfl
theorem optS_none (o : Option Str) : isNoneD (optS o) = o.isNone := by cases o <;> rfl
theorem bS_keys (rs : List Str) : (bS rs).map (fun p => kD p.1) = rs.map PyData.str := by
  unfold bS
  rw [List.map_map]
  rfl
theorem rs_walk (T : Txt K mg) {z : Str} (W : TP z) {E : XK} : ST K E (t_read_scheme K E) [.fr (.str z), .no, .no, .no, .no, .no, .no, .no]
    (fun o => (∀ rs ts, readT z = .ok rs ts → o = .rt (mkD rs ts)) ∧ ∀ l w, readT z = .bad l w → o = .ex (He.ga K "BadText") [(("word" : Str), PyData.str w), (("line" : Str), PyData.int l)]) := by
  unfold t_read_scheme sp_told_lines sp_scheme_line_fault sp_make_scheme sp_line_behind
  have hz := W.len
  have hmany := W.many
  have hfew := W.few
  have e0 : readT z = readL (((linesT z).length : Nat) + 1) (toldL 0 (linesT z)) [] [] := rfl
  have hL : ∀ p ∈ toldL 0 (linesT z), 1 ≤ p.2.length ∧ p.2.length ≤ 4001 ∧ ∀ w ∈ p.2, w.length ≤ 4000 := fun p hp => by
    obtain ⟨a, l, b, c⟩ := told_ok _ _ p hp
    have h1 := W.words l b
    have h2 := words_len l
    rw [c] at a ⊢
    exact ⟨a, by omega, fun w hw => by have := (words_mem hw).1; omega⟩
  have hll := told_len (linesT z) 0
  generalize hT : toldL 0 (linesT z) = L at e0 hL hll
  generalize hR : readT z = R at e0 hfew ⊢
  generalize hE : (((linesT z).length : Nat) : Int) + 1 = e at e0
  refine q_asgN (d := dkD (bS [])) (by exact en_dnewK) ?_
  refine q_asgN (d := .list (([] : List (Str × Str)).map pqD)) (by exact en_lst ea_nil (Nat.zero_le _)) ?_
  refine q_for (ei_list (ds := L.map linD) (ev_call (ea_cons (ev_var rfl) ea_nil) ⟨z, rfl, hz, by rw [hT]⟩)) (fun i ρ => ∃ (rs : List Str) (ts : List (Str × Str)) (s3 s4 s5 s6 s7 : Sl), readL e (L.drop i) rs ts = R ∧ rs.Nodup ∧ rs.length ≤ 40 ∧ ts.length ≤ i * 4001 ∧
    ρ = [.fr (.str z), .ow (dkD (bS rs)), .ow (.list (ts.map pqD)), s3, s4, s5, s6, s7]) ⟨[], [], _, _, _, _, _, e0.symm, List.nodup_nil, by decide, Nat.zero_le _, rfl⟩ ?_ ?_
  · rintro i ρ hi ⟨rs, ts, s3, s4, s5, s6, s7, hr, nd, h40, hts, rfl⟩
    rw [List.length_map] at hi
    rw [map_getD hi (0, [])]
    have hp := hL _ (getD_mem (z := (0, [])) hi)
    have hd : L.drop i = L.getD i (0, []) :: L.drop (i + 1) := by
      rw [List.getD_eq_getElem?_getD, List.getElem?_eq_getElem hi]
      exact List.drop_eq_getElem_cons hi
    rw [hd] at hr
    generalize L.getD i (0, []) = p at hp hr
    obtain ⟨k, ws⟩ := p
    obtain ⟨h1, hw, hz2⟩ := hp
    dsimp only at h1 hw hz2
    have hts2 : ts.length + 4001 ≤ 13000000 := by
      have : i * 4001 ≤ 2999 * 4001 := Nat.mul_le_mul (by omega) (Nat.le_refl _)
      omega
    refine ⟨_, _, gt_tup rfl (gts_cons gt_name (gts_cons gt_name gts_nil)), ?_⟩
    have hb : decide (((ts.map pqD).length : Int) > 0) = !ts.isEmpty := by
      rw [List.length_map]
      cases ts with
      | nil => rfl
      | cons a r => rw [List.length_cons]; exact decide_eq_true (by omega)
    refine q_asg (d := optS (lineF ws rs (!ts.isEmpty))) (ev_lend (n := 1) (by rfl) (ev_call (ea_cons (ev_var (by rfl)) (ea_cons (ev_var (by rfl)) (ea_cons (ev_is (ev_op (ev_lenO (n := 2) (by rfl)) ev_int od_cmpI) (congrArg PyData.bool hb)) ea_nil))) ⟨ws, rs, _, rfl, nd, h40, h1, hw, hz2, rfl⟩) (optS_flat _)) ?_
    refine q_when (b := !(lineF ws rs (!ts.isEmpty)).isNone) (et_is (et_B (ev_notN (ev_var rfl))) (by rw [optS_none])) (fun hn => ?_) fun hn => ?_
    · cases hf : lineF ws rs (!ts.isEmpty) with
      | none => rw [hf] at hn; cases hn
      | some w =>
        rw [readL_bad hf] at hr
        refine st_raiseO (ea_cons (d := .int (k : Nat)) (ev_var (by rfl)) (ea_cons (d := .str w) (ev_var (by rfl)) ea_nil)) (by rfl) (by show 2 ≤ 1000; decide) ?_
        refine ⟨fun rs ts h => ?_, fun l w' h => ?_⟩
        · rw [← hr] at h; cases h
        · rw [← hr] at h
          cases h
          rfl
    have hf : lineF ws rs (!ts.isEmpty) = none := by
      cases hf : lineF ws rs (!ts.isEmpty) with
      | none => rfl
      | some w => rw [hf] at hn; cases hn
    rw [hf]
    cases ws with
    | nil => exact absurd h1 (by decide)
    | cons w ws =>
      rw [List.length_cons] at hw
      have hwl := hz2 w List.mem_cons_self
      refine st_if (b := decide (w = "rooms")) (et_test (ev_op (first_at (w := w) (ws := ws) (by rfl)) ev_str od_eqS)) (fun hb => ?_) fun hb => ?_
      · have ew := of_decide_eq_true hb
        obtain ⟨_, n2, n40⟩ := roomsF_none (lineF_rooms hf ew)
        rw [ew] at hf hr
        rw [readL_rooms hf] at hr
        refine st_for (ei_listS (zs := ws) (rest_at (w := w) (by rfl))) (fun j ρ => ∃ s6 : Sl, ρ = [.fr (.str z), .ow (dkD (bS (rs ++ ws.take j))), .ow (.list (ts.map pqD)), .fr (.int (k : Nat)), .fr (.list ((w :: ws).map PyData.str)), .fr .none, s6, s7]) ⟨_, by rw [List.take_zero, List.append_nil]; rfl⟩ ?_ ?_
        · rintro j ρ hj ⟨s6, rfl⟩
          refine ⟨_, _, gt_name, ?_⟩
          have hn : ws.getD j Str.empty ∉ rs ++ ws.take j := by
            intro m
            rw [← List.take_append_drop j ws, ← List.append_assoc] at n2
            refine (List.nodup_append.mp n2).2.2 _ m (ws.getD j Str.empty) ?_ rfl
            rw [List.getD_eq_getElem?_getD, List.getElem?_eq_getElem hj]
            exact List.mem_iff_getElem?.mpr ⟨0, by rw [List.getElem?_drop, Nat.add_zero, List.getElem?_eq_getElem hj]; rfl⟩
          rw [take_one hj Str.empty, ← List.append_assoc, ← put_bS hn]
          have h9 : (ws.take j).length ≤ ws.length := by rw [List.length_take]; exact Nat.min_le_right _ _
          exact st_dputK (k := .inr (ws.getD j Str.empty)) rfl (ev_var (by rfl)) (by rfl) ev_bl (by rw [bS_len, List.length_append]; omega) ⟨_, rfl⟩
        · rintro ρ ⟨s6, rfl⟩
          rw [List.take_length]
          exact ⟨rs ++ ws, ts, _, _, _, _, _, hr, n2, by rw [List.length_append]; exact n40, by rw [Nat.add_mul]; omega, rfl⟩
      · have ew := of_decide_eq_false hb
        rw [readL_touch hf ew] at hr
        refine st_for (ei_listS (zs := ws) (rest_at (w := w) (by rfl))) (fun j ρ => ∃ s7 : Sl, ρ = [.fr (.str z), .ow (dkD (bS rs)), .ow (.list ((ts ++ (ws.take j).map fun y => (initS w, y)).map pqD)), .fr (.int (k : Nat)), .fr (.list ((w :: ws).map PyData.str)), .fr .none, s6, s7]) ⟨_, by rw [List.take_zero, List.map_nil, List.append_nil]; rfl⟩ ?_ ?_
        · rintro j ρ hj ⟨s7, rfl⟩
          refine ⟨_, _, gt_name, ?_⟩
          have h9 : (ws.take j).length ≤ ws.length := by rw [List.length_take]; exact Nat.min_le_right _ _
          refine st_append (ds := (ts ++ (ws.take j).map fun y => (initS w, y)).map pqD) (d := pqD (initS w, ws.getD j Str.empty)) (by rfl) (ev_tup (ea_cons (head_init (z := w) (ws := ws) (by omega) (by rfl)) (ea_cons (ev_var (by rfl)) ea_nil)) (by show 2 ≤ sizeLine; rw [sizeLine_eq]; decide)) (by rw [List.length_map, List.length_append, List.length_map]; omega) ?_
          refine ⟨.fr (.str (ws.getD j Str.empty)), ?_⟩
          rw [take_one hj Str.empty, List.map_append (l₁ := ws.take j), ← List.append_assoc, List.map_append (l₁ := ts ++ _)]
          rfl
        · rintro ρ ⟨s7, rfl⟩
          rw [List.take_length]
          exact ⟨rs, ts ++ ws.map fun y => (initS w, y), _, _, _, _, _, hr, nd, h40, by rw [List.length_append, List.length_map, Nat.add_mul]; omega, rfl⟩
  rintro ρ ⟨rs, ts, s3, s4, s5, s6, s7, hr, nd, h40, hts, rfl⟩
  rw [List.length_map] at hr hts
  rw [List.drop_length] at hr
  have hts2 : ts.length ≤ 13000000 := by
    have : L.length * 4001 ≤ 3000 * 4001 := Nat.mul_le_mul (by omega) (Nat.le_refl _)
    omega
  unfold readL at hr
  refine q_when (b := decide (rs.length = 0)) (et_is (et_test (ev_op (ev_lenDKO (n := 1) (kvs := bS rs) (by rfl)) ev_int od_eqI)) (by rw [bS_len]; exact decide_eq_decide.mpr (by omega))) (fun hb => ?_) fun hb => ?_
  · have h0 : rs = [] := List.length_eq_zero_iff.mp (of_decide_eq_true hb)
    rw [if_pos h0] at hr
    refine st_raiseO (ea_cons (d := .int e) (ev_call (ea_cons (ev_var (by rfl)) ea_nil) ⟨z, rfl, hz, by rw [hE]⟩) (ea_cons ev_str ea_nil)) (by rfl) (by show 2 ≤ 1000; decide) ?_
    refine ⟨fun rs ts h => ?_, fun l w' h => ?_⟩
    · rw [← hr] at h; cases h
    · rw [← hr] at h
      cases h
      rfl
  · have h0 : rs ≠ [] := fun h => of_decide_eq_false hb (by rw [h]; rfl)
    rw [if_neg h0] at hr
    refine q_frz (i := 2) rfl ?_
    refine st_ret (d := mkD rs ts) (ev_call (ea_cons (ev_cb (ea_cons (ev_N (en_is (en_listDKO (n := 1) (kvs := bS rs) (by rfl)) (congrArg PyData.list (bS_keys rs)))) ea_nil) cd_tupL) (ea_cons (ev_cb (ea_cons (ev_var (by rfl)) ea_nil) cd_tupL) ea_nil)) ⟨rs, ts, rfl, by omega, by omega, hfew rs ts hr.symm, rfl⟩) ?_
    refine ⟨fun rs2 ts2 h => ?_, fun l w' h => ?_⟩
    · rw [← hr] at h
      cases h
      rfl
    · rw [← hr] at h; cases h
theorem fk_read_scheme (T : Txt K mg) (O_told_lines : Okd P w K mg base CX0 3 "told_lines" ["text"] (sp_told_lines K)) (O_make_scheme : Okd P w K mg base CX0 2 "make_scheme" ["rooms", "touches"] (sp_make_scheme K)) (O_scheme_line_fault : Okd P w K mg base CX0 4 "scheme_line_fault" ["words", "known", "begun"] (sp_scheme_line_fault K)) (O_line_behind : Okd P w K mg base CX0 2 "line_behind" ["text"] (sp_line_behind K)) (X_BadText : ExOk P w K mg base 1 "BadText" ["line", "word"]) {fd : FuncData} (F : FunD K "read_scheme" "read_scheme" (defArgs s_read_scheme) (defBody s_read_scheme) (defScope s_read_scheme) [] [] (He.ga K "read_scheme") fd) : FnOk P w K mg base (L2N.CX P w) 5 (He.ga K "read_scheme") fd ["text"] (sp_read_scheme K) := by
  refine fn_pxC F sc_read_scheme ?_ ?_ (fun cdv A outer s H E hr => ⟨_, dv_read_scheme T O_told_lines O_make_scheme O_scheme_line_fault O_line_behind X_BadText cdv A outer s H E hr, ?_, ?_⟩)
  · rintro ds d ⟨x0, rfl, _⟩
    rfl
  · rintro ds C fl ⟨x0, rfl, _⟩
    rfl
  · rintro ds d ⟨z, rfl, W, rs, ts, hr, rfl⟩
    exact ST.mono (rs_walk T W) fun o ho => .inl (ho.1 rs ts hr)
  · rintro ds C fl ⟨z, rfl, W, l, w, hr, rfl, rfl⟩
    exact ST.mono (rs_walk T W) fun o ho => ho.2 l w hr
theorem stepP_len (qs : List (Str × Str)) (t : Str × Str) : (stepP qs t).length ≤ qs.length + 1 := by
  unfold stepP
  split
  · exact Nat.le_succ _
  · exact addP_len _ _
theorem fold_len (ts qs : List (Str × Str)) : (ts.foldl stepP qs).length ≤ qs.length + ts.length := by
  induction ts generalizing qs with
  | nil => exact Nat.le_refl _
  | cons t r ih =>
    rw [List.foldl_cons, List.length_cons]
    have := ih (stepP qs t)
    have := stepP_len qs t
    omega
theorem pairs_take {ts : List (Str × Str)} {i : Nat} (hi : i < ts.length) : pairsOf (ts.take (i + 1)) = stepP (pairsOf (ts.take i)) (ts.getD i (Str.empty, Str.empty)) := by
  unfold pairsOf
  rw [take_one hi (Str.empty, Str.empty), List.foldl_append]
  rfl
theorem pairs_len (ts : List (Str × Str)) : (pairsOf ts).length ≤ ts.length := by
  have := fold_len ts []
  rw [List.length_nil, Nat.zero_add] at this
  exact this
theorem pairs_step (qs : List (Str × Str)) (t : Str × Str) (x : Str × Str) : x ∈ stepP qs t ↔ x ∈ qs ∨ (t.1 ≠ t.2 ∧ x = ordQ t) := by
  unfold stepP ordQ
  by_cases h : t.1 = t.2
  · rw [if_pos h]
    exact ⟨.inl, fun e => e.elim id fun e => absurd h e.1⟩
  · rw [if_neg h]
    generalize (if ltS t.1 t.2 = true then t else (t.2, t.1)) = u
    unfold addP
    by_cases hu : u ∈ qs
    · rw [if_pos hu]
      exact ⟨.inl, fun e => e.elim id fun e => e.2 ▸ hu⟩
    · rw [if_neg hu, List.mem_append, List.mem_singleton]
      exact ⟨fun e => e.imp id fun e => ⟨h, e⟩, fun e => e.imp id fun e => e.2⟩
theorem pairs_fold (ts : List (Str × Str)) (x : Str × Str) : ∀ qs, x ∈ ts.foldl stepP qs ↔ x ∈ qs ∨ ∃ t ∈ ts, t.1 ≠ t.2 ∧ x = ordQ t := by
  induction ts with
  | nil => exact fun qs => ⟨.inl, fun e => e.elim id fun ⟨t, h, _⟩ => by cases h⟩
  | cons t r ih =>
    intro qs
    rw [List.foldl_cons, ih, pairs_step]
    constructor
    · rintro ((h | h) | ⟨u, hu, h⟩)
      · exact .inl h
      · exact .inr ⟨t, List.mem_cons_self, h⟩
      · exact .inr ⟨u, List.mem_cons_of_mem _ hu, h⟩
    · rintro (h | ⟨u, hu, h⟩)
      · exact .inl (.inl h)
      · rcases List.mem_cons.mp hu with rfl | hu
        · exact .inl (.inr h)
        · exact .inr ⟨u, hu, h⟩
theorem stepP_nd {qs : List (Str × Str)} (nd : qs.Nodup) (t : Str × Str) : (stepP qs t).Nodup := by
  unfold stepP
  split
  · exact nd
  · generalize (if ltS t.1 t.2 = true then t else (t.2, t.1)) = u
    unfold addP
    split
    · exact nd
    · rename_i hn
      refine List.nodup_append.mpr ⟨nd, List.nodup_cons.mpr ⟨fun h => (by cases h), List.nodup_nil⟩, fun a ha c hc e => hn ?_⟩
      rw [List.mem_singleton.mp hc] at e
      exact e ▸ ha
theorem pairs_nd (ts : List (Str × Str)) : ∀ {qs}, List.Nodup qs → (ts.foldl stepP qs).Nodup := by
  induction ts with
  | nil => exact fun h => h
  | cons t r ih => exact fun h => ih (stepP_nd h t)
/-- the program's maker and the law's make the same of different names and of pairs of different ones -/
theorem mk_law {rs : List Str} {ts : List (Str × Str)} (nd : rs.Nodup) (h : ∀ t ∈ ts, t.1 ≠ t.2) : mkD rs ts = lawD rs ts := by
  unfold mkD lawD
  rw [dd_of nd]
  have e : srt ltQ (dd (ts.map ordQ)) = srt ltQ (pairsOf ts) := by
    refine srt_uniq stoQ ((srt_perm _).trans (dd_perm (pairs_nd ts List.nodup_nil) fun x => ?_).symm) (srt_pw stoQ _)
    show x ∈ ts.foldl stepP [] ↔ _
    rw [pairs_fold, List.mem_map]
    constructor
    · rintro (e | ⟨t, ht, _, rfl⟩)
      · cases e
      · exact ⟨t, ht, rfl⟩
    · rintro ⟨t, ht, rfl⟩
      exact .inr ⟨t, ht, h t ht, rfl⟩
  rw [e]
theorem fk_u_law_scheme (T : Txt K mg)  {fd : FuncData} (F : FunD K "_law_scheme" "_law_scheme" (defArgs s_u_law_scheme) (defBody s_u_law_scheme) (defScope s_u_law_scheme) [] [] (He.ga K "_law_scheme") fd) : FnOk P w K mg base CX0 1 (He.ga K "_law_scheme") fd ["rooms", "touches"] (sp_u_law_scheme K) := by
  refine fn_pf F sc_u_law_scheme ?_ (fun cdv A outer s H E hr => ⟨_, dv_u_law_scheme T  cdv A outer s H E hr, ?_⟩)
  · rintro ds d ⟨x0, x1, rfl, _⟩
    rfl
  · rintro ds d ⟨rs, ts, rfl, hr, ht, rfl⟩
    refine ST.mono (P := fun o => o = .rt (lawD rs ts)) ?_ fun o h => .inl h
    show ST K E0 (t_u_law_scheme K) [.fr (.list (rs.map PyData.str)), .fr (.list (ts.map pqD)), .no, .no, .no] _
    unfold t_u_law_scheme
    refine q_asgN (d := dtD ((pairsOf (ts.take 0)).map fun p => (keyQ p, PyData.bool true))) (by exact en_dnewT) ?_
    refine q_for (ei_listQ (qs := ts) (by walk_at "ev")) (fun i ρ => ∃ s3 s4 : Sl, ρ = [.fr (.list (rs.map PyData.str)), .fr (.list (ts.map pqD)), .ow (dtD ((pairsOf (ts.take i)).map fun p => (keyQ p, PyData.bool true))), s3, s4]) ⟨_, _, rfl⟩ ?_ ?_
    · rintro i ρ hi ⟨s3, s4, rfl⟩
      rw [pairs_take hi]
      have hl := pairs_len (ts.take i)
      have hl2 : (ts.take i).length ≤ 15000000 := Nat.le_trans (List.length_take_le _ _) (by omega)
      generalize ts.getD i (Str.empty, Str.empty) = p
      generalize pairsOf (ts.take i) = qs at hl
      refine ⟨_, _, gt_tup rfl (gts_cons gt_name (gts_cons gt_name gts_nil)), ?_⟩
      unfold stepP
      refine st_if (b := !decide (p.1 = p.2)) (by walk_at "et") (fun hb => ?_) (fun hb => st_next ?_)
      · rw [if_neg (by simpa using hb)]
        refine st_dputT (kvs := qs.map fun p => (keyQ p, PyData.bool true)) (k := if ltS p.1 p.2 = true then keyQ (p.1, p.2) else keyQ (p.2, p.1)) (d := .bool true) rfl (evt_ite (et_is (b := ltS p.1 p.2) (by walk_at "et") (by rfl)) (fun _ => evt_tup (by walk_at "ea") (by rfl) (by show 2 ≤ sizeLine; rw [sizeLine_eq]; decide)) (fun _ => evt_tup (by walk_at "ea") (by rfl) (by show 2 ≤ sizeLine; rw [sizeLine_eq]; decide))) (by walk_at "ev") (by rw [List.length_map]; omega) ?_
        have e : (if ltS p.1 p.2 = true then keyQ (p.1, p.2) else keyQ (p.2, p.1)) = keyQ (if ltS p.1 p.2 = true then p else (p.2, p.1)) := by
          split <;> rfl
        rw [e, putQ]
        exact ⟨_, _, rfl⟩
      · rw [if_pos (by simpa using hb)]
        exact ⟨_, _, rfl⟩
    · rintro ρ ⟨s3, s4, rfl⟩
      rw [List.take_length]
      refine q_frz (i := 2) rfl ?_
      refine st_ret (ev_tup (ea_cons (ev_cb (ea_cons (ev_N (en_cb (by walk_at "ea") (cn_sortS (by omega)))) ea_nil) cd_tupL) (ea_cons (ev_cb (ea_cons (ev_N (en_cb (ea_cons (ev_var rfl) ea_nil) (cn_sortDT (qs := pairsOf ts) ?_))) ea_nil) cd_tupL) ea_nil)) (by show 2 ≤ sizeLine; rw [sizeLine_eq]; decide)) (by rfl)
      rw [List.map_map]
      rfl
/-! _law_same of equal things -/
theorem same_walk {R : List D → D → Prop} {ds : List D} (hl : ds.length ≤ 1000) (h : ∀ i, i < ds.length → (∃ z, ds.getD i .none = .str z) ∨ ∃ es, ds.getD i .none = .tuple es ∧ R [.tuple es, .tuple es] (.bool true)) :
    ST K E0 (t_u_law_same K (PF K R)) [.fr (.tuple ds), .fr (.tuple ds), .no] (fun o => o = .rt (.bool true)) := by
  unfold t_u_law_same
  refine q_no (et_is (by walk_at "et") (by simp [isDicD])) ?_
  refine q_for (ei_rng1 (by walk_at "ea") (by omega) (by omega)) (fun i ρ => ∃ s, ρ = [.fr (.tuple ds), .fr (.tuple ds), s]) ⟨_, rfl⟩ ?_ ?_
  · rintro i ρ hi ⟨s2, rfl⟩
    have hi : i < ds.length := by omega
    have e : ds.getD ((i : Nat) : Int).toNat .none = ds.getD i .none := by rfl
    refine ⟨_, _, gt_name, ?_⟩
    have hx : ∀ n, n = 0 ∨ n = 1 → EV K (tOp (rIx K) (tVar n) (tVar 2)) (([Sl.fr (.tuple ds), .fr (.tuple ds), s2] : List Sl).set 2 (.fr (.int (i : Nat)))) (ds.getD i .none) := by
      rintro n (rfl | rfl)
      · exact ev_is (by walk_at "ev") e
      · exact ev_is (by walk_at "ev") e
    have hh := h i hi
    generalize ds.getD i .none = x at hx hh
    rcases hh with ⟨z, rfl⟩ | ⟨es, rfl, hr⟩
    · exact DL.st_no (et_trB (ev_isi (hx 1 (.inr rfl)) rfl rfl)) (DL.st_no (et_is (et_or (et_not (et_trB (ev_isi (hx 0 (.inl rfl)) rfl rfl))) fun _ => et_test (ev_op (hx 0 (.inl rfl)) (hx 1 (.inr rfl)) od_neS)) (by simp)) (st_next ⟨_, rfl⟩))
    · exact st_yes (et_trB (ev_isi (hx 1 (.inr rfl)) rfl rfl)) (DL.st_no (et_not (et_trB (ev_call (ea_cons (hx 0 (.inl rfl)) (ea_cons (hx 1 (.inr rfl)) ea_nil)) hr))) (st_next ⟨_, rfl⟩))
  · rintro ρ ⟨s2, rfl⟩
    exact st_ret (by walk_at "ev") (by rfl)
theorem ok_same (T : Txt K mg) (hd : FnP K "_law_same" s_u_law_same) (hm : mg "_law_same" = some (.ref (He.ga K "_law_same"))) : ∀ n, Okd P w K mg base CX0 (n + 1) "_law_same" ["told", "due"] (sp_same n K)
  | 0 => by
    obtain ⟨fd, F⟩ := hd
    have b := F.bindsN (ps := ["told", "due"]) (fun _ _ _ _ _ _ us hl => match us, hl with | [_, _], _ => rfl)
    have O0 : Okd P w K mg base CX0 0 "_law_same" ["told", "due"] (PF K fun _ _ => False) := ⟨hm, fd, ⟨fun _ _ _ _ ⟨_, _, _, _, _, h, _⟩ => h.elim, fun _ _ _ _ _ _ _ _ _ _ _ _ _ ⟨_, _, _, _, _, h, _⟩ => h.elim⟩, b, F.kp⟩
    refine ⟨hm, fd, fn_pf F sc_u_law_same ?_ (fun cdv A outer s H E hr => ⟨_, dv_u_law_same T O0 cdv A outer s H E hr, ?_⟩), b, F.kp⟩
    · rintro ds d ⟨x, rfl, _⟩
      rfl
    · rintro ds d ⟨xs, rfl, hl, hx, rfl⟩
      exact ST.mono (P := fun o => o = .rt (.bool true)) (same_walk hl fun i hi => .inl (hx _ (getD_mem hi))) fun o h => .inl h
  | n + 1 => by
    have O0 : Okd P w K mg base CX0 (n + 1) "_law_same" ["told", "due"] (sp_same n K) := ok_same T hd hm n
    obtain ⟨fd, F⟩ := hd
    refine ⟨hm, fd, fn_pf F sc_u_law_same ?_ (fun cdv A outer s H E hr => ⟨_, dv_u_law_same T O0 cdv A outer s H E hr, ?_⟩), F.bindsN (fun _ _ _ _ _ _ us hl => match us, hl with | [_, _], _ => rfl), F.kp⟩
    · rintro ds d ⟨x, rfl, _⟩
      rfl
    · rintro ds d ⟨xs, rfl, hl, hx, rfl⟩
      refine ST.mono (P := fun o => o = .rt (.bool true)) (same_walk hl fun i hi => ?_) fun o h => .inl h
      rcases hx _ (getD_mem (z := PyData.none) hi) with h | ⟨es, e, h1, h2⟩
      · exact .inl h
      · exact .inr ⟨es, e, es, rfl, h1, h2, rfl⟩
theorem ok_u_law_same (T : Txt K mg) (hd : FnP K "_law_same" s_u_law_same) (hm : mg "_law_same" = some (.ref (He.ga K "_law_same"))) : Okd P w K mg base CX0 4 "_law_same" ["told", "due"] (sp_u_law_same K) := ok_same T hd hm 3
theorem fk_u_law_bare (T : Txt K mg)  {fd : FuncData} (F : FunD K "_law_bare" "_law_bare" (defArgs s_u_law_bare) (defBody s_u_law_bare) (defScope s_u_law_bare) [] [] (He.ga K "_law_bare") fd) : FnOk P w K mg base CX0 1 (He.ga K "_law_bare") fd ["thing"] (sp_u_law_bare K) := by
  refine fn_pf F sc_u_law_bare ?_ (fun cdv A outer s H E hr => ⟨_, dv_u_law_bare T  cdv A outer s H E hr, ?_⟩)
  · rintro ds d ⟨x0, rfl, _⟩
    rfl
  · rintro ds d ⟨z, rfl, hz, rfl⟩
    refine ST.mono (P := fun o => o = .rt (.bool (nameB z))) ?_ fun o h => .inl h
    show ST K E0 (t_u_law_bare K) [.fr (.str z), .no] _
    unfold t_u_law_bare
    have hz' : z.length ≤ sizeLine := by rw [sizeLine_eq]; omega
    have hl := len_list z
    refine q_when (b := !lenOk z) (et_is (et_or (et_test (ev_op (ev_cb (ea_cons (ev_var rfl) ea_nil) (cd_lenS hz')) ev_int od_cmpI)) fun _ => et_test (ev_op (ev_cb (ea_cons (ev_var rfl) ea_nil) (cd_lenS hz')) ev_int od_cmpI)) ?_) (fun hb => st_ret ev_bl ?_) fun hb => ?_
    · unfold lenOk
      by_cases h1 : (z.length : Int) < 1
      · rw [decide_eq_true h1, decide_eq_false (by omega : ¬ (1 ≤ (z.length : Int)))]; rfl
      · rw [decide_eq_false h1, decide_eq_true (by omega : (1 ≤ (z.length : Int)))]
        by_cases h2 : (z.length : Int) > 8
        · rw [decide_eq_true h2, decide_eq_false (by omega : ¬ ((z.length : Int) ≤ 8))]; rfl
        · rw [decide_eq_false h2, decide_eq_true (by omega : ((z.length : Int) ≤ 8))]; rfl
    · show Oc.rt (.bool false) = Oc.rt (.bool (isNoneD (if lenOk z = true then _ else _)))
      rw [if_neg (by simpa using hb)]
      rfl
    refine q_for (ei_rng1 (ea_cons (ev_cb (ea_cons (ev_var rfl) ea_nil) (cd_lenS hz')) ea_nil) (by omega) (by omega)) (fun i ρ => (∀ j, j < i → badAt z j = false) ∧ ∃ s, ρ = [.fr (.str z), s]) ⟨fun j hj => absurd hj (Nat.not_lt_zero _), _, rfl⟩ ?_ ?_
    · rintro i ρ hi ⟨hb2, s, rfl⟩
      have hi : i < z.cps.toList.length := by omega
      refine ⟨_, _, gt_name, ?_⟩
      have hc : ∀ {ρ : List Sl}, ρ[0]? = some (.fr (.str z)) → ρ[1]? = some (.fr (.int (i : Nat))) → EV K (tOp (rIx K) (tVar 0) (tVar 1)) ρ (.str ⟨#[z.cps.toList.getD i 0]⟩) := fun h0 h1 => ev_op (ev_var h0) (ev_var h1) (od_ixS hz' (ch_at (by omega) (by omega)))
      have hg : z.cps.toList.getD i 0 = z.cps.getD i 0 := by
        rw [List.getD_eq_getElem?_getD, Array.getElem?_toList, Array.getD_eq_getD_getElem?]
      rw [hg] at hc
      refine st_if (b := badAt z i) (et_and (et_test (ev_op (hc (by rfl) (by rfl)) ev_str od_ninC)) fun _ => et_or (et_test (ev_op (ev_var (by rfl)) ev_int od_eqI)) fun _ => et_test (ev_op (hc (by rfl) (by rfl)) ev_str od_ninC)) (fun hb3 => st_ret ev_bl ?_) (fun hb3 => st_next ?_)
      · show Oc.rt (.bool false) = Oc.rt (.bool (isNoneD (if lenOk z = true then _ else _)))
        rw [if_pos (by simpa using hb), firstP_some (by rw [← Array.length_toList]; exact hi) hb2 hb3]
        rfl
      · refine ⟨fun j hj => ?_, _, rfl⟩
        by_cases e : j = i
        · rw [e]; exact hb3
        · exact hb2 j (by omega)
    · rintro ρ ⟨hb2, s, rfl⟩
      refine st_ret ev_bl ?_
      show Oc.rt (.bool true) = Oc.rt (.bool (isNoneD (if lenOk z = true then _ else _)))
      rw [if_pos (by simpa using hb), firstP_none fun j hj => hb2 j (by rw [← Array.length_toList] at hj; omega)]
      rfl
theorem len_any {ws : List Str} {p : Str → Bool} : decide (((((ws.filter p).map PyData.str).length : Nat) : Int) > 0) = ws.any p := by
  rw [List.length_map]
  cases e : ws.any p with
  | true =>
    obtain ⟨w, hw, hp⟩ := List.any_eq_true.mp e
    have := List.length_pos_of_mem (List.mem_filter.mpr ⟨hw, hp⟩)
    exact decide_eq_true (by omega)
  | false =>
    have : ws.filter p = [] := List.filter_eq_nil_iff.mpr fun w hw => by simpa using (List.any_eq_false.mp e) w hw
    rw [this]
    rfl
/-- len([x for x in ws if p]) > 0 -/
theorem et_some {ρ : List Sl} {te : TE} {ws : List Str} {p : Str → Bool} {n : Nat} {tt : TT} {vs : List Nat} (hn : n ∈ vs) (hl : n < ρ.length) (h : EI K (iSeqU K te) ρ ws.length (fun i => .str (ws.getD i Str.empty))) (hw : ws.length ≤ 100000)
    (ht : ∀ w, w ∈ ws → ET K tt ((wipeS ρ vs).set n (.fr (.str w))) (p w)) : ET K (tTest (tOp rGtU (tCB (rLen K) (tCons (tLc (iSeqU K te) (gName n) tt (tVar n) vs) tNil)) (tC (.int 0)))) ρ (ws.any p) := by
  refine et_is (et_test (ev_op (ev_cb (ea_cons (ev_N (en_is (en_lc (b := fun i => p (ws.getD i Str.empty)) (f := fun i => PyData.str (ws.getD i Str.empty)) h (by omega) fun i hi => ⟨_, _, gt_name, by simpa using hn, ht _ (getD_mem hi), fun _ => ev_var (by rw [List.getElem?_set_self (by rw [wipe_len]; exact hl)])⟩) (congrArg PyData.list (lc_filterA (p := p) (h := PyData.str) Str.empty ws)))) ea_nil) cd_lenL) ev_int od_cmpI)) len_any
theorem fk_u_law_rooms_word (T : Txt K mg) (O_u_law_bare : Okd P w K mg base CX0 1 "_law_bare" ["thing"] (sp_u_law_bare K)) {fd : FuncData} (F : FunD K "_law_rooms_word" "_law_rooms_word" (defArgs s_u_law_rooms_word) (defBody s_u_law_rooms_word) (defScope s_u_law_rooms_word) [] [] (He.ga K "_law_rooms_word") fd) : FnOk P w K mg base CX0 2 (He.ga K "_law_rooms_word") fd ["words", "rooms", "touched"] (sp_u_law_rooms_word K) := by
  refine fn_pf F sc_u_law_rooms_word ?_ (fun cdv A outer s H E hr => ⟨_, dv_u_law_rooms_word T O_u_law_bare cdv A outer s H E hr, ?_⟩)
  · rintro ds d ⟨x0, x1, x2, rfl, _⟩
    rfl
  · rintro ds d ⟨ws, rs, b, rfl, h0, nd, h40, h1, hw, hz, rfl⟩
    refine ST.mono (P := fun o => o = .rt (.str (wordO (lineF ws rs b)))) ?_ fun o h => .inl h
    show ST K E0 (t_u_law_rooms_word K) [.fr (.list (ws.map PyData.str)), .fr (.list (rs.map PyData.str)), .fr (.bool b), .no, .no] _
    unfold t_u_law_rooms_word sp_u_law_bare
    cases ws with
    | nil => exact absurd h1 (by decide)
    | cons w ws =>
      have ew : w = "rooms" := h0
      have hz2 : ∀ x ∈ ws, x.length ≤ 4000 := fun x hx => hz x (List.mem_cons_of_mem _ hx)
      rw [List.length_cons] at hw
      rw [lineF_cons]
      refine q_when (b := decide ((w :: ws).length = 1)) (et_is (et_test (ev_op (ev_cb (ea_cons (ev_var (d := .list ((w :: ws).map PyData.str)) (by rfl)) ea_nil) cd_lenL) ev_int od_eqI)) (by rw [List.length_map]; exact decide_eq_decide.mpr (by omega))) (fun hb => ?_) fun hb => ?_
      · rw [hb, Bool.true_or, if_pos rfl]
        exact st_ret ev_str (by rfl)
      rw [hb, decide_eq_true ew, if_neg (by simp)]
      refine q_when (b := b) (et_trB (ev_var (by rfl))) (fun hb2 => ?_) fun hb2 => ?_
      · rw [hb2, if_pos (by simp)]
        exact st_ret ev_str (by rfl)
      subst hb2
      rw [if_neg (by simp), if_pos ew]
      refine q_when (b := ws.any fun w => !nameB w) (et_some (n := 3) (by simp) (by show 3 < 5; decide) (ei_listS (zs := ws) (rest_at (w := w) (by rfl))) (by omega) fun y hy => et_not (et_trB (ev_call (ea_cons (ev_var (by rfl)) ea_nil) ⟨y, rfl, by have := hz2 y hy; omega, rfl⟩))) (fun hb3 => ?_) fun hb3 => ?_
      · unfold roomsF
        rw [if_pos hb3]
        exact st_ret ev_str (by rfl)
      have e0 : roomsF ws rs = if ¬ ((rs ++ ws).Nodup) then (some "twice" : Option Str) else if rs.length + ws.length > 40 then (some "limit" : Option Str) else none := by
        unfold roomsF
        rw [if_neg (by rw [hb3]; decide)]
      rw [e0]
      refine q_asgN (d := .list ((rs ++ ws.take 0).map PyData.str)) (en_is (en_cb (ea_cons (ev_var (d := .list (rs.map PyData.str)) (by rfl)) ea_nil) cn_listL) (by rw [List.take_zero, List.append_nil])) ?_
      refine q_for (ei_listS (zs := ws) (rest_at (w := w) (by rfl))) (fun i ρ => (rs ++ ws.take i).Nodup ∧ ∃ s4 : Sl, ρ = [.fr (.list ((w :: ws).map PyData.str)), .fr (.list (rs.map PyData.str)), .fr (.bool false), s4, .ow (.list ((rs ++ ws.take i).map PyData.str))]) ⟨by rw [List.take_zero, List.append_nil]; exact nd, _, rfl⟩ ?_ ?_
      · rintro i ρ hi ⟨n2, s4, rfl⟩
        refine ⟨_, _, gt_name, ?_⟩
        have hsp : ws = ws.take i ++ (ws.getD i Str.empty :: ws.drop (i + 1)) := by
          have : ws.drop i = ws.getD i Str.empty :: ws.drop (i + 1) := by
            rw [List.getD_eq_getElem?_getD, List.getElem?_eq_getElem hi]
            exact List.drop_eq_getElem_cons hi
          rw [← this, List.take_append_drop]
        have e1 : rs ++ ws.take (i + 1) = (rs ++ ws.take i) ++ [ws.getD i Str.empty] := by rw [take_one hi Str.empty, List.append_assoc]
        have h9 : (ws.take i).length ≤ ws.length := by rw [List.length_take]; exact Nat.min_le_right _ _
        rw [e1]
        generalize ws.getD i Str.empty = y at hsp
        refine q_when (b := decide (y ∈ rs ++ ws.take i)) (et_is (et_test (ev_inO (ev_var (by rfl)) (by rfl) rfl (strs_flat _))) inD_str) (fun hb4 => ?_) fun hb4 => ?_
        · refine st_ret ev_str ?_
          rw [if_pos fun k => ?_]
          · rfl
          · rw [hsp, ← List.append_assoc] at k
            exact (List.nodup_append.mp k).2.2 _ (of_decide_eq_true hb4) y List.mem_cons_self rfl
        · refine st_append (ds := (rs ++ ws.take i).map PyData.str) (by rfl) (ev_var (by rfl)) (by rw [List.length_map, List.length_append]; omega) ?_
          refine ⟨?_, .fr (.str y), ?_⟩
          · refine List.nodup_append.mpr ⟨n2, List.nodup_cons.mpr ⟨List.not_mem_nil, List.nodup_nil⟩, fun a ha c hc e => ?_⟩
            rw [List.mem_singleton.mp hc] at e
            rw [e] at ha
            exact of_decide_eq_false hb4 ha
          · rw [List.map_append (l₁ := rs ++ ws.take i)]
            rfl
      rintro ρ ⟨n2, s4, rfl⟩
      rw [List.take_length] at n2 ⊢
      rw [if_neg (fun k => k n2)]
      refine st_ret (ev_ite (d1 := .str "limit") (d2 := .str "") (et_is (b := decide (rs.length + ws.length > 40)) (et_test (ev_op (ev_lenO (n := 4) (by rfl)) ev_int od_cmpI)) (by rw [List.length_map, List.length_append]; exact decide_eq_decide.mpr (by omega))) (fun _ => ev_str) (fun _ => ev_str)) ?_
      by_cases h : rs.length + ws.length > 40
      · rw [decide_eq_true h, if_pos rfl, if_pos h]; rfl
      · rw [decide_eq_false h, if_neg (by decide), if_neg h]; rfl
theorem cut_init {ρ : List Sl} {n : Nat} {z : Str} {ws : List Str} (hz : z.length ≤ 100000) (h : ρ[n]? = some (.fr (.list ((z :: ws).map PyData.str)))) : EV K (tSl (rSlU K) (tOp (rIx K) (tVar n) (tC (.int 0))) tNoPart (tPart (tOp rSubU (tCB (rLen K) (tCons (tOp (rIx K) (tVar n) (tC (.int 0))) tNil)) (tC (.int 1))))) ρ (.str (initS z)) :=
  ev_is (ev_slS (first_at h) (by rw [sizeLine_eq]; omega) eo_none (eo_some (ev_op (ev_cb (ea_cons (first_at h) ea_nil) (cd_lenS (by rw [sizeLine_eq]; omega))) ev_int od_sub))) (congrArg PyData.str (cut_lastI z _ rfl))
theorem fk_u_law_touch_word (T : Txt K mg) (O_u_law_bare : Okd P w K mg base CX0 1 "_law_bare" ["thing"] (sp_u_law_bare K)) {fd : FuncData} (F : FunD K "_law_touch_word" "_law_touch_word" (defArgs s_u_law_touch_word) (defBody s_u_law_touch_word) (defScope s_u_law_touch_word) [] [] (He.ga K "_law_touch_word") fd) : FnOk P w K mg base CX0 2 (He.ga K "_law_touch_word") fd ["words", "rooms"] (sp_u_law_touch_word K) := by
  refine fn_pf F sc_u_law_touch_word ?_ (fun cdv A outer s H E hr => ⟨_, dv_u_law_touch_word T O_u_law_bare cdv A outer s H E hr, ?_⟩)
  · rintro ds d ⟨x0, x1, x2, rfl, _⟩
    rfl
  · rintro ds d ⟨ws, rs, b, rfl, h0, h1, hw, hz, rfl⟩
    refine ST.mono (P := fun o => o = .rt (.str (wordO (lineF ws rs b)))) ?_ fun o h => .inl h
    show ST K E0 (t_u_law_touch_word K) [.fr (.list (ws.map PyData.str)), .fr (.list (rs.map PyData.str)), .no, .no, .no] _
    unfold t_u_law_touch_word sp_u_law_bare
    cases ws with
    | nil => exact absurd h1 (by decide)
    | cons w ws =>
      have ew : ¬ w = "rooms" := h0
      have hz2 : ∀ x ∈ ws, x.length ≤ 4000 := fun x hx => hz x (List.mem_cons_of_mem _ hx)
      have hzw := hz w List.mem_cons_self
      rw [List.length_cons] at hw
      rw [lineF_cons, decide_eq_false ew]
      refine q_when (b := decide ((w :: ws).length = 1) || !(false || Txt.endswith w ":")) (et_or (et_is (et_test (ev_op (ev_cb (ea_cons (ev_var (d := .list ((w :: ws).map PyData.str)) (by rfl)) ea_nil) cd_lenL) ev_int od_eqI)) (by rw [List.length_map]; exact decide_eq_decide.mpr (by omega))) fun _ => et_is (et_not (et_trB (ev_ends (first_at (w := w) (ws := ws) (by rfl)) ev_str))) (by rw [Bool.false_or])) (fun hb => ?_) fun hb => ?_
      · rw [if_pos hb]
        exact st_ret ev_str (by rfl)
      rw [if_neg (by rw [hb]; decide)]
      refine q_when (b := decide (rs.length = 0)) (et_is (et_test (ev_op (ev_cb (ea_cons (ev_var (d := .list (rs.map PyData.str)) (by rfl)) ea_nil) cd_lenL) ev_int od_eqI)) (by rw [List.length_map]; exact decide_eq_decide.mpr (by omega))) (fun hb2 => ?_) fun hb2 => ?_
      · rw [hb2, if_pos (by simp)]
        exact st_ret ev_str (by rfl)
      rw [hb2, if_neg (by simp), if_neg ew]
      refine q_asgN (d := .list (sides4.map PyData.str)) (by exact en_lst (ds := sides4.map PyData.str) (ea_cons ev_str (ea_cons ev_str (ea_cons ev_str (ea_cons ev_str ea_nil)))) (by rw [sizeLine_eq]; decide)) ?_
      refine q_frz (i := 2) rfl ?_
      refine q_asgN (d := .list ((initS w :: ws).map PyData.str)) (en_is (en_op (ev_N (en_lst (ea_cons (cut_init (z := w) (ws := ws) (by omega) (by rfl)) ea_nil) (by show 1 ≤ sizeLine; rw [sizeLine_eq]; decide))) (rest_at (w := w) (ws := ws) (by rfl)) (on_addL (by rw [List.length_map, sizeLine_eq]; show 1 + ws.length ≤ _; omega))) (by rfl)) ?_
      have hiw := init_len w
      generalize initS w = z at hiw
      refine q_frz (i := 3) rfl ?_
      have hz3 : ∀ x ∈ z :: ws, x.length ≤ 4000 := fun x hx => by
        rcases List.mem_cons.mp hx with rfl | hx
        · omega
        · exact hz2 x hx
      have hsd : ∀ {ρ : List Sl} {n : Nat} {y : Str}, ρ[n]? = some (.fr (.str y)) → ρ[2]? = some (.fr (.list (sides4.map PyData.str))) → ET K (tTest (tOp (rNinU K) (tVar n) (tVar 2))) ρ (!sideB y) := fun h h2 => et_is (et_test (ev_op (ev_var h) (ev_var h2) (od_ninL rfl (strs_flat _)))) (by rw [inD_str]; rfl)
      have hsi : ∀ {ρ : List Sl} {te : TE} {y : Str}, EV K te ρ (.str y) → ρ[2]? = some (.fr (.list (sides4.map PyData.str))) → ET K (tTest (tOp (rInU K) te (tVar 2))) ρ (sideB y) := fun h h2 => et_is (et_test (ev_op h (ev_var h2) (od_inL rfl (strs_flat _)))) (by rw [inD_str]; rfl)
      have hrn : ∀ {ρ : List Sl} {n : Nat} {y : Str}, ρ[n]? = some (.fr (.str y)) → ρ[1]? = some (.fr (.list (rs.map PyData.str))) → ET K (tTest (tOp (rNinU K) (tVar n) (tVar 1))) ρ (!decide (y ∈ rs)) := fun h h2 => et_is (et_test (ev_op (ev_var h) (ev_var h2) (od_ninL rfl (strs_flat _)))) (by rw [inD_str])
      have el : (z :: ws).length ≤ 100000 := by rw [List.length_cons]; omega
      refine q_when (b := (z :: ws).any fun y => !sideB y && !nameB y) (et_some (n := 4) (by simp) (by show 4 < 5; decide) (ei_listS (zs := z :: ws) (ev_var (by rfl))) el fun y hy => et_and (hsd (by rfl) (by rfl)) fun _ => et_not (et_trB (ev_call (ea_cons (ev_var (by rfl)) ea_nil) ⟨y, rfl, by have := hz3 y hy; omega, rfl⟩))) (fun hb3 => ?_) fun hb3 => ?_
      · unfold touchF
        rw [if_pos hb3]
        exact st_ret ev_str (by rfl)
      have e0 : touchF z ws rs = if ((z :: ws).any fun y => !sideB y && !decide (y ∈ rs)) = true then (some "unknown" : Option Str) else if (sideB z && ws.any sideB) = true then (some "sides" : Option Str) else if z ∈ ws then (some "self" : Option Str) else none := by
        unfold touchF
        rw [if_neg (by rw [hb3]; decide)]
      rw [e0]
      refine q_when (b := (z :: ws).any fun y => !sideB y && !decide (y ∈ rs)) (et_some (n := 4) (by simp) (by show 4 < 5; decide) (ei_listS (zs := z :: ws) (ev_var (by rfl))) el fun y hy => et_and (hsd (by rfl) (by rfl)) fun _ => hrn (by rfl) (by rfl)) (fun hb4 => ?_) fun hb4 => ?_
      · rw [if_pos hb4]
        exact st_ret ev_str (by rfl)
      rw [if_neg (by rw [hb4]; decide)]
      refine q_when (b := sideB z && ws.any sideB) (et_and (hsi (first_at (w := z) (ws := ws) (by rfl)) (by rfl)) fun _ => et_some (n := 4) (by simp) (by show 4 < 5; decide) (ei_listS (zs := ws) (rest_at (w := z) (by rfl))) (by omega) fun y hy => hsi (ev_var (by rfl)) (by rfl)) (fun hb5 => ?_) fun hb5 => ?_
      · rw [if_pos hb5]
        exact st_ret ev_str (by rfl)
      rw [if_neg (by rw [hb5]; decide)]
      refine st_ret (ev_ite (b := decide (z ∈ ws)) (d1 := .str "self") (d2 := .str "") (et_is (et_test (ev_op (first_at (w := z) (ws := ws) (by rfl)) (rest_at (w := z) (by rfl)) (od_inL rfl (strs_flat _)))) inD_str) (fun _ => ev_str) (fun _ => ev_str)) ?_
      by_cases h : z ∈ ws
      · rw [decide_eq_true h, if_pos rfl, if_pos h]; rfl
      · rw [decide_eq_false h, if_neg (by decide), if_neg h]; rfl
theorem starts_hash {w : Str} (h : w ≠ "") : decide ((⟨#[w.cps.toList.getD 0 0]⟩ : Str) = "#") = Txt.startswith w "#" := by
  have e1 : ("#" : Str).cps.toList = [35] := by decide +kernel
  have e2 : ("#" : Str).length = 1 := by decide +kernel
  have e3 : ("#" : Str) = mkS [35] := by decide +kernel
  unfold Txt.startswith
  rw [PySem.StrLaws.subAt_eq, e2, e1, List.drop_zero]
  cases ew : w.cps.toList with
  | nil => exact absurd (by rw [← mkS_of w, ew]; rfl) h
  | cons c r =>
    have : (⟨#[(c :: r).getD 0 0]⟩ : Str) = mkS [c] := rfl
    rw [this, e3]
    show decide (mkS [c] = mkS [35]) = (decide (0 + 1 ≤ w.length) && ([c] == [35]))
    rw [decide_eq_true (by rw [DL.len_list, ew, List.length_cons]; omega : 0 + 1 ≤ w.length), Bool.true_and]
    by_cases k : c = 35
    · subst k; rfl
    · have h1 : mkS [c] ≠ mkS [35] := fun e => k (by have := congrArg (fun z : Str => z.cps.toList) e; exact List.cons.inj this |>.1)
      rw [decide_eq_false h1]
      simp [k]
theorem told_cons_pass {k : Nat} {l : Str} {r : List Str} (h : passW (wordsT l) = true) : toldL k (l :: r) = toldL (k + 1) r := by
  conv => lhs; unfold toldL
  rw [if_pos h]
theorem told_cons_not {k : Nat} {l : Str} {r : List Str} (h : passW (wordsT l) = false) : toldL k (l :: r) = (k + 1, wordsT l) :: toldL (k + 1) r := by
  conv => lhs; unfold toldL
  rw [if_neg (by rw [h]; decide)]
theorem tch_lc (w : Str) (ws : List Str) : lcD ws.length (fun _ => true) (fun i => pqD (initS w, ws.getD i Str.empty)) = (ws.map fun y => (initS w, y)).map pqD := by
  have := lc_filterA (p := fun _ : Str => true) (h := fun y => pqD (initS w, y)) Str.empty ws
  rw [List.filter_eq_self.mpr fun _ _ => rfl] at this
  rw [List.map_map]
  exact this
theorem mkS_ne {l : List Nat} {z : Str} (h : z.cps.toList = l) : z = mkS l := by rw [← h, mkS_of]
theorem roomsF_ne {ws rs : List Str} {wd : Str} (h : roomsF ws rs = some wd) : wd ≠ "" := by
  unfold roomsF at h
  have n1 : ("name" : Str) ≠ "" := by decide +kernel
  have n2 : ("twice" : Str) ≠ "" := by decide +kernel
  have n3 : ("limit" : Str) ≠ "" := by decide +kernel
  split at h
  · cases h; exact n1
  · split at h
    · cases h; exact n2
    · split at h
      · cases h; exact n3
      · cases h
theorem touchF_ne {z : Str} {ws rs : List Str} {wd : Str} (h : touchF z ws rs = some wd) : wd ≠ "" := by
  unfold touchF at h
  have n1 : ("name" : Str) ≠ "" := by decide +kernel
  have n2 : ("unknown" : Str) ≠ "" := by decide +kernel
  have n3 : ("sides" : Str) ≠ "" := by decide +kernel
  have n4 : ("self" : Str) ≠ "" := by decide +kernel
  split at h
  · cases h; exact n1
  · split at h
    · cases h; exact n2
    · split at h
      · cases h; exact n3
      · split at h
        · cases h; exact n4
        · cases h
theorem lineF_ne {w : Str} {ws rs : List Str} {b : Bool} {wd : Str} (h : lineF (w :: ws) rs b = some wd) : wd ≠ "" := by
  rw [lineF_cons] at h
  have n1 : ("words" : Str) ≠ "" := by decide +kernel
  have n2 : ("place" : Str) ≠ "" := by decide +kernel
  by_cases c1 : (decide ((w :: ws).length = 1) || !(decide (w = "rooms") || Txt.endswith w ":")) = true
  · rw [if_pos c1] at h; cases h; exact n1
  rw [if_neg c1] at h
  by_cases c2 : (decide (w = "rooms") && b || !decide (w = "rooms") && decide (rs.length = 0)) = true
  · rw [if_pos c2] at h; cases h; exact n2
  rw [if_neg c2] at h
  by_cases c3 : w = "rooms"
  · rw [if_pos c3] at h; exact roomsF_ne h
  · rw [if_neg c3] at h; exact touchF_ne h
theorem lineF_some {w : Str} {ws rs : List Str} {b : Bool} (h : lineF (w :: ws) rs b = none) : ws ≠ [] := fun e => by
  subst e
  rw [lineF_cons, if_pos (by rfl)] at h
  cases h
theorem fk_u_law_read (T : Txt K mg) (O_u_law_scheme : Okd P w K mg base CX0 1 "_law_scheme" ["rooms", "touches"] (sp_u_law_scheme K)) (O_u_law_rooms_word : Okd P w K mg base CX0 2 "_law_rooms_word" ["words", "rooms", "touched"] (sp_u_law_rooms_word K)) (O_u_law_touch_word : Okd P w K mg base CX0 2 "_law_touch_word" ["words", "rooms"] (sp_u_law_touch_word K)) {fd : FuncData} (F : FunD K "_law_read" "_law_read" (defArgs s_u_law_read) (defBody s_u_law_read) (defScope s_u_law_read) [] [] (He.ga K "_law_read") fd) : FnOk P w K mg base CX0 3 (He.ga K "_law_read") fd ["text"] (sp_u_law_read K) := by
  refine fn_pf F sc_u_law_read ?_ (fun cdv A outer s H E hr => ⟨_, dv_u_law_read T O_u_law_scheme O_u_law_rooms_word O_u_law_touch_word cdv A outer s H E hr, ?_⟩)
  · rintro ds d ⟨x0, rfl, _⟩
    rfl
  · rintro ds d ⟨z, rfl, W, rfl⟩
    refine ST.mono (P := fun o => o = .rt (resD (readT z))) ?_ fun o h => .inl h
    show ST K E0 (t_u_law_read K) [.fr (.str z), .no, .no, .no, .no, .no, .no, .no, .no] _
    unfold t_u_law_read sp_u_law_rooms_word sp_u_law_touch_word sp_u_law_scheme
    have hz := W.len
    have hmany := W.many
    have e0 : readT z = readL (((linesT z).length : Nat) + 1) (toldL 0 (linesT z)) [] [] := rfl
    have hL : ∀ l ∈ linesT z, l.length ≤ 4000 := W.words
    refine q_asg (d := .list ((linesT z).map PyData.str)) (ev_is (ev_ite (d1 := .list ((piecesT 10 z).map PyData.str)) (d2 := .list []) (et_test (ev_op (ev_var (by rfl)) ev_str od_neS)) (fun _ => ev_N (en_is (en_split (ev_var (by rfl)) ev_str (by decide +kernel) (by rw [sizeLine_eq]; omega)) (by rw [split_nl]))) (fun _ => ev_N (en_lst ea_nil (Nat.zero_le _)))) (by
      unfold linesT
      by_cases h : z = ""
      · rw [decide_eq_true h, if_pos h]; rfl
      · rw [decide_eq_false h, if_neg h]; rfl)) ?_
    generalize hR : readT z = R at e0 ⊢
    generalize linesT z = L at e0 hL hmany ⊢
    generalize hE : ((L.length : Nat) : Int) + 1 = e at e0
    refine q_asgN (d := .list (([] : List Str).map PyData.str)) (by exact en_lst ea_nil (Nat.zero_le _)) ?_
    refine q_asgN (d := .list (([] : List (Str × Str)).map pqD)) (by exact en_lst ea_nil (Nat.zero_le _)) ?_
    refine q_asg ev_bl ?_
    refine q_for (ei_rng1 (ea_cons (ev_cb (ea_cons (ev_var (by rfl)) ea_nil) cd_lenL) ea_nil) (by rw [List.length_map]; omega) (by rw [List.length_map]; omega)) (fun i ρ => ∃ (rs : List Str) (ts : List (Str × Str)) (s5 s6 s7 s8 : Sl), readL e (toldL i (L.drop i)) rs ts = R ∧ rs.Nodup ∧ rs.length ≤ 40 ∧ ts.length ≤ i * 4001 ∧
      ρ = [.fr (.str z), .fr (.list (L.map PyData.str)), .ow (.list (rs.map PyData.str)), .ow (.list (ts.map pqD)), .fr (.bool (!ts.isEmpty)), s5, s6, s7, s8]) ⟨[], [], _, _, _, _, e0.symm, List.nodup_nil, by decide, Nat.zero_le _, rfl⟩ ?_ ?_
    · rintro i ρ hi ⟨rs, ts, s5, s6, s7, s8, hr, nd, h40, hts, rfl⟩
      have hi : i < L.length := by rw [List.length_map] at hi; omega
      have hd : L.drop i = L.getD i Str.empty :: L.drop (i + 1) := by
        rw [List.getD_eq_getElem?_getD, List.getElem?_eq_getElem hi]
        exact List.drop_eq_getElem_cons hi
      have hl := hL _ (getD_mem (z := Str.empty) hi)
      have hts2 : ts.length + 4001 ≤ 13000000 := by
        have : i * 4001 ≤ 2999 * 4001 := Nat.mul_le_mul (by omega) (Nat.le_refl _)
        omega
      rw [hd] at hr
      refine ⟨_, _, gt_name, ?_⟩
      refine q_asgN (d := .list ((wordsT (L.getD i Str.empty)).map PyData.str)) (en_words (n := 7) (z := L.getD i Str.empty) (by simp) (by show 7 < 9; decide) (ev_op (ev_var (by rfl)) (ev_var (by rfl)) (od_ixL (atI_strs (ys := L) (i := ((i : Nat) : Int)) (by omega) (by omega)))) (by have : (((i : Nat) : Int).toNat) = i := rfl; omega)) ?_
      refine q_frz (i := 6) rfl ?_
      generalize L.getD i Str.empty = l at hr hl
      have hwl := words_len l
      have hwm : ∀ w ∈ wordsT l, w.length ≤ 4000 ∧ w ≠ "" := fun w hw => by
        obtain ⟨a, _, c⟩ := words_mem hw
        exact ⟨by omega, c⟩
      have hcont : passW (wordsT l) = true → readL e (toldL (i + 1) (L.drop (i + 1))) rs ts = R := fun hp => by
        rw [told_cons_pass hp] at hr
        exact hr
      cases hw0 : wordsT l with
      | nil =>
        rw [hw0] at hcont
        exact q_yes (et_or1 (et_is (et_test (ev_op (ev_cb (ea_cons (ev_var (d := .list []) (by rfl)) ea_nil) cd_lenL) ev_int od_eqI)) (by rfl))) (st_cont ⟨rs, ts, _, _, _, _, hcont rfl, nd, h40, by rw [Nat.add_mul]; omega, rfl⟩)
      | cons w ws =>
        rw [hw0] at hwl hwm hcont
        obtain ⟨hwz, hwe⟩ := hwm w List.mem_cons_self
        have hz2 : ∀ x ∈ w :: ws, x.length ≤ 4000 := fun x hx => (hwm x hx).1
        rw [List.length_cons] at hwl
        refine q_when (b := Txt.startswith w "#") (et_is (et_or (a := false) (et_is (et_test (ev_op (ev_cb (ea_cons (ev_var (d := .list ((w :: ws).map PyData.str)) (by rfl)) ea_nil) cd_lenL) ev_int od_eqI)) (decide_eq_false (by rw [List.length_map, List.length_cons]; omega))) fun _ => et_is (et_test (ev_op (ev_op (first_at (w := w) (ws := ws) (by rfl)) ev_int (od_ixS (by rw [sizeLine_eq]; omega) (ch_at (by decide) (by
          have : w.cps.toList ≠ [] := fun e => hwe (by rw [mkS_ne e]; decide +kernel)
          have := List.length_pos_iff.mpr this
          omega)))) ev_str od_eqS)) (starts_hash hwe)) (Bool.false_or _)) (fun hb => st_cont ⟨rs, ts, _, _, _, _, hcont hb, nd, h40, by rw [Nat.add_mul]; omega, rfl⟩) fun hb => ?_
        have hp : passW (w :: ws) = false := hb
        have hp' : passW (wordsT l) = false := by rw [hw0]; exact hp
        rw [told_cons_not hp', hw0] at hr
        -- word = ..
        refine q_asg (d := .str (wordO (lineF (w :: ws) rs (!ts.isEmpty)))) (ev_lend (n := 2) (by rfl) (ev_is (ev_ite (b := decide (w = "rooms")) (d1 := .str (wordO (lineF (w :: ws) rs (!ts.isEmpty)))) (d2 := .str (wordO (lineF (w :: ws) rs (!ts.isEmpty)))) (et_test (ev_op (first_at (w := w) (ws := ws) (by rfl)) ev_str od_eqS)) (fun hb => ev_call (ea_cons (ev_var (by rfl)) (ea_cons (ev_var (by rfl)) (ea_cons (ev_var (by rfl)) ea_nil))) ⟨w :: ws, rs, _, rfl, of_decide_eq_true hb, nd, h40, by rw [List.length_cons]; omega, by rw [List.length_cons]; omega, hz2, rfl⟩) (fun hb => ev_call (ea_cons (ev_var (by rfl)) (ea_cons (ev_var (by rfl)) ea_nil)) ⟨w :: ws, rs, _, rfl, of_decide_eq_false hb, by rw [List.length_cons]; omega, by rw [List.length_cons]; omega, hz2, rfl⟩)) (ite_self _)) (by rfl)) ?_
        cases hf : lineF (w :: ws) rs (!ts.isEmpty) with
        | some wd =>
          rw [readL_bad hf] at hr
          have hne : wd ≠ "" := lineF_ne hf
          refine q_yes (et_is (et_test (ev_op (ev_var (by rfl)) ev_str od_neS)) (by show (!decide (wd = "")) = true; rw [decide_eq_false hne]; rfl)) (st_ret (d := .list [.bool true, .int (((i + 1 : Nat)) : Int), .str wd]) (ev_N (en_lst (ea_cons ev_bl (ea_cons (ev_op (ev_var (by rfl)) ev_int od_addI) (ea_cons (ev_var (by rfl)) ea_nil))) (by show 3 ≤ sizeLine; rw [sizeLine_eq]; decide))) ?_)
          rw [← hr]
          rfl
        | none =>
          refine q_no (et_is (et_test (ev_op (ev_var (by rfl)) ev_str od_neS)) (by rfl)) ?_
          refine st_if (b := decide (w = "rooms")) (et_test (ev_op (first_at (w := w) (ws := ws) (by rfl)) ev_str od_eqS)) (fun hb => ?_) fun hb => ?_
          · have ew := of_decide_eq_true hb
            obtain ⟨_, n2, n40⟩ := roomsF_none (lineF_rooms hf ew)
            rw [ew] at hf hr
            rw [readL_rooms hf] at hr
            refine st_augO (ds := rs.map PyData.str) (es := ws.map PyData.str) (by rfl) (rest_at (w := w) (by rfl)) (by rw [List.length_map, List.length_map]; omega) ?_
            rw [← List.map_append]
            exact ⟨rs ++ ws, ts, _, _, _, _, hr, n2, by rw [List.length_append]; exact n40, by rw [Nat.add_mul]; omega, rfl⟩
          · have ew := of_decide_eq_false hb
            have hne : ws ≠ [] := lineF_some hf
            rw [readL_touch hf ew] at hr
            refine q_asg ev_bl ?_
            refine st_augO (ds := ts.map pqD) (es := (ws.map fun y => (initS w, y)).map pqD) (by rfl) (ev_N (en_is (en_lc (n := ws.length) (b := fun _ => true) (f := fun i => pqD (initS w, ws.getD i Str.empty)) (ei_listS (zs := ws) (rest_at (w := w) (by rfl))) (by omega) fun i hi => ⟨_, _, gt_name, by simp, et_yes, fun _ => ev_tup (ea_cons (cut_init (z := w) (ws := ws) (by omega) (by rfl)) (ea_cons (ev_var (by rfl)) ea_nil)) (by show 2 ≤ sizeLine; rw [sizeLine_eq]; decide)⟩) (congrArg PyData.list (tch_lc w ws)))) (by rw [List.length_map, List.length_map, List.length_map]; omega) ?_
            rw [← List.map_append]
            refine ⟨rs, ts ++ ws.map fun y => (initS w, y), .fr (.int (i : Nat)), .fr (.list ((w :: ws).map PyData.str)), .fr (.str (wordO none)), s8, hr, nd, h40, by rw [List.length_append, List.length_map, Nat.add_mul]; omega, ?_⟩
            have : (!(ts ++ ws.map fun y => (initS w, y)).isEmpty) = true := by
              cases ws with
              | nil => exact absurd rfl hne
              | cons a r => cases ts <;> rfl
            rw [this]
            rfl
    rintro ρ ⟨rs, ts, s5, s6, s7, s8, hr, nd, h40, hts, rfl⟩
    rw [List.length_map] at hr hts
    have hn : ((L.length : Nat) : Int).toNat = L.length := rfl
    rw [hn] at hr hts
    rw [List.drop_length] at hr
    have hts2 : ts.length ≤ 13000000 := by
      have : L.length * 4001 ≤ 3000 * 4001 := Nat.mul_le_mul (by omega) (Nat.le_refl _)
      omega
    unfold toldL readL at hr
    refine q_when (b := decide (rs.length = 0)) (et_is (et_test (ev_op (ev_lenO (n := 2) (by rfl)) ev_int od_eqI)) (by rw [List.length_map]; exact decide_eq_decide.mpr (by omega))) (fun hb => ?_) fun hb => ?_
    · have h0 : rs = [] := List.length_eq_zero_iff.mp (of_decide_eq_true hb)
      rw [if_pos h0] at hr
      refine st_ret (d := .list [.bool true, .int e, .str "place"]) (ev_N (en_lst (ea_cons ev_bl (ea_cons (ev_is (ev_op (ev_cb (ea_cons (ev_var (d := .list (L.map PyData.str)) (by rfl)) ea_nil) cd_lenL) ev_int od_addI) (by rw [List.length_map, hE])) (ea_cons ev_str ea_nil))) (by show 3 ≤ sizeLine; rw [sizeLine_eq]; decide))) ?_
      rw [← hr]
      rfl
    · have h0 : rs ≠ [] := fun h => of_decide_eq_false hb (by rw [h]; rfl)
      rw [if_neg h0] at hr
      refine q_frz (i := 2) rfl ?_
      refine q_frz (i := 3) rfl ?_
      refine st_ret (d := .list [.bool false, lawD rs ts]) (ev_N (en_lst (ea_cons ev_bl (ea_cons (ev_call (ea_cons (ev_var (by rfl)) (ea_cons (ev_var (by rfl)) ea_nil)) ⟨rs, ts, rfl, by omega, by omega, rfl⟩) ea_nil)) (by show 2 ≤ sizeLine; rw [sizeLine_eq]; decide))) ?_
      rw [← hr]
      rfl
theorem touchF_self {z : Str} {ws rs : List Str} (h : touchF z ws rs = none) : z ∉ ws := fun m => by
  unfold touchF at h
  split at h
  · cases h
  · split at h
    · cases h
    · split at h
      · cases h
      · first
          | (rw [if_pos m] at h; cases h)
          | cases h
theorem lineF_touch {w : Str} {ws rs : List Str} {b : Bool} (h : lineF (w :: ws) rs b = none) (e : w ≠ "rooms") : touchF (initS w) ws rs = none := by
  rw [lineF_cons] at h
  by_cases c1 : (decide ((w :: ws).length = 1) || !(decide (w = "rooms") || Txt.endswith w ":")) = true
  · rw [if_pos c1] at h; cases h
  rw [if_neg c1] at h
  by_cases c2 : (decide (w = "rooms") && b || !decide (w = "rooms") && decide (rs.length = 0)) = true
  · rw [if_pos c2] at h; cases h
  rw [if_neg c2, if_neg e] at h
  exact h
theorem readL_facts {e : Int} {rs' : List Str} {ts' : List (Str × Str)} : ∀ (L : List (Nat × List Str)) (rs : List Str) (ts : List (Str × Str)), (∀ p ∈ L, 1 ≤ p.2.length) → readL e L rs ts = .ok rs' ts' → rs.Nodup → rs.length ≤ 40 → (∀ t ∈ ts, t.1 ≠ t.2) →
    rs'.Nodup ∧ rs'.length ≤ 40 ∧ ∀ t ∈ ts', t.1 ≠ t.2
  | [], rs, ts, _, h, nd, hl, ht => by
    unfold readL at h
    split at h
    · cases h
    · cases h
      exact ⟨nd, hl, ht⟩
  | (k, ws) :: L, rs, ts, hp, h, nd, hl, ht => by
    have hw := hp _ List.mem_cons_self
    have hp2 := fun p hq => hp p (List.mem_cons_of_mem _ hq)
    cases ws with
    | nil => exact absurd hw (Nat.not_succ_le_zero 0)
    | cons w ws =>
      cases hf : lineF (w :: ws) rs (!ts.isEmpty) with
      | some wd => rw [readL_bad hf] at h; cases h
      | none =>
        by_cases ew : w = "rooms"
        · subst ew
          obtain ⟨_, n2, n40⟩ := roomsF_none (lineF_rooms hf rfl)
          rw [readL_rooms hf] at h
          exact readL_facts L _ _ hp2 h n2 (by rw [List.length_append]; exact n40) ht
        · rw [readL_touch hf ew] at h
          have hs := touchF_self (lineF_touch hf ew)
          refine readL_facts L _ _ hp2 h nd hl fun t h => ?_
          rcases List.mem_append.mp h with h | h
          · exact ht t h
          · obtain ⟨y, hy, rfl⟩ := List.mem_map.mp h
            exact fun e => hs (by have e : initS w = y := e; rw [e]; exact hy)
theorem readT_facts {z : Str} {rs : List Str} {ts : List (Str × Str)} (h : readT z = .ok rs ts) : rs.Nodup ∧ rs.length ≤ 40 ∧ ∀ t ∈ ts, t.1 ≠ t.2 :=
  readL_facts _ _ _ (fun p hp => (told_ok _ _ p hp).1) h List.nodup_nil (by decide) fun t h => (by cases h)
theorem strT_sch {rs : List Str} {ps : List (Str × Str)} (h1 : rs.length ≤ 1000) (h2 : ps.length ≤ 1000) : ∃ xs, schD rs ps = .tuple xs ∧ xs.length ≤ 1000 ∧ ∀ x ∈ xs, strT 3 x := by
  refine ⟨[.tuple (rs.map PyData.str), .tuple (ps.map pqD)], rfl, by show 2 ≤ 1000; decide, fun x hx => ?_⟩
  rcases List.mem_cons.mp hx with rfl | hx
  · refine .inr ⟨_, rfl, by rw [List.length_map]; exact h1, fun x hx => ?_⟩
    obtain ⟨z, _, rfl⟩ := List.mem_map.mp hx
    exact .inl ⟨z, rfl⟩
  · rw [List.mem_singleton.mp hx]
    refine .inr ⟨_, rfl, by rw [List.length_map]; exact h2, fun x hx => ?_⟩
    obtain ⟨p, _, rfl⟩ := List.mem_map.mp hx
    refine .inr ⟨[.str p.1, .str p.2], rfl, by show 2 ≤ 1000; decide, fun x hx => ?_⟩
    rcases List.mem_cons.mp hx with rfl | hx
    · exact .inl ⟨_, rfl⟩
    · rw [List.mem_singleton.mp hx]
      exact .inl ⟨_, rfl⟩
theorem fk_u_law_right (T : Txt K mg) (O_u_law_read : Okd P w K mg base CX0 3 "_law_read" ["text"] (sp_u_law_read K)) (O_read_scheme : Okd P w K mg base (L2N.CX P w) 5 "read_scheme" ["text"] (sp_read_scheme K)) (O_u_law_same : Okd P w K mg base CX0 4 "_law_same" ["told", "due"] (sp_u_law_same K)) (X_BadText : ExOk P w K mg base 1 "BadText" ["line", "word"]) {fd : FuncData} (F : FunD K "_law_right" "_law_right" (defArgs s_u_law_right) (defBody s_u_law_right) (defScope s_u_law_right) [] [] (He.ga K "_law_right") fd) : FnOk P w K mg base CX0 6 (He.ga K "_law_right") fd ["text"] (sp_u_law_right K) := by
  refine fn_pf F sc_u_law_right ?_ (fun cdv A outer s H E hr => ⟨_, dv_u_law_right T O_u_law_read O_read_scheme O_u_law_same X_BadText cdv A outer s H E hr, ?_⟩)
  · rintro ds d ⟨x0, rfl, _⟩
    rfl
  · rintro ds d ⟨z, rfl, W, rfl⟩
    refine ST.mono (P := fun o => o = .rt (.bool true)) ?_ fun o h => .inl h
    show ST K E0 (t_u_law_right K) [.fr (.str z), .no, .no, .no] _
    unfold t_u_law_right sp_u_law_read sp_read_scheme sp_u_law_same
    refine q_asg (d := resD (readT z)) (ev_call (ea_cons (ev_var rfl) ea_nil) ⟨z, rfl, W, rfl⟩) ?_
    cases hn : readT z with
    | ok rs ts =>
      obtain ⟨n1, n2, n3⟩ := readT_facts hn
      have hfew := W.few rs ts hn
      refine st_seq (st_tryA (by walk_at "ea") (.inl ⟨_, ⟨z, rfl, W, rs, ts, hn, rfl⟩, ?_⟩))
      have em := mk_law n1 n3
      obtain ⟨xs, e1, e2, e3⟩ := strT_sch (rs := srt ltS (dd rs)) (ps := srt ltQ (dd (ts.map ordQ))) (by rw [srt_len, dd_of n1]; omega) (by rw [srt_len]; omega)
      refine st_ret (d := .bool true) (ev_is (d := .bool (true && true)) ?_ rfl) rfl
      refine ev_andV (ev_is (d := .bool (!false)) (ev_notV (ev_op (ev_var (d := .list [.bool false, lawD rs ts]) rfl) ev_int (od_ixL rfl))) rfl) fun _ => ?_
      exact ev_call (ea_cons (ev_var (d := mkD rs ts) rfl) (ea_cons (ev_op (ev_var (d := .list [.bool false, lawD rs ts]) rfl) ev_int (od_ixL rfl)) ea_nil)) ⟨xs, by rw [← em]; show [mkD rs ts, mkD rs ts] = _; rw [show mkD rs ts = .tuple xs from e1], e2, e3, rfl⟩
    | bad l wd =>
      refine st_seq (st_tryA (by walk_at "ea") (.inr ⟨_, _, ⟨z, rfl, W, l, wd, hn, rfl, rfl⟩, T.e_BadText_PlanError, fun a dd => ?_⟩))
      unfold ts_u_law_right
      have X : ∀ ρ : List Sl, ρ = ρ := fun _ => rfl
      have is1 : ∀ {ρ : List Sl} {c : V} {cv : Value} {b : Bool}, ρ[3]? = some (Sl.ex a dd [(("word" : Str), .str wd), (("line" : Str), .int l)]) → (∀ u, RelV c u → u = cv) → PySem.W.kitOne K (.ref (He.ga K "BadText")) cv = some b →
        EV K (tCB (rIsX K (.ref (He.ga K "BadText")) (some dd) a) (tCons (tVar 3) (tCons (tC c) tNil))) ρ (.bool b) := fun h h1 h2 => ev_isX h T.x_BadText.exc h1 h2
      have xl : ∀ ρ : List Sl, ρ[3]? = some (Sl.ex a dd [(("word" : Str), .str wd), (("line" : Str), .int l)]) → EV K (tXf a (.ref (He.ga K "BadText")) (some dd) (He.ga K "BadText") "line" (tVar 3)) ρ (.int l) := fun ρ h => ev_xf h rfl
      have xw : ∀ ρ : List Sl, ρ[3]? = some (Sl.ex a dd [(("word" : Str), .str wd), (("line" : Str), .int l)]) → EV K (tXf a (.ref (He.ga K "BadText")) (some dd) (He.ga K "BadText") "word" (tVar 3)) ρ (.str wd) := fun ρ h => ev_xf h rfl
      have du : ∀ {ρ : List Sl} {i : Int} {d : D}, ρ[1]? = some (.fr (resD (.bad l wd))) → atI [.bool true, .int l, .str wd] i = some d → EV K (tOp (rIx K) (tVar 1) (tC (.int i))) ρ d := fun h h1 => ev_op (ev_var (d := .list [.bool true, .int l, .str wd]) h) ev_int (od_ixL h1)
      refine q_no (et_is (et_or (et_not (et_trB (is1 rfl (fun _ z => z) T.k_BadText_BadText))) fun _ => et_or (et_not (et_trB (is1 rfl (fun _ z => z) T.k_BadText_TextError))) fun _ => et_not (et_trB (is1 rfl (fun _ z => z) T.k_BadText_ValueError))) (by rfl)) ?_
      refine q_no (et_is (et_or (et_trB (is1 rfl (fun _ z => z) T.k_BadText_DataError)) fun _ => et_or (et_trB (is1 rfl (fun _ z => z) T.k_BadText_BadScheme)) fun _ => et_or (et_trB (is1 rfl (fun _ z => z) T.k_BadText_BadCommand)) fun _ => et_not (et_trB (du rfl rfl))) (by rfl)) ?_
      refine q_no (et_is (et_or (et_not (et_trB (ev_isi (xl _ rfl) rfl rfl))) fun _ => et_or (et_trB (ev_isi (xl _ rfl) rfl rfl)) fun _ => et_not (et_trB (ev_isi (xw _ rfl) rfl rfl))) (by rfl)) ?_
      exact st_ret (ev_is (ev_andV (b := true) (ev_is (ev_op (xl _ rfl) (du rfl rfl) od_eqI) (congrArg PyData.bool (decide_eq_true rfl))) fun _ => ev_is (ev_op (xw _ rfl) (du rfl rfl) od_eqS) (congrArg PyData.bool (decide_eq_true rfl))) rfl) rfl
theorem fk_u_law_pool (T : Txt K mg)  {fd : FuncData} (F : FunD K "_law_pool" "_law_pool" (defArgs s_u_law_pool) (defBody s_u_law_pool) (defScope s_u_law_pool) [] [] (He.ga K "_law_pool") fd) : FnOk P w K mg base CX0 1 (He.ga K "_law_pool") fd ["script", "many"] (sp_u_law_pool K) := by
  refine fn_pq F sc_u_law_pool ?_ (fun cdv A outer s H E hr => ⟨_, dv_u_law_pool T  cdv A outer s H E hr, ?_⟩)
  · rintro ds ⟨x0, x1, rfl, _⟩
    rfl
  · rintro ds ⟨ns, m, rfl, hns, h0, h1⟩
    show ST K E0 (t_u_law_pool K) [.fr (.dict [(.none, .list (ns.map PyData.int))]), .fr (.int m), .no, .no, .no, .no, .no, .no, .no] _
    unfold t_u_law_pool
    -- cells = [..]
    obtain ⟨ms, e1, hms⟩ := map_cut (ns := ns) none (some 63)
    refine q_asg (ev_N (en_lc (b := fun _ => true) (f := fun i => .int (if decide (0 ≤ ms.getD i 0) = true then ms.getD i 0 else - ms.getD i 0)) (ei_list (ds := ms.map PyData.int) (ev_is (ev_N (by walk_at "evn")) (congrArg PyData.list e1))) (by rw [List.length_map]; omega) fun i hi => ?_)) ?_
    · rw [List.length_map] at hi
      refine ⟨_, _, gt_name, by simp, et_yes, fun _ => ?_⟩
      rw [getD_map_int hi]
      refine ev_is (ev_ite (by walk_at "et") (fun _ => by walk_at "ev") (fun _ => by walk_at "ev")) ?_
      by_cases h : 0 ≤ ms.getD i 0
      · rw [decide_eq_true h]; rfl
      · rw [decide_eq_false h]; rfl
    rw [lcD_all (fun _ => rfl) (fun i _ => rfl), List.length_map]
    -- if len(cells) == 0: cells = [37]
    refine q_cut (fun ρ => ∃ cs : List Int, 1 ≤ cs.length ∧ cs.length ≤ 63 ∧ ρ = [.fr (.dict [(.none, .list (ns.map PyData.int))]), .fr (.int m), .fr (.list (cs.map PyData.int)), .no, .no, .no, .no, .no, .no]) ?_ ?_
    · refine st_if (by walk_at "et") (fun hb => st_asg (by walk_at "ev") ?_) (fun hb => st_next ?_)
      · exact ⟨[_], by decide, by decide, rfl⟩
      · refine ⟨_, ?_, ?_, rfl⟩
        · have := of_decide_eq_false hb
          rw [List.length_map] at this
          omega
        · rw [List.length_map, List.length_range]
          omega
    rintro ρ ⟨cs, hc1, hc2, rfl⟩
    -- rest = [..]
    refine q_asgN (en_lc (b := fun _ => true) (f := fun i => .int (if decide ((10 : Int) ^ (18 : Int).toNat ≤ cs.getD i 0) = true then cs.getD i 0 else 0)) (ei_list (by walk_at "ev")) (by rw [List.length_map]; omega) fun i hi => ?_) ?_
    · rw [List.length_map] at hi
      refine ⟨_, _, gt_name, by simp, et_yes, fun _ => ?_⟩
      rw [getD_map_int hi]
      refine ev_is (ev_ite (by walk_at "et") (fun _ => by walk_at "ev") (fun _ => by walk_at "ev")) ?_
      by_cases h : (10 : Int) ^ (18 : Int).toNat ≤ cs.getD i 0
      · rw [decide_eq_true h]; rfl
      · rw [decide_eq_false h]; rfl
    rw [lcD_all (fun _ => rfl) (fun i _ => rfl), List.length_map]
    -- pool = []
    refine q_asgN (by walk_at "evn") ?_
    -- for k in range(many)
    refine q_for (ei_rng1 (by walk_at "ea") (by omega) (by omega)) (fun i ρ => ∃ (rs ps : List Int) (s6 s7 s8 : Sl), rs.length = cs.length ∧ ps.length = i ∧
      ρ = [.fr (.dict [(.none, .list (ns.map PyData.int))]), .fr (.int m), .fr (.list (cs.map PyData.int)), .no, .ow (.list (rs.map PyData.int)), .ow (.list (ps.map PyData.int)), s6, s7, s8]) ⟨_, [], _, _, _, ?_, rfl, rfl⟩ ?_ ?_
    · rw [List.length_map, List.length_range]
    · rintro i ρ hi ⟨rs, ps, s6, s7, s8, hr1, hp1, rfl⟩
      refine ⟨_, _, gt_name, ?_⟩
      have hcl : 0 < ((cs.map PyData.int).length : Int) := by rw [List.length_map]; omega
      have hm0 : 0 ≤ (i : Int) % ((cs.map PyData.int).length : Int) := Int.emod_nonneg _ (by omega)
      have hm1 : (i : Int) % ((cs.map PyData.int).length : Int) < (cs.map PyData.int).length := Int.emod_lt_of_pos _ hcl
      refine q_asg (by walk_at "ev") ?_
      have hm2 : (i : Int) % ((cs.map PyData.int).length : Int) < cs.length := by rw [List.length_map] at hm1; rw [List.length_map]; exact hm1
      have hm3 : (i : Int) % ((cs.map PyData.int).length : Int) < rs.length := by rw [hr1]; exact hm2
      generalize (i : Int) % ((cs.map PyData.int).length : Int) = a at hm0 hm1 hm2 hm3
      refine st_if (by walk_at "et") (fun hb => ?_) (fun hb => ?_)
      · refine q_append (by rfl) (by walk_at "ev") (by rw [List.length_map]; omega) ?_
        rw [map_add]
        refine st_setL (by rfl) (by walk_at "ev") (by walk_at "ev") (ixN_nn hm0 (by rw [List.length_map]; exact hm3)) ?_
        rw [map_set]
        exact ⟨_, _, _, _, _, by rw [List.length_set]; exact hr1, by rw [List.length_append, hp1]; rfl, rfl⟩
      · refine q_asg (by walk_at "ev") ?_
        refine st_append (by rfl) (by walk_at "ev") (by rw [List.length_map]; omega) ?_
        rw [map_add]
        exact ⟨_, _, _, _, _, hr1, by rw [List.length_append, hp1]; rfl, rfl⟩
    · rintro ρ ⟨rs, ps, s6, s7, s8, hr1, hp1, rfl⟩
      refine q_frz (i := 5) rfl ?_
      refine st_ret (by walk_at "ev") ?_
      exact ⟨_, rfl, m, _, ps, rfl, rfl, by omega⟩
theorem len25 : ((("abcdefghijklmnoprstuvwxyz" : Str).cps.toList.length : Nat) : Int) = 25 := by decide +kernel
theorem len8 : ((("0rbz9eno" : Str).cps.toList.length : Nat) : Int) = 8 := by decide +kernel
theorem str_k : ∀ k : Nat, k < 42 → (strI (1000 + (k : Nat))).length = 4 ∧ (1000 + (k : Nat) : Int).natAbs.log2 < 1920 := by decide +kernel
theorem tail_len (z : Str) (p : Int) : ∀ n, (tailS z p n).length = z.length + n
  | 0 => rfl
  | n + 1 => by
    unfold tailS
    rw [len_app, tail_len z p n]
    rfl
theorem namesK_len (ps : List Int) (b : Int) : ∀ n, (namesK ps b n).length = n
  | 0 => rfl
  | n + 1 => by
    unfold namesK
    rw [List.length_append, namesK_len ps b n]
    rfl
theorem cap_len {z y : Str} {c : Bool} (hy : y.length ≤ 8) : (if (decide ((z.length : Int) > 8) || c) = true then y else z).length ≤ 8 := by
  split
  · exact hy
  · rename_i h
    simp only [Bool.or_eq_true, decide_eq_true_eq, not_or] at h
    omega
theorem nameAt_len (ps : List Int) (b : Int) {k : Nat} (hk : k < 42) (ns : List Str) : (nameAt ps b k ns).length ≤ 8 := by
  unfold nameAt
  dsimp only
  refine cap_len ?_
  rw [len_app, (str_k k hk).1]
  decide
theorem namesK_small (ps : List Int) (b : Int) : ∀ n, n ≤ 42 → ∀ z ∈ namesK ps b n, z.length ≤ 8
  | 0, _, z, h => by cases h
  | n + 1, hn, z, h => by
    unfold namesK at h
    rcases List.mem_append.mp h with h | h
    · exact namesK_small ps b n (by omega) z h
    · rw [List.mem_singleton.mp h]
      exact nameAt_len ps b (by omega) _
theorem fk_u_law_names (T : Txt K mg)  {fd : FuncData} (F : FunD K "_law_names" "_law_names" (defArgs s_u_law_names) (defBody s_u_law_names) (defScope s_u_law_names) [] [] (He.ga K "_law_names") fd) : FnOk P w K mg base CX0 1 (He.ga K "_law_names") fd ["pool", "begin", "many"] (sp_u_law_names K) := by
  refine fn_pf F sc_u_law_names ?_ (fun cdv A outer s H E hr => ⟨_, dv_u_law_names T  cdv A outer s H E hr, ?_⟩)
  · rintro ds d ⟨x0, x1, x2, rfl, _⟩
    rfl
  · rintro ds d ⟨ps, b, m, rfl, hb, hm0, hm1, hl, rfl⟩
    refine ST.mono (P := fun o => o = .rt (.list ((namesK ps b m.toNat).map PyData.str))) ?_ fun o h => .inl h
    show ST K E0 (t_u_law_names K) [.fr (.list (ps.map PyData.int)), .fr (.int b), .fr (.int m), .no, .no, .no, .no, .no] _
    unfold t_u_law_names
    refine q_asgN (by walk_at "evn") ?_
    refine q_for (ei_rng1 (by walk_at "ea") (by omega) (by omega)) (fun i ρ => ∃ s4 s5 s6 s7 : Sl, ρ = [.fr (.list (ps.map PyData.int)), .fr (.int b), .fr (.int m), .ow (.list ((namesK ps b i).map PyData.str)), s4, s5, s6, s7]) ⟨_, _, _, _, rfl⟩ ?_ ?_
    · rintro i ρ hi ⟨s4, s5, s6, s7, rfl⟩
      have hi : i < 41 ∧ (i : Int) < m := by omega
      have hnl := namesK_len ps b i
      have hsm := namesK_small ps b i (by omega)
      refine ⟨_, _, gt_name, ?_⟩
      refine q_asg (d := .int (pI ps (b + (i : Nat)))) (ev_op (by walk_at "ev") (by walk_at "ev") (od_ixL (pI_get (by omega) (by omega)))) ?_
      show ST K E0 _ _ (loopP (fun ρ => ∃ s4 s5 s6 s7 : Sl, ρ = [.fr (.list (ps.map PyData.int)), .fr (.int b), .fr (.int m), .ow (.list ((namesK ps b i ++ [nameAt ps b i (namesK ps b i)]).map PyData.str)), s4, s5, s6, s7]) _)
      have hna : ∀ y, (let p := pI ps (b + (i : Nat)); let z := chS "abcdefghijklmnoprstuvwxyz" (p % 25); let q := p / 25; let z := if (decide (q % 5 = 0) && decide ((i : Int) > 0)) = true then (namesK ps b i).getD (i - 1) Str.empty else z; let z := tailS z q (q / 5 % 4).toNat; let z := if decide (q % 11 = 7) = true then ("rooms" : Str) else z; if (decide ((z.length : Int) > 8) || inD (.str z) ((namesK ps b i).map PyData.str)) = true then ("q" : Str) ++ strI (1000 + (i : Nat)) else z) = y → nameAt ps b i (namesK ps b i) = y := fun y h => h
      generalize nameAt ps b i (namesK ps b i) = nm at hna ⊢
      dsimp only at hna
      generalize namesK ps b i = ns at hnl hsm hna ⊢
      generalize pI ps (b + (i : Nat)) = p at hna ⊢
      refine q_asg (d := .str (chS "abcdefghijklmnoprstuvwxyz" (p % 25))) (ev_op (by walk_at "ev") (ev_op (by walk_at "ev") (by walk_at "ev") (od_mod (by decide))) (od_ixS (by decide) (ch_at (Int.emod_nonneg _ (by decide)) (by rw [len25]; exact Int.emod_lt_of_pos _ (by decide))))) ?_
      have hz0 : (chS "abcdefghijklmnoprstuvwxyz" (p % 25)).length = 1 := rfl
      generalize chS "abcdefghijklmnoprstuvwxyz" (p % 25) = z0 at hna hz0 ⊢
      refine q_asg (by walk_at "ev") ?_
      generalize p / 25 = q at hna ⊢
      refine q_ifAsg (i := 6) (d := .str (ns.getD (i - 1) Str.empty)) (d' := .str z0) rfl (by walk_at "et") (fun hc => ?_) ?_
      · rw [Bool.and_eq_true, decide_eq_true_eq, decide_eq_true_eq] at hc
        have e : ((i : Int) - 1).toNat = i - 1 := by omega
        rw [← e]
        exact ev_ixO rfl (by walk_at "ev") (atI_strs (by omega) (by omega))
      rw [ite_str]
      have hz1 : (if (decide (q % 5 = 0) && decide ((i : Int) > 0)) = true then ns.getD (i - 1) Str.empty else z0).length ≤ 8 := by
        split
        · rename_i hc
          rw [Bool.and_eq_true, decide_eq_true_eq, decide_eq_true_eq] at hc
          have hlt : i - 1 < ns.length := by omega
          rw [List.getD_eq_getElem?_getD, List.getElem?_eq_getElem hlt]
          exact hsm _ (List.getElem_mem hlt)
        · omega
      generalize (if (decide (q % 5 = 0) && decide ((i : Int) > 0)) = true then ns.getD (i - 1) Str.empty else z0) = z1 at hna hz1 ⊢
      have hq0 : 0 ≤ q / 5 % 4 := Int.emod_nonneg _ (by decide)
      have hq1 : q / 5 % 4 < 4 := Int.emod_lt_of_pos _ (by decide)
      refine q_for (ei_rng1 (ea_cons (ev_op (by walk_at "ev") (by walk_at "ev") (od_mod (by decide))) ea_nil) (by omega) (by omega)) (fun j ρ => ∃ s7 : Sl, ρ = [.fr (.list (ps.map PyData.int)), .fr (.int b), .fr (.int m), .ow (.list (ns.map PyData.str)), .fr (.int i), .fr (.int q), .fr (.str (tailS z1 q j)), s7]) ⟨_, rfl⟩ ?_ ?_
      · rintro j ρ hj ⟨s7, rfl⟩
        refine ⟨_, _, gt_name, ?_⟩
        refine st_asg (d := .str (tailS z1 q (j + 1))) (ev_op (by walk_at "ev") (ev_op (by walk_at "ev") (ev_op (ev_op (by walk_at "ev") (by walk_at "ev") od_addI) (by walk_at "ev") (od_mod (by decide))) (od_ixS (by decide) (ch_at (Int.emod_nonneg _ (by decide)) (by rw [len8]; exact Int.emod_lt_of_pos _ (by decide))))) (od_addS ?_)) ⟨_, rfl⟩
        rw [tail_len, len_one, sizeLine_eq]
        omega
      rintro ρ ⟨s7', rfl⟩
      have htl := tail_len z1 q (q / 5 % 4).toNat
      generalize tailS z1 q (q / 5 % 4).toNat = z2 at hna htl ⊢
      refine q_ifAsg (i := 6) (d := .str ("rooms" : Str)) (d' := .str z2) rfl (et_test (ev_op (ev_op (ev_var rfl) ev_int (od_mod (by decide))) ev_int od_eqI)) (fun _ => ev_str) ?_
      rw [ite_str]
      have hz3l : (if decide (q % 11 = 7) = true then ("rooms" : Str) else z2).length ≤ 20 := by
        split
        · decide +kernel
        · omega
      generalize (if decide (q % 11 = 7) = true then ("rooms" : Str) else z2) = z3 at hna hz3l ⊢
      have hz3 : z3.length ≤ sizeLine := by rw [sizeLine_eq]; omega
      obtain ⟨hk1, hk2⟩ := str_k i (by omega)
      refine q_ifAsg (i := 6) (d := .str (("q" : Str) ++ strI (1000 + (i : Nat)))) (d' := .str z3) rfl (et_or (by walk_at "et") fun _ => et_test (ev_inO (by walk_at "ev") rfl rfl (strs_flat _))) (fun _ => ev_op (by walk_at "ev") (ev_cb (by walk_at "ea") (cd_strI hk2)) (od_addS ?_)) ?_
      · rw [hk1, sizeLine_eq]
        decide
      rw [ite_str]
      rw [← hna _ rfl]
      refine st_append rfl (by walk_at "ev") (by rw [List.length_map]; omega) ?_
      rw [List.map_append]
      exact ⟨_, _, _, _, rfl⟩
    · rintro ρ ⟨s4, s5, s6, s7, rfl⟩
      exact q_frz (i := 3) rfl (st_ret (by walk_at "ev") rfl)
theorem goodL_app {a b : List Nat} (h : goodL a) (k : ∀ x ∈ b, x ∈ sL.cps.toList ∨ x ∈ sF.cps.toList) : goodL (a ++ b) := by
  cases a with
  | nil => exact h.elim
  | cons c r =>
    refine ⟨h.1, fun x hx => ?_⟩
    rcases List.mem_append.mp hx with hx | hx
    · exact h.2 x hx
    · exact k x hx
def qk (k : Nat) : Str := "q" ++ strI (1000 + (k : Nat))
theorem qk_facts : ∀ k : Nat, k < 42 → ((qk k).cps.toList.head? = some 113 ∧ (qk k).length = 5 ∧ (113 ∈ sL.cps.toList) ∧ ((qk k).cps.toList.tail.all fun x => decide (x ∈ sL.cps.toList) || decide (x ∈ sF.cps.toList)) = true) ∧ ∀ j : Nat, j < 42 → qk j = qk k → j = k := by decide +kernel
theorem qk_good {k : Nat} (h : k < 42) : goodS (qk k) := by
  obtain ⟨⟨h1, _, h3, h4⟩, _⟩ := qk_facts k h
  unfold goodS
  cases e : (qk k).cps.toList with
  | nil => rw [e] at h1; cases h1
  | cons c r =>
    rw [e] at h1 h4
    injection h1 with h1
    subst h1
    refine ⟨h3, fun x hx => ?_⟩
    have := List.all_eq_true.mp h4 x hx
    simpa using this
theorem head_facts : ∀ i : Nat, i < 25 → ("abcdefghijklmnoprstuvwxyz" : Str).cps.toList.getD i 0 ∈ sL.cps.toList ∧ ("abcdefghijklmnoprstuvwxyz" : Str).cps.toList.getD i 0 ≠ 113 := by decide +kernel
theorem tail_facts : ∀ i : Nat, i < 8 → ("0rbz9eno" : Str).cps.toList.getD i 0 ∈ sL.cps.toList ∨ ("0rbz9eno" : Str).cps.toList.getD i 0 ∈ sF.cps.toList := by decide +kernel
theorem tail_good {z : Str} {p : Int} (h : goodS z) : ∀ n, goodS (tailS z p n)
  | 0 => h
  | n + 1 => by
    unfold tailS goodS
    rw [app_list]
    refine goodL_app (tail_good h n) fun x hx => ?_
    rw [chS_list] at hx
    rw [List.mem_singleton.mp hx]
    exact tail_facts _ (mod_nat (k := 8) rfl (by decide))
theorem tail_head {z : Str} {p : Int} (h : goodS z) : ∀ n, (tailS z p n).cps.toList.head? = z.cps.toList.head?
  | 0 => rfl
  | n + 1 => by
    unfold tailS
    rw [app_list, ← tail_head h n]
    have := tail_good (p := p) h n
    unfold goodS at this
    cases e : (tailS z p n).cps.toList with
    | nil => rw [e] at this; exact this.elim
    | cons c r => rfl
def Fr (n : Nat) (z : Str) : Prop := (∃ j, j < n ∧ z = qk j) ∨ z.cps.toList.head? ≠ some 113 ∨ 5 < z.length
theorem tail_fr {z : Str} {p : Int} {n : Nat} (hn : n ≤ 42) (hg : goodS z) (h : Fr n z) (t : Nat) : Fr (n + 1) (tailS z p t) := by
  have hl := tail_len z p t
  rcases h with ⟨j, hj, rfl⟩ | h | h
  · cases t with
    | zero => exact .inl ⟨j, by omega, rfl⟩
    | succ t =>
      have := (qk_facts j (by omega)).1.2.1
      exact .inr (.inr (by omega))
  · exact .inr (.inl (by rw [tail_head hg]; exact h))
  · exact .inr (.inr (by omega))
theorem rooms_good : goodS "rooms" := by
  have e : ("rooms" : Str).cps.toList = [114, 111, 111, 109, 115] := by decide +kernel
  unfold goodS
  rw [e]
  exact ⟨by decide +kernel, by decide +kernel⟩
theorem names_all (ps : List Int) (b : Int) : ∀ n, n ≤ 42 → (∀ z ∈ namesK ps b n, goodS z ∧ Fr n z) ∧ (namesK ps b n).Nodup
  | 0, _ => ⟨fun z h => (by cases h), List.nodup_nil⟩
  | n + 1, hn => by
    obtain ⟨ih, nd⟩ := names_all ps b n (by omega)
    have hl := namesK_len ps b n
    unfold namesK
    generalize namesK ps b n = ns at ih nd hl ⊢
    have key : goodS (nameAt ps b n ns) ∧ Fr (n + 1) (nameAt ps b n ns) ∧ nameAt ps b n ns ∉ ns := by
      unfold nameAt
      dsimp only
      generalize pI ps (b + (n : Nat)) = p
      have h0 : goodS (chS "abcdefghijklmnoprstuvwxyz" (p % 25)) ∧ Fr n (chS "abcdefghijklmnoprstuvwxyz" (p % 25)) := by
        obtain ⟨f1, f2⟩ := head_facts (p % 25).toNat (mod_nat (k := 25) rfl (by decide))
        refine ⟨⟨f1, fun x hx => (by cases hx)⟩, .inr (.inl ?_)⟩
        rw [chS_list]
        intro e
        injection e with e
        exact f2 e
      have h1 : goodS (if (decide (p / 25 % 5 = 0) && decide ((n : Int) > 0)) = true then ns.getD (n - 1) Str.empty else chS "abcdefghijklmnoprstuvwxyz" (p % 25)) ∧ Fr n (if (decide (p / 25 % 5 = 0) && decide ((n : Int) > 0)) = true then ns.getD (n - 1) Str.empty else chS "abcdefghijklmnoprstuvwxyz" (p % 25)) := by
        split
        · rename_i hc
          rw [Bool.and_eq_true, decide_eq_true_eq, decide_eq_true_eq] at hc
          have hlt : n - 1 < ns.length := by omega
          rw [List.getD_eq_getElem?_getD, List.getElem?_eq_getElem hlt]
          exact ih _ (List.getElem_mem hlt)
        · exact h0
      generalize (if (decide (p / 25 % 5 = 0) && decide ((n : Int) > 0)) = true then ns.getD (n - 1) Str.empty else chS "abcdefghijklmnoprstuvwxyz" (p % 25)) = z1 at h1 ⊢
      have g2 := tail_good (p := p / 25) h1.1 (p / 25 / 5 % 4).toNat
      have f2 := tail_fr (p := p / 25) (by omega) h1.1 h1.2 (p / 25 / 5 % 4).toNat
      generalize tailS z1 (p / 25) (p / 25 / 5 % 4).toNat = z2 at g2 f2 ⊢
      have g3 : goodS (if decide (p / 25 % 11 = 7) = true then ("rooms" : Str) else z2) ∧ Fr (n + 1) (if decide (p / 25 % 11 = 7) = true then ("rooms" : Str) else z2) := by
        split
        · exact ⟨rooms_good, .inr (.inl (by decide +kernel))⟩
        · exact ⟨g2, f2⟩
      generalize (if decide (p / 25 % 11 = 7) = true then ("rooms" : Str) else z2) = z3 at g3 ⊢
      obtain ⟨g2, f2⟩ := g3
      split
      · refine ⟨qk_good (by omega), .inl ⟨n, by omega, rfl⟩, fun hm => ?_⟩
        obtain ⟨⟨q1, q2, _, _⟩, q3⟩ := qk_facts n (by omega)
        rcases (ih _ hm).2 with ⟨j, hj, e⟩ | e | e
        · have := q3 j (by omega) e.symm
          omega
        · exact e q1
        · have e : 5 < (qk n).length := e
          omega
      · rename_i hc
        refine ⟨g2, f2, fun hm => hc ?_⟩
        rw [inD_str, decide_eq_true hm, Bool.or_true]
    refine ⟨fun z hz => ?_, ?_⟩
    · rcases List.mem_append.mp hz with hz | hz
      · refine ⟨(ih z hz).1, ?_⟩
        rcases (ih z hz).2 with ⟨j, hj, e⟩ | e | e
        · exact .inl ⟨j, by omega, e⟩
        · exact .inr (.inl e)
        · exact .inr (.inr e)
      · rw [List.mem_singleton.mp hz]
        exact ⟨key.1, key.2.1⟩
    · refine List.nodup_append.mpr ⟨nd, List.nodup_cons.mpr ⟨fun h => (by cases h), List.nodup_nil⟩, fun a ha c hc e => ?_⟩
      rw [List.mem_singleton.mp hc] at e
      subst e
      exact key.2.2 ha
theorem nm_ok (ps : List Int) (b : Int) {n : Nat} (hn : n ≤ 41) : (namesK ps b n).Nodup ∧ (∀ z ∈ namesK ps b n, NameP z) ∧ (namesK ps b n).length = n :=
  ⟨(names_all ps b n (by omega)).2, fun z hz => ⟨((names_all ps b n (by omega)).1 z hz).1, namesK_small ps b n (by omega) z hz⟩, namesK_len ps b n⟩
theorem side_cases {z : Str} (h : z ∈ sides4) : z = "E" ∨ z = "N" ∨ z = "W" ∨ z = "S" := by
  unfold sides4 at h
  simpa only [List.mem_cons, List.not_mem_nil, or_false] using h
theorem good_side {z : Str} (h : goodS z) : z ∉ sides4 := fun m => by
  have : ∀ z ∈ sides4, ∃ c, z.cps.toList = [c] ∧ c ∉ sL.cps.toList := by
    intro z hz
    rcases side_cases hz with rfl | rfl | rfl | rfl
    · exact ⟨69, by decide +kernel, by decide +kernel⟩
    · exact ⟨78, by decide +kernel, by decide +kernel⟩
    · exact ⟨87, by decide +kernel, by decide +kernel⟩
    · exact ⟨83, by decide +kernel, by decide +kernel⟩
  obtain ⟨c, e, hc⟩ := this z m
  unfold goodS at h
  rw [e] at h
  exact hc h.1
theorem low_good {s z : Str} (hs : s ∈ sides4) (hz : goodS z) : ltS s z = true := by
  have h1 : ∃ c, s.cps.toList = [c] ∧ c < 97 := by
    rcases side_cases hs with rfl | rfl | rfl | rfl
    · exact ⟨69, by decide +kernel, by decide⟩
    · exact ⟨78, by decide +kernel, by decide⟩
    · exact ⟨87, by decide +kernel, by decide⟩
    · exact ⟨83, by decide +kernel, by decide⟩
  have h2 : ∀ c ∈ sL.cps.toList, 97 ≤ c := by decide +kernel
  obtain ⟨c, e, hc⟩ := h1
  unfold ltS
  refine decide_eq_true ?_
  unfold goodS at hz
  cases ez : z.cps.toList with
  | nil => rw [ez] at hz; exact hz.elim
  | cons d r =>
    rw [ez] at hz
    have := h2 d hz.1
    rw [e]
    exact List.Lex.rel (by omega)
theorem good_pos {z : Str} (h : goodS z) : 1 ≤ z.length := by
  unfold goodS at h
  show 1 ≤ z.cps.size
  rw [← Array.length_toList]
  cases e : z.cps.toList with
  | nil => rw [e] at h; exact h.elim
  | cons c r => rw [List.length_cons]; omega
theorem pick_at {zs : List Str} {x : Int} {m : Int} (hm : m = (zs.length : Nat)) (h : 0 < zs.length) : atI (zs.map PyData.str) (x % m) = some (.str (zs.getD (x % m).toNat Str.empty)) := by
  subst hm
  exact atI_strs (Int.emod_nonneg _ (by omega)) (Int.emod_lt_of_pos _ (by omega))
theorem pick_mem {zs : List Str} {x : Int} {m : Int} (hm : m = (zs.length : Nat)) (h : 0 < zs.length) : zs.getD (x % m).toNat Str.empty ∈ zs := getD_mem (mod_nat hm h)
section
variable {rs : List Str} {ps : List (Str × Str)}
theorem WS.nodup (W : WS rs ps) : rs.Nodup := W.up.imp fun h e => by rw [e, ltS_irr] at h; cases h
theorem WS.snd (W : WS rs ps) {p : Str × Str} (hp : p ∈ ps) : p.2 ∈ rs := (W.one p hp).2
end
def TouchOk (rs : List Str) (t : Str × Str) : Prop := (t.1 ∈ rs ∧ t.2 ∈ rs ++ sides4) ∨ (t.1 ∈ sides4 ∧ t.2 ∈ rs)
theorem ordQ_ok {rs : List Str} (hg : ∀ z ∈ rs, NameP z) {t : Str × Str} (h : TouchOk rs t) (hne : t.1 ≠ t.2) : ltS (ordQ t).1 (ordQ t).2 = true ∧ (ordQ t).1 ∈ rs ++ sides4 ∧ (ordQ t).2 ∈ rs := by
  unfold ordQ
  have lo : ∀ {a b : Str}, a ∈ rs → b ∈ rs ++ sides4 → ltS a b = true → b ∈ rs := fun ha hb h => by
    rcases List.mem_append.mp hb with hb | hb
    · exact hb
    · rw [ltS_as (low_good hb (hg _ ha).1)] at h
      cases h
  cases q : ltS t.1 t.2 with
  | true =>
    rw [if_pos rfl]
    rcases h with ⟨a, b⟩ | ⟨a, b⟩
    · exact ⟨q, List.mem_append_left _ a, lo a b q⟩
    · exact ⟨q, List.mem_append_right _ a, b⟩
  | false =>
    rw [if_neg Bool.false_ne_true]
    have q2 : ltS t.2 t.1 = true := by
      cases q2 : ltS t.2 t.1 with
      | true => rfl
      | false => exact absurd (ltS_eq q q2) hne
    rcases h with ⟨a, b⟩ | ⟨a, b⟩
    · exact ⟨q2, b, a⟩
    · rw [low_good a (hg _ b).1] at q
      cases q
theorem ws_of {rs : List Str} {ts : List (Str × Str)} (R : Rooms rs) (ht : ∀ t ∈ ts, TouchOk rs t) (htl : (pairsOf ts).length ≤ 110) : WS (srt ltS rs) (srt ltQ (pairsOf ts)) := by
  have hm : ∀ z, z ∈ srt ltS rs ++ sides4 ↔ z ∈ rs ++ sides4 := fun z => by rw [List.mem_append, List.mem_append, mem_srt]
  have p2 : ∀ p ∈ pairsOf ts, ltS p.1 p.2 = true ∧ p.1 ∈ rs ++ sides4 ∧ p.2 ∈ rs := fun p hp => by
    rcases (pairs_fold ts p []).mp hp with e | ⟨t, h, hne, rfl⟩
    · cases e
    · exact ordQ_ok R.good (ht t h) hne
  have nd := pairs_nd ts (qs := []) List.nodup_nil
  refine ⟨by rw [srt_len]; exact R.some, by rw [srt_len]; exact R.many, fun z hz => R.good z (mem_srt.mp hz), sorted_lt stoS (srt_pw stoS rs) ((srt_perm (lt := ltS) rs).nodup_iff.mpr R.nd), (srt_perm (lt := ltQ) _).nodup_iff.mpr nd, sorted_lt stoQ (srt_pw stoQ _) ((srt_perm (lt := ltQ) _).nodup_iff.mpr nd), fun p hp => (p2 p (mem_srt.mp hp)).1, fun p hp => ?_, ?_⟩
  · obtain ⟨_, b, c⟩ := p2 p (mem_srt.mp hp)
    exact ⟨(hm _).mpr b, mem_srt.mpr c⟩
  · rw [srt_len]
    exact htl
theorem fk_u_law_drawn (T : Txt K mg) (O_u_law_scheme : Okd P w K mg base CX0 1 "_law_scheme" ["rooms", "touches"] (sp_u_law_scheme K)) {fd : FuncData} (F : FunD K "_law_drawn" "_law_drawn" (defArgs s_u_law_drawn) (defBody s_u_law_drawn) (defScope s_u_law_drawn) [] [] (He.ga K "_law_drawn") fd) : FnOk P w K mg base CX0 2 (He.ga K "_law_drawn") fd ["rooms", "pool", "begin", "many"] (sp_u_law_drawn K) := by
  refine fn_pq F sc_u_law_drawn ?_ (fun cdv A outer s H E hr => ⟨_, dv_u_law_drawn T O_u_law_scheme cdv A outer s H E hr, ?_⟩)
  · rintro ds ⟨x0, x1, x2, x3, rfl, _⟩
    rfl
  · rintro ds ⟨rs, ps, b, m, rfl, R, hb, hm0, hm1, hl⟩
    have r1 := R.some
    have r2 := R.many
    show ST K E0 (t_u_law_drawn K) [.fr (.list (rs.map PyData.str)), .fr (.list (ps.map PyData.int)), .fr (.int b), .fr (.int m), .no, .no, .no] _
    unfold t_u_law_drawn sp_u_law_scheme
    refine q_asgN (d := .list (([] : List (Str × Str)).map pqD)) (by exact en_lst ea_nil (Nat.zero_le _)) ?_
    refine q_asg (d := .list ((rs ++ sides4).map PyData.str)) (ev_is (ev_N (by walk_at "evn")) (by rw [List.map_append]; rfl)) ?_
    refine q_for (ei_rng1 (by walk_at "ea") (by omega) (by omega)) (fun i ρ => ∃ (ts : List (Str × Str)) (s6 : Sl), ts.length = i ∧ (∀ t ∈ ts, TouchOk rs t) ∧ ρ = [.fr (.list (rs.map PyData.str)), .fr (.list (ps.map PyData.int)), .fr (.int b), .fr (.int m), .ow (.list (ts.map pqD)), .fr (.list ((rs ++ sides4).map PyData.str)), s6]) ⟨[], _, rfl, fun t h => (by cases h), rfl⟩ ?_ ?_
    · rintro i ρ hi ⟨ts, s6, hl2, ht, rfl⟩
      refine ⟨_, _, gt_name, ?_⟩
      have hpi : EV K (tOp (rIx K) (tVar 1) (tOp (rAddU K) (tVar 2) (tVar 6))) [.fr (.list (rs.map PyData.str)), .fr (.list (ps.map PyData.int)), .fr (.int b), .fr (.int m), .ow (.list (ts.map pqD)), .fr (.list ((rs ++ sides4).map PyData.str)), .fr (.int (i : Nat))] (.int (pI ps (b + (i : Nat)))) := ev_op (by walk_at "ev") (by walk_at "ev") (od_ixL (pI_get (by omega) (by omega)))
      generalize pI ps (b + (i : Nat)) = x at hpi
      have hl4 : 0 < (rs ++ sides4).length := by rw [List.length_append]; omega
      obtain ⟨t, hte⟩ : ∃ t : Str × Str, t = (rs.getD (x % ((rs.map PyData.str).length : Nat)).toNat Str.empty, (rs ++ sides4).getD (x / 41 % (((rs ++ sides4).map PyData.str).length : Nat)).toNat Str.empty) := ⟨_, rfl⟩
      have htk : TouchOk rs t := by rw [hte]; exact .inl ⟨pick_mem (by rw [List.length_map]) (by omega), pick_mem (by rw [List.length_map]) hl4⟩
      refine st_append (ds := ts.map pqD) (d := pqD t) (by rfl) (by rw [hte]; exact (ev_tup (ea_cons (ev_op (by walk_at "ev") (ev_op hpi (by walk_at "ev") (od_mod (by rw [List.length_map]; omega))) (od_ixL (pick_at (by rw [List.length_map]) (by omega)))) (ea_cons (ev_op (by walk_at "ev") (ev_op (ev_op hpi (by walk_at "ev") (od_div (by decide))) (by walk_at "ev") (od_mod (by rw [List.length_map]; omega))) (od_ixL (pick_at (by rw [List.length_map]) hl4))) ea_nil)) (by show 2 ≤ sizeLine; rw [sizeLine_eq]; decide))) (by rw [List.length_map]; omega) ?_
      refine ⟨ts ++ [t], _, by rw [List.length_append, hl2]; rfl, fun u h => ?_, by rw [List.map_append (l₁ := ts)]; rfl⟩
      rcases List.mem_append.mp h with h | h
      · exact ht u h
      · rw [List.mem_singleton.mp h]
        exact htk
    · rintro ρ ⟨ts, s6, hl2, ht, rfl⟩
      have htl : ts.length ≤ 15000000 := by omega
      refine q_frz (i := 4) rfl (st_ret (ev_call (by walk_at "ea") ⟨rs, ts, rfl, by omega, htl, rfl⟩) ?_)
      exact ⟨_, rfl, rs, _, _, rfl, rfl, ws_of R ht (Nat.le_trans (pairs_len ts) (by omega)), by rw [srt_len]; exact Nat.le_trans (pairs_len ts) (by omega)⟩
section
variable {rs : List Str} {ps : List (Str × Str)}
theorem mem_below {z y : Str} : y ∈ below ps z ↔ (y, z) ∈ ps := by
  unfold below
  rw [List.mem_map]
  constructor
  · rintro ⟨p, hp, rfl⟩
    obtain ⟨h1, h2⟩ := List.mem_filter.mp hp
    have h2 : p.2 = z := of_decide_eq_true h2
    rw [← h2]
    exact h1
  · exact fun h => ⟨_, List.mem_filter.mpr ⟨h, decide_eq_true rfl⟩, rfl⟩
theorem below_len (ps : List (Str × Str)) (z : Str) : (below ps z).length ≤ ps.length := by
  unfold below
  rw [List.length_map]
  exact List.length_filter_le _ _
theorem below_small (W : WS rs ps) {z y : Str} (h : y ∈ below ps z) : y.length ≤ 9 := by
  rcases List.mem_append.mp (W.one _ (mem_below.mp h)).1 with h | h
  · exact Nat.le_trans (W.good _ h).2 (by decide)
  · rcases side_cases h with rfl | rfl | rfl | rfl <;> decide +kernel
/-- the rooms that have something below them -/
def hasB (rs : List Str) (ps : List (Str × Str)) : List Str := rs.filter fun z => !(below ps z).isEmpty
theorem schL_eq (rs : List Str) (ps : List (Str × Str)) : schL rs ps = ((("rooms" : Str)) :: rs) :: (hasB rs ps).map fun z => (z ++ (":" : Str)) :: below ps z := rfl
theorem hasB_len (rs : List Str) (ps : List (Str × Str)) : (hasB rs ps).length ≤ rs.length := List.length_filter_le _ _
theorem hasB_mem {z : Str} : z ∈ hasB rs ps ↔ z ∈ rs ∧ below ps z ≠ [] := by
  unfold hasB
  rw [List.mem_filter]
  refine and_congr_right fun _ => ?_
  cases below ps z <;> simp
end
theorem below_take {ps : List (Str × Str)} {i : Nat} (hi : i < ps.length) (k : Str) : below (ps.take (i + 1)) k = if k = (ps.getD i (Str.empty, Str.empty)).2 then below (ps.take i) k ++ [(ps.getD i (Str.empty, Str.empty)).1] else below (ps.take i) k := by
  unfold below
  rw [take_one hi (Str.empty, Str.empty), List.filter_append, List.map_append]
  by_cases h : k = (ps.getD i (Str.empty, Str.empty)).2
  · rw [if_pos h, List.filter_cons, if_pos (decide_eq_true h.symm)]
    rfl
  · rw [if_neg h, List.filter_cons, if_neg (by simpa using fun e => h e.symm), List.filter_nil, List.map_nil, List.append_nil]
theorem sch_small {rs : List Str} {ps : List (Str × Str)} (W : WS rs ps) : (schL rs ps).length ≤ 41 ∧ ∀ ws ∈ schL rs ps, (lineT ws).length ≤ 1110 := by
  have hm := W.many
  have hf := W.few
  have hb := hasB_len rs ps
  have key : ∀ ws : List Str, (∀ z ∈ ws, z.length ≤ 9) → ws.length ≤ 111 → (lineT ws).length ≤ 1110 := fun ws h k => by
    have h2 := join_len " " ws h
    have e : ((" " : Str)).length = 1 := by decide +kernel
    rw [e] at h2
    have : ws.length * (9 + 1) ≤ 111 * 10 := Nat.mul_le_mul k (Nat.le_refl _)
    exact Nat.le_trans h2 this
  rw [schL_eq]
  refine ⟨by rw [List.length_cons, List.length_map]; omega, fun ws hw => ?_⟩
  rcases List.mem_cons.mp hw with rfl | hw
  · refine key _ (fun z hz => ?_) (by rw [List.length_cons]; omega)
    rcases List.mem_cons.mp hz with rfl | hz
    · decide +kernel
    · have := (W.good z hz).2
      omega
  · obtain ⟨z, hz, rfl⟩ := List.mem_map.mp hw
    have hr := (hasB_mem.mp hz).1
    have := below_len ps z
    refine key _ (fun y hy => ?_) (by rw [List.length_cons]; omega)
    rcases List.mem_cons.mp hy with rfl | hy
    · rw [len_app, show (":" : Str).length = 1 from by decide +kernel]
      have := (W.good z hr).2
      omega
    · exact below_small W hy
theorem fk_scheme_text (T : Txt K mg)  {fd : FuncData} (F : FunD K "scheme_text" "scheme_text" (defArgs s_scheme_text) (defBody s_scheme_text) (defScope s_scheme_text) [] [] (He.ga K "scheme_text") fd) : FnOk P w K mg base CX0 1 (He.ga K "scheme_text") fd ["scheme"] (sp_scheme_text K) := by
  refine fn_pf F sc_scheme_text ?_ (fun cdv A outer s H E hr => ⟨_, dv_scheme_text T  cdv A outer s H E hr, ?_⟩)
  · rintro ds d ⟨x0, x1, rfl, _⟩
    rfl
  · rintro ds d ⟨rs, ps, rfl, W, rfl⟩
    have h1 := W.some
    have hm := W.many
    have hf := W.few
    refine ST.mono (P := fun o => o = .rt (.str (textT (schL rs ps)))) ?_ fun o h => .inl h
    show ST K E0 (t_scheme_text K) [.fr (schD rs ps), .no, .no, .no, .no, .no, .no, .no] _
    unfold t_scheme_text schD
    refine q_asgG (d := .tuple [.tuple (rs.map PyData.str), .tuple (ps.map pqD)]) (ev_var (by rfl)) (gt_tup rfl (gts_cons gt_name (gts_cons gt_name gts_nil))) ?_
    have hkl : klD (fun i => .inr (rs.getD i Str.empty)) (fun _ => []) rs.length = mkL rs (fun k => below (ps.take 0) k) := klD_mk (g := fun k => below (ps.take 0) k) (fun i _ => rfl) (fun i _ => rfl)
    refine q_asgL (kls := mkL rs fun k => below (ps.take 0) k) (hkl ▸ el_dc (ei_tupS (zs := rs) (ev_var (by rfl))) (by omega) (fun i hi => klD_new W.nodup (fun i _ => rfl) hi) fun i hi => ⟨_, _, gt_name, by simp, et_yes, ev_var (by rfl), en_lst ea_nil (Nat.zero_le _)⟩) (by rfl) ?_
    refine q_for (ei_tupQ (qs := ps) (ev_var (by rfl))) (fun i ρ => ∃ s5 s6 : Sl, ρ = [.fr (.tuple [.tuple (rs.map PyData.str), .tuple (ps.map pqD)]), .fr (.tuple (rs.map PyData.str)), .fr (.tuple (ps.map pqD)), .ne (mkL rs fun k => below (ps.take i) k), .no, s5, s6, .no]) ⟨_, _, rfl⟩ ?_ ?_
    · rintro i ρ hi ⟨s5, s6, rfl⟩
      have k2 := W.snd (getD_mem (z := (Str.empty, Str.empty)) hi)
      have hstep := fun k => below_take hi k
      have hl := below_len (ps.take i) (ps.getD i (Str.empty, Str.empty)).2
      have hl2 : (ps.take i).length ≤ ps.length := by rw [List.length_take]; exact Nat.min_le_right _ _
      generalize ps.getD i (Str.empty, Str.empty) = p at k2 hstep hl
      refine ⟨_, _, gt_tup rfl (gts_cons gt_name (gts_cons gt_name gts_nil)), ?_⟩
      refine st_napp (f := fun k => below (ps.take i) k) (by rfl) (ev_var (by rfl)) k2 W.nodup (ev_var (by rfl)) (by omega) ?_
      refine ⟨.fr (.str p.1), .fr (.str p.2), ?_⟩
      rw [mkL_congr fun k _ => (hstep k).symm]
      rfl
    rintro ρ ⟨s5, s6, rfl⟩
    rw [List.take_length]
    refine q_frzN (n := 3) rfl ?_
    have hbl : ∀ z, (below ps z).length ≤ 110 := fun z => Nat.le_trans (below_len ps z) hf
    have hbw : ∀ {z y}, y ∈ below ps z → y.length ≤ 9 := fun h => below_small W h
    have sp1 : (" " : Str).length ≤ 1 := by decide +kernel
    have nl1 : ("\n" : Str).length ≤ 1 := by decide +kernel
    have hne : rs ≠ [] := fun e => by rw [e] at h1; exact absurd h1 (by decide)
    have hrl : ∀ z ∈ rs, z.length ≤ 9 := fun z hz => by have := (W.good z hz).2; omega
    have fitR := join_fit (a := " ") hrl hm sp1 (by decide)
    have jl : ∀ l : List Str, (∀ z ∈ l, z.length ≤ 9) → l.length ≤ 110 → (Txt.join " " l).length ≤ 1100 := fun l h k => by
      have h2 := join_len " " l h
      have : l.length * (9 + (" " : Str).length) ≤ 110 * 10 := Nat.mul_le_mul k (by omega)
      omega
    have e0 : ("rooms " : Str) ++ Txt.join " " rs = lineT ((("rooms" : Str)) :: rs) := by
      unfold lineT
      rw [join_cons " " "rooms" hne]
      have : ("rooms " : Str) = ("rooms" : Str) ++ (" " : Str) := by decide +kernel
      rw [this]
    let tl : Nat → List (List Str) := fun i => ((("rooms" : Str)) :: rs) :: (hasB (rs.take i) ps).map fun z => (z ++ (":" : Str)) :: below ps z
    refine q_asgN (d := .list (((tl 0).map lineT).map PyData.str)) (en_is (en_lst (ea_cons (ev_op ev_str (ev_joinT ev_str (ev_var (by rfl)) fitR) (od_addS ?_)) ea_nil) (by show 1 ≤ sizeLine; rw [sizeLine_eq]; decide)) ?_) ?_
    · have := jl rs hrl (by omega)
      have e6 : ("rooms " : Str).length = 6 := by decide +kernel
      rw [e6, sizeLine_eq]
      omega
    · show PyData.list [.str (("rooms " : Str) ++ Txt.join " " rs)] = PyData.list [.str (lineT ((("rooms" : Str)) :: rs))]
      rw [e0]
    have step : ∀ i, i < rs.length → tl (i + 1) = tl i ++ (if (below ps (rs.getD i Str.empty)).isEmpty = true then [] else [(rs.getD i Str.empty ++ (":" : Str)) :: below ps (rs.getD i Str.empty)]) := fun i hi => by
      show _ :: _ = (_ :: _) ++ _
      rw [List.cons_append]
      congr 1
      unfold hasB
      rw [take_one hi Str.empty, List.filter_append, List.map_append]
      congr 1
      cases hb : (below ps (rs.getD i Str.empty)).isEmpty with
      | true => rw [List.filter_cons, if_neg (by rw [hb]; decide), if_pos rfl]; rfl
      | false => rw [List.filter_cons, if_pos (by rw [hb]; rfl), if_neg (by decide)]; rfl
    have tll : ∀ i, (tl i).length ≤ 41 := fun i => by
      show ((hasB (rs.take i) ps).map _).length + 1 ≤ 41
      rw [List.length_map]
      have h2 := hasB_len (rs.take i) ps
      have h3 : (rs.take i).length ≤ rs.length := by rw [List.length_take]; exact Nat.min_le_right _ _
      omega
    refine q_for (ei_tupS (zs := rs) (ev_var (by rfl))) (fun i ρ => ∃ s4 : Sl, ρ = [.fr (.tuple [.tuple (rs.map PyData.str), .tuple (ps.map pqD)]), .fr (.tuple (rs.map PyData.str)), .fr (.tuple (ps.map pqD)), .fr (neD (mkL rs (below ps))), s4, s5, s6, .ow (.list (((tl i).map lineT).map PyData.str))]) ⟨_, rfl⟩ ?_ ?_
    · rintro i ρ hi ⟨s4, rfl⟩
      have hz := getD_mem (z := Str.empty) hi
      rw [step i hi]
      have hzl := hrl _ hz
      generalize rs.getD i Str.empty = z at hz hzl
      refine ⟨_, _, gt_name, ?_⟩
      have hg : ∀ {ρ : List Sl}, ρ[3]? = some (.fr (neD (mkL rs (below ps)))) → ρ[4]? = some (.fr (.str z)) → EV K (tDGet (tVar 3) (tVar 4)) ρ (.list ((below ps z).map PyData.str)) := fun h3 h4 => ev_nget (ev_var h3) (ev_var h4) hz
      have ee : ((below ps z).map PyData.str).isEmpty = (below ps z).isEmpty := by cases below ps z <;> rfl
      refine st_if (b := !(below ps z).isEmpty) (et_is (et_tr (hg (by rfl) (by rfl)) rfl fun s e => nomatch e) (by show (!((below ps z).map PyData.str).isEmpty) = _; rw [ee])) (fun hb => ?_) (fun hb => st_next ?_)
      · have hb' : (below ps z).isEmpty = false := by revert hb; cases (below ps z).isEmpty <;> decide
        rw [hb', if_neg (by decide)]
        have hbn : below ps z ≠ [] := fun e => by rw [e] at hb'; cases hb'
        have hj := jl (below ps z) (fun y hy => hbw hy) (hbl z)
        have e2 : (": " : Str).length = 2 := by decide +kernel
        have e1 : z ++ (": " : Str) ++ Txt.join " " (below ps z) = lineT ((z ++ (":" : Str)) :: below ps z) := by
          unfold lineT
          rw [join_cons " " (z ++ ":") hbn]
          have : (": " : Str) = (":" : Str) ++ (" " : Str) := by decide +kernel
          rw [this, ← app_assoc]
        refine st_append (ds := ((tl i).map lineT).map PyData.str) (d := .str (lineT ((z ++ (":" : Str)) :: below ps z))) (by rfl) (ev_is (ev_op (ev_op (ev_var (by rfl)) ev_str (od_addS (by rw [e2, sizeLine_eq]; omega))) (ev_joinL ev_str (hg (by rfl) (by rfl)) (join_fit (a := " ") (m := 9) (n := 110) (fun y hy => hbw hy) (hbl z) sp1 (by decide))) (od_addS (by rw [len_app, e2, sizeLine_eq]; omega))) (congrArg PyData.str e1)) (by rw [List.length_map, List.length_map]; have := tll i; omega) ?_
        refine ⟨.fr (.str z), ?_⟩
        rw [List.map_append, List.map_append]
        rfl
      · have hb' : (below ps z).isEmpty = true := by revert hb; cases (below ps z).isEmpty <;> decide
        rw [hb', if_pos rfl, List.append_nil]
        exact ⟨_, rfl⟩
    rintro ρ ⟨s4, rfl⟩
    refine q_frz (i := 7) rfl ?_
    have el : tl rs.length = schL rs ps := by
      show _ :: _ = _ :: _
      rw [List.take_length]
      rfl
    rw [el]
    refine st_ret (ev_joinL (ys := (schL rs ps).map lineT) ev_str (ev_var (by rfl)) (join_fit (m := 1110) (n := 41) (fun y hy => ?_) (by rw [List.length_map]; exact (sch_small W).1) nl1 (by decide))) (by rfl)
    obtain ⟨ws, hw, rfl⟩ := List.mem_map.mp hy
    exact (sch_small W).2 ws hw
theorem ev_s1 {ρ : List Sl} {te : TE} {rs : List Str} {ps : List (Str × Str)} (h : EV K te ρ (schD rs ps)) : EV K (tOp (rIx K) te (tC (.int 1))) ρ (.tuple (ps.map pqD)) := ev_op h ev_int (od_ixT rfl)
theorem ev_s0 {ρ : List Sl} {te : TE} {rs : List Str} {ps : List (Str × Str)} (h : EV K te ρ (schD rs ps)) : EV K (tOp (rIx K) te (tC (.int 0))) ρ (.tuple (rs.map PyData.str)) := ev_op h ev_int (od_ixT rfl)
theorem below_lc (ps : List (Str × Str)) (z : Str) : lcD ps.length (fun i => (fun p : Str × Str => decide (p.2 = z)) (ps.getD i (Str.empty, Str.empty))) (fun i => PyData.str (ps.getD i (Str.empty, Str.empty)).1) = (below ps z).map PyData.str := by
  refine (lc_filterA (p := fun p : Str × Str => decide (p.2 = z)) (h := fun p => PyData.str p.1) (Str.empty, Str.empty) ps).trans ?_
  unfold below
  rw [List.map_map]
  rfl
theorem fk_u_law_text (T : Txt K mg)  {fd : FuncData} (F : FunD K "_law_text" "_law_text" (defArgs s_u_law_text) (defBody s_u_law_text) (defScope s_u_law_text) [] [] (He.ga K "_law_text") fd) : FnOk P w K mg base CX0 1 (He.ga K "_law_text") fd ["scheme"] (sp_u_law_text K) := by
  refine fn_pf F sc_u_law_text ?_ (fun cdv A outer s H E hr => ⟨_, dv_u_law_text T  cdv A outer s H E hr, ?_⟩)
  · rintro ds d ⟨x0, x1, rfl, _⟩
    rfl
  · rintro ds d ⟨rs, ps, rfl, W, rfl⟩
    have hm := W.many
    have hf := W.few
    have h1 := W.some
    refine ST.mono (P := fun o => o = .rt (.str (textT (schL rs ps)))) ?_ fun o h => .inl h
    show ST K E0 (t_u_law_text K) [.fr (schD rs ps), .no, .no, .no, .no, .no] _
    unfold t_u_law_text
    have hbl : ∀ z, (below ps z).length ≤ 110 := fun z => Nat.le_trans (below_len ps z) hf
    have hbw : ∀ {z y}, y ∈ below ps z → y.length ≤ 9 := fun h => below_small W h
    have sp1 : (" " : Str).length ≤ 1 := by decide +kernel
    have nl1 : ("\n" : Str).length ≤ 1 := by decide +kernel
    have hne : rs ≠ [] := fun e => by rw [e] at h1; exact absurd h1 (by decide)
    have hrl : ∀ z ∈ rs, z.length ≤ 9 := fun z hz => by have := (W.good z hz).2; omega
    have fitR := join_fit (a := " ") hrl hm sp1 (by decide)
    have jl : ∀ l : List Str, (∀ z ∈ l, z.length ≤ 9) → l.length ≤ 110 → (Txt.join " " l).length ≤ 1100 := fun l h k => by
      have h2 := join_len " " l h
      have : l.length * (9 + (" " : Str).length) ≤ 110 * 10 := Nat.mul_le_mul k (by omega)
      omega
    have e0 : ("rooms " : Str) ++ Txt.join " " rs = lineT ((("rooms" : Str)) :: rs) := by
      unfold lineT
      rw [join_cons " " "rooms" hne]
      have : ("rooms " : Str) = ("rooms" : Str) ++ (" " : Str) := by decide +kernel
      rw [this]
    let tl : Nat → List (List Str) := fun i => ((("rooms" : Str)) :: rs) :: (hasB (rs.take i) ps).map fun z => (z ++ (":" : Str)) :: below ps z
    refine q_asgN (d := .list (((tl 0).map lineT).map PyData.str)) (en_is (en_lst (ea_cons (ev_op ev_str (ev_joinL ev_str (ev_N (en_cb (ea_cons (ev_s0 (ev_var (by rfl))) ea_nil) cn_listT)) fitR) (od_addS ?_)) ea_nil) (by show 1 ≤ sizeLine; rw [sizeLine_eq]; decide)) ?_) ?_
    · have := jl rs hrl (by omega)
      have e6 : ("rooms " : Str).length = 6 := by decide +kernel
      rw [e6, sizeLine_eq]
      omega
    · show PyData.list [.str (("rooms " : Str) ++ Txt.join " " rs)] = PyData.list [.str (lineT ((("rooms" : Str)) :: rs))]
      rw [e0]
    have step : ∀ i, i < rs.length → tl (i + 1) = tl i ++ (if (below ps (rs.getD i Str.empty)).isEmpty = true then [] else [(rs.getD i Str.empty ++ (":" : Str)) :: below ps (rs.getD i Str.empty)]) := fun i hi => by
      show _ :: _ = (_ :: _) ++ _
      rw [List.cons_append]
      congr 1
      unfold hasB
      rw [take_one hi Str.empty, List.filter_append, List.map_append]
      congr 1
      cases hb : (below ps (rs.getD i Str.empty)).isEmpty with
      | true => rw [List.filter_cons, if_neg (by rw [hb]; decide), if_pos rfl]; rfl
      | false => rw [List.filter_cons, if_pos (by rw [hb]; rfl), if_neg (by decide)]; rfl
    have tll : ∀ i, (tl i).length ≤ 41 := fun i => by
      show ((hasB (rs.take i) ps).map _).length + 1 ≤ 41
      rw [List.length_map]
      have h2 := hasB_len (rs.take i) ps
      have h3 : (rs.take i).length ≤ rs.length := by rw [List.length_take]; exact Nat.min_le_right _ _
      omega
    refine q_for (ei_tupS (zs := rs) (ev_s0 (ev_var (by rfl)))) (fun i ρ => ∃ s2 s3 s4 s5 : Sl, ρ = [.fr (schD rs ps), .ow (.list (((tl i).map lineT).map PyData.str)), s2, s3, s4, s5]) ⟨_, _, _, _, rfl⟩ ?_ ?_
    · rintro i ρ hi ⟨s2, s3, s4, s5, rfl⟩
      have hz := getD_mem (z := Str.empty) hi
      rw [step i hi]
      have hzl := hrl _ hz
      generalize rs.getD i Str.empty = z at hz hzl
      refine ⟨_, _, gt_name, ?_⟩
      refine q_asgN (d := .list ((below ps z).map PyData.str)) (en_is (en_lc (n := ps.length) (b := fun i => (fun p : Str × Str => decide (p.2 = z)) (ps.getD i (Str.empty, Str.empty))) (f := fun i => PyData.str (ps.getD i (Str.empty, Str.empty)).1) (ei_tupQ (ev_s1 (ev_var (by rfl)))) (by omega) fun i hi => ⟨_, _, gt_tup rfl (gts_cons gt_name (gts_cons gt_name gts_nil)), by simp, et_test (ev_op (ev_var (by rfl)) (ev_var (by rfl)) od_eqS), fun _ => ev_var (by rfl)⟩) (congrArg PyData.list (below_lc ps z))) ?_
      refine q_frz (i := 3) rfl ?_
      refine st_if (b := !(below ps z).isEmpty) (et_is (et_test (ev_op (ev_cb (ea_cons (ev_var (d := .list ((below ps z).map PyData.str)) (by rfl)) ea_nil) cd_lenL) ev_int od_cmpI)) (by
        rw [List.length_map]
        cases below ps z with
        | nil => rfl
        | cons a r => exact decide_eq_true (by rw [List.length_cons]; omega))) (fun hb => ?_) (fun hb => st_next ?_)
      · have hb' : (below ps z).isEmpty = false := by revert hb; cases (below ps z).isEmpty <;> decide
        rw [hb', if_neg (by decide)]
        have hbn : below ps z ≠ [] := fun e => by rw [e] at hb'; cases hb'
        have hj := jl (below ps z) (fun y hy => hbw hy) (hbl z)
        have e2 : (": " : Str).length = 2 := by decide +kernel
        have e1 : z ++ (": " : Str) ++ Txt.join " " (below ps z) = lineT ((z ++ (":" : Str)) :: below ps z) := by
          unfold lineT
          rw [join_cons " " (z ++ ":") hbn]
          have : (": " : Str) = (":" : Str) ++ (" " : Str) := by decide +kernel
          rw [this, ← app_assoc]
        refine st_append (ds := ((tl i).map lineT).map PyData.str) (d := .str (lineT ((z ++ (":" : Str)) :: below ps z))) (by rfl) (ev_is (ev_op (ev_op (ev_var (by rfl)) ev_str (od_addS (by rw [e2, sizeLine_eq]; omega))) (ev_joinL ev_str (ev_var (by rfl)) (join_fit (a := " ") (m := 9) (n := 110) (fun y hy => hbw hy) (hbl z) sp1 (by decide))) (od_addS (by rw [len_app, e2, sizeLine_eq]; omega))) (congrArg PyData.str e1)) (by rw [List.length_map, List.length_map]; have := tll i; omega) ?_
        refine ⟨.fr (.str z), .fr (.list ((below ps z).map PyData.str)), s4, s5, ?_⟩
        rw [List.map_append, List.map_append]
        rfl
      · have hb' : (below ps z).isEmpty = true := by revert hb; cases (below ps z).isEmpty <;> decide
        rw [hb', if_pos rfl, List.append_nil]
        exact ⟨_, _, _, _, rfl⟩
    rintro ρ ⟨s2, s3, s4, s5, rfl⟩
    refine q_frz (i := 1) rfl ?_
    have el : tl rs.length = schL rs ps := by
      show _ :: _ = _ :: _
      rw [List.take_length]
      rfl
    rw [el]
    refine st_ret (ev_joinL (ys := (schL rs ps).map lineT) ev_str (ev_var (by rfl)) (join_fit (m := 1110) (n := 41) (fun y hy => ?_) (by rw [List.length_map]; exact (sch_small W).1) nl1 (by decide))) (by rfl)
    obtain ⟨ws, hw, rfl⟩ := List.mem_map.mp hy
    exact (sch_small W).2 ws hw
theorem gap_len (n : Int) (h : n ≤ 2) : (spcS n).length ≤ 2 := by
  unfold spcS
  rw [len_rep, show (" " : Str).length = 1 from by decide +kernel]
  omega
theorem ev_spc {ρ : List Sl} {tb : TE} {n : Int} (h : EV K tb ρ (.int n)) (h1 : 0 ≤ n) (h2 : n ≤ 2) : EV K (tOp rMulU (tC (.str " ")) tb) ρ (.str (spcS n)) := ev_op ev_str h (od_mulS (by omega) (by omega) (by rw [show (" " : Str).length = 1 from by decide +kernel, sizeLine_eq]; omega))
theorem d7 (p k : Int) (m : Int) (hm : 0 < m) (hk : m ≤ 9) : 0 ≤ p % m / 7 ∧ p % m / 7 ≤ 1 := by
  have h1 := Int.emod_nonneg p (show m ≠ 0 by omega)
  have h2 := Int.emod_lt_of_pos p hm
  omega
theorem fk_u_law_spaced (T : Txt K mg)  {fd : FuncData} (F : FunD K "_law_spaced" "_law_spaced" (defArgs s_u_law_spaced) (defBody s_u_law_spaced) (defScope s_u_law_spaced) [] [] (He.ga K "_law_spaced") fd) : FnOk P w K mg base CX0 1 (He.ga K "_law_spaced") fd ["words", "pick"] (sp_u_law_spaced K) := by
  refine fn_pf F sc_u_law_spaced ?_ (fun cdv A outer s H E hr => ⟨_, dv_u_law_spaced T  cdv A outer s H E hr, ?_⟩)
  · rintro ds d ⟨x0, x1, rfl, _⟩
    rfl
  · rintro ds d ⟨ws, p, rfl, hl, hw, rfl⟩
    refine ST.mono (P := fun o => o = .rt (.str (spT ws p))) ?_ fun o h => .inl h
    show ST K E0 (t_u_law_spaced K) [.fr (.list (ws.map PyData.str)), .fr (.int p), .no] _
    unfold t_u_law_spaced
    have a1 := Int.emod_nonneg p (show (7 : Int) ≠ 0 by decide)
    have a2 := Int.emod_lt_of_pos p (show (0 : Int) < 7 by decide)
    obtain ⟨b1, b2⟩ := d7 (p / 7) 0 9 (by decide) (by decide)
    obtain ⟨c1, c2⟩ := d7 (p / 63) 0 9 (by decide) (by decide)
    refine q_asg (d := .str (spcS (1 + p % 7 / 5))) (ev_spc (ev_op ev_int (ev_op (ev_op (ev_var (by rfl)) ev_int (od_mod (by decide))) ev_int (od_div (by decide))) od_addI) (by omega) (by omega)) ?_
    have g := gap_len (1 + p % 7 / 5) (by omega)
    have g1 := gap_len (p / 7 % 9 / 7) (by omega)
    have g2 := gap_len (p / 63 % 9 / 7) (by omega)
    have hs := sum_le hw
    have h2 : ws.length * 9 ≤ 1000 * 9 := Nat.mul_le_mul hl (Nat.le_refl _)
    have h3 : ws.length * (spcS (1 + p % 7 / 5)).length ≤ 1000 * 2 := Nat.mul_le_mul hl g
    have hj := join_len (spcS (1 + p % 7 / 5)) ws hw
    have h4 : ws.length * (9 + (spcS (1 + p % 7 / 5)).length) ≤ 1000 * 11 := Nat.mul_le_mul hl (by omega)
    have sp := fun {ρ : List Sl} (h : ρ[1]? = some (.fr (.int p))) (k : Int) (hk : 0 < k ∧ k < 1073741824) => ev_op (ev_op (ev_op (ev_var h) (ev_int (K := K) (i := k)) (od_div (i := p) hk)) (ev_int (i := 9)) (od_mod (by decide))) (ev_int (i := 7)) (od_div (by decide))
    exact st_ret (ev_op (ev_op (ev_spc (sp (by rfl) 7 (by decide)) b1 (by omega)) (ev_joinL (ev_var (by rfl)) (ev_var (by rfl)) (by omega)) (od_addS (by rw [sizeLine_eq]; omega))) (ev_spc (sp (by rfl) 63 (by decide)) c1 (by omega)) (od_addS (by rw [len_app, sizeLine_eq]; omega))) (by rfl)
theorem cut_take {ls : List Str} {n : Nat} : cutDs (ls.map PyData.str) none (some ((n : Nat) : Int)) = (ls.take n).map PyData.str := by
  unfold cutDs
  rw [HT.sIx_none, HT.sIx_nat, List.drop_zero, Nat.sub_zero, List.map_take, List.length_map]
  by_cases h : n ≤ ls.length
  · rw [Nat.min_eq_left h]
  · rw [Nat.min_eq_right (by omega), List.take_of_length_le (by rw [List.length_map]; omega), List.take_of_length_le (by rw [List.length_map]; omega)]
theorem cut_drop {ls : List Str} {n : Nat} : cutDs (ls.map PyData.str) (some ((n : Nat) : Int)) none = (ls.drop n).map PyData.str := by
  unfold cutDs
  rw [HT.sIx_none, HT.sIx_nat, List.map_drop]
  have e : (ls.map PyData.str).drop (min n (ls.map PyData.str).length) = (ls.map PyData.str).drop n := by
    by_cases h : n ≤ (ls.map PyData.str).length
    · rw [Nat.min_eq_left h]
    · rw [Nat.min_eq_right (by omega), List.drop_length, List.drop_eq_nil_of_le (by omega)]
  rw [e]
  refine List.take_of_length_le ?_
  rw [List.length_drop]
  omega
theorem fk_u_law_put (T : Txt K mg)  {fd : FuncData} (F : FunD K "_law_put" "_law_put" (defArgs s_u_law_put) (defBody s_u_law_put) (defScope s_u_law_put) [] [] (He.ga K "_law_put") fd) : FnOk P w K mg base CX0 1 (He.ga K "_law_put") fd ["lines", "at", "line"] (sp_u_law_put K) := by
  refine fn_pf F sc_u_law_put ?_ (fun cdv A outer s H E hr => ⟨_, dv_u_law_put T  cdv A outer s H E hr, ?_⟩)
  · rintro ds d ⟨x0, x1, x2, rfl, _⟩
    rfl
  · rintro ds d ⟨ls, n, l, rfl, hl, rfl⟩
    refine ST.mono (P := fun o => o = .rt (.list ((putL ls n l).map PyData.str))) ?_ fun o h => .inl h
    show ST K E0 (t_u_law_put K) [.fr (.list (ls.map PyData.str)), .fr (.int (n : Nat)), .fr (.str l)] _
    unfold t_u_law_put
    have h1 : (ls.take n).length ≤ ls.length := by rw [List.length_take]; exact Nat.min_le_right _ _
    have h2 : (ls.drop n).length ≤ ls.length := by rw [List.length_drop]; omega
    refine st_ret (ev_N (en_op (ev_N (en_op (ev_N (en_is (en_slL (ev_var (by rfl)) eo_none (eo_some (ev_var (by rfl)))) (congrArg PyData.list (cut_take (ls := ls) (n := n))))) (ev_N (en_lst (ea_cons (ev_var (d := .str l) (by rfl)) ea_nil) (by show 1 ≤ sizeLine; rw [sizeLine_eq]; decide))) (on_addL (by rw [List.length_map, sizeLine_eq]; show _ + 1 ≤ _; omega)))) (ev_N (en_is (en_slL (ev_var (by rfl)) (eo_some (ev_var (by rfl))) eo_none) (congrArg PyData.list (cut_drop (ls := ls) (n := n))))) (on_addL (by rw [List.length_append, List.length_map, List.length_map, sizeLine_eq]; show _ + 1 + _ ≤ _; omega)))) ?_
    unfold putL
    rw [List.map_append, List.map_append]
    rfl
theorem len4 : ((("ENWS" : Str).cps.toList.length : Nat) : Int) = 4 := by decide +kernel
/-- short texts without a line's end -/
def SM (k : Nat) (z : Str) : Prop := 10 ∉ z.cps.toList ∧ z.length ≤ 10 * k
theorem SM.app {i j : Nat} {a b : Str} (h : SM i a) (k : SM j b) : SM (i + j) (a ++ b) := ⟨fun m => by
  rw [app_list] at m
  rcases List.mem_append.mp m with m | m
  · exact h.1 m
  · exact k.1 m, by rw [len_app]; have := h.2; have := k.2; omega⟩
theorem SM.line {k : Nat} {z : Str} (h : SM k z) (hk : k ≤ 6) : LineP z := ⟨h.1, by have := h.2; omega⟩
theorem name_no10 {z : Str} (h : goodS z) : 10 ∉ z.cps.toList := fun m => by
  unfold goodS at h
  have k : ∀ x ∈ z.cps.toList, x ∈ sL.cps.toList ∨ x ∈ sF.cps.toList := fun x hx => by
    cases ez : z.cps.toList with
    | nil => rw [ez] at hx; cases hx
    | cons c r =>
      rw [ez] at hx h
      rcases List.mem_cons.mp hx with rfl | hx
      · exact .inl h.1
      · exact h.2 x hx
  exact absurd (k 10 m) (by decide +kernel)
theorem SM.name {z : Str} (h : NameP z) : SM 1 z := ⟨name_no10 h.1, by have := h.2; omega⟩
theorem SM.side (i : Int) : SM 1 (chS "ENWS" (i % 4)) := by
  have key : ∀ k : Nat, k < 4 → ("ENWS" : Str).cps.toList.getD k 0 ≠ 10 := by decide +kernel
  refine ⟨?_, by show 1 ≤ 10; decide⟩
  rw [chS_list, List.mem_singleton]
  exact fun e => key _ (mod_nat (p := i) (m := 4) (k := 4) rfl (by decide)) e.symm
section
variable {ρ : List Sl}
def ES (K : PySem.W.Frag) (ρ : List Sl) (k : Nat) (te : TE) : Prop := ∃ z, SM k z ∧ EV K te ρ (.str z)
def EL (K : PySem.W.Frag) (ρ : List Sl) (n : Nat) (t : TA) : Prop := ∃ ls : List Str, ls.length = n ∧ (∀ l ∈ ls, LineP l) ∧ EA K t ρ (ls.map PyData.str)
theorem es_lit {z : Str} (h : (decide (10 ∉ z.cps.toList) && decide (z.length ≤ 10)) = true) : ES K ρ 1 (tC (.str z)) := by
  rw [Bool.and_eq_true, decide_eq_true_eq, decide_eq_true_eq] at h
  exact ⟨z, h, ev_str⟩
theorem es_lit2 {z : Str} (h : (decide (10 ∉ z.cps.toList) && decide (z.length ≤ 20)) = true) : ES K ρ 2 (tC (.str z)) := by
  rw [Bool.and_eq_true, decide_eq_true_eq, decide_eq_true_eq] at h
  exact ⟨z, h, ev_str⟩
theorem es_var {n : Nat} {z : Str} (h : ρ[n]? = some (.fr (.str z))) (hz : SM 1 z) : ES K ρ 1 (tVar n) := ⟨z, hz, ev_var h⟩
theorem es_add {i j : Nat} {ta tb : TE} (h : ES K ρ i ta) (k : ES K ρ j tb) (hk : i + j ≤ 9) : ES K ρ (i + j) (tOp (rAddU K) ta tb) := by
  obtain ⟨a, h1, h2⟩ := h
  obtain ⟨b, k1, k2⟩ := k
  exact ⟨a ++ b, h1.app k1, ev_op h2 k2 (od_addS (by have := h1.2; have := k1.2; rw [sizeLine_eq]; omega))⟩
theorem el_nil : EL K ρ 0 tNil := ⟨[], rfl, fun l h => (by cases h), ea_nil⟩
theorem el_cons {k n : Nat} {te : TE} {t : TA} (h : ES K ρ k te) (hk : k ≤ 6) (r : EL K ρ n t) : EL K ρ (n + 1) (tCons te t) := by
  obtain ⟨z, h1, h2⟩ := h
  obtain ⟨ls, r1, r2, r3⟩ := r
  refine ⟨z :: ls, by rw [List.length_cons, r1], fun l hl => ?_, ea_cons h2 r3⟩
  rcases List.mem_cons.mp hl with rfl | hl
  · exact h1.line hk
  · exact r2 l hl
variable {t : TA} {u : TS} {Ex : XK} {P : Oc → Prop}
theorem q_asgEL {n i : Nat} (h : EL K ρ n t) (hn : n ≤ 40) (q : ∀ ls : List Str, ls.length = n → (∀ l ∈ ls, LineP l) → ST K Ex u (ρ.set i (.ow (.list (ls.map PyData.str)))) P) : ST K Ex (tSeq (tAsg (tLst t) (gName i)) u) ρ P := by
  obtain ⟨ls, h1, h2, h3⟩ := h
  exact q_asgN (en_lst h3 (by rw [List.length_map, sizeLine_eq]; omega)) (q ls h1 h2)
theorem q_augEL {n i : Nat} {l0 : List Str} (hi : ρ[i]? = some (.ow (.list (l0.map PyData.str)))) (h0 : l0.length ≤ 100) (h : EL K ρ n t) (hn : n ≤ 40) (q : ∀ ls : List Str, ls.length = n → (∀ l ∈ ls, LineP l) → ST K Ex u (ρ.set i (.ow (.list ((l0 ++ ls).map PyData.str)))) P) : ST K Ex (tSeq (tAug i (tLst t) rIAddU) u) ρ P := by
  obtain ⟨ls, h1, h2, h3⟩ := h
  refine q_augO hi (ev_N (en_lst h3 (by rw [List.length_map, sizeLine_eq]; omega))) (by rw [List.length_map, List.length_map]; omega) ?_
  rw [← List.map_append]
  exact q ls h1 h2
theorem st_retEL {n i : Nat} {l0 : List Str} (hi : ρ[i]? = some (.ow (.list (l0.map PyData.str)))) (h0 : l0.length ≤ 100) (h : EL K (ρ.set i (.fr (.list (l0.map PyData.str)))) n t) (hn : n ≤ 40) (q : ∀ ls : List Str, ls.length = n → (∀ l ∈ ls, LineP l) → P (.rt (.list ((l0 ++ ls).map PyData.str)))) : ST K Ex (tRet (tOp (rAddU K) (tVar i) (tLst t))) ρ P := by
  obtain ⟨ls, h1, h2, h3⟩ := h
  have hl : i < ρ.length := (List.getElem?_eq_some_iff.mp hi).1
  refine q_frz hi (st_ret (ev_N (en_op (ev_var (d := .list (l0.map PyData.str)) (by rw [List.getElem?_set_self hl])) (ev_N (en_lst h3 (by rw [List.length_map, sizeLine_eq]; omega))) (on_addL (by rw [List.length_map, List.length_map, sizeLine_eq]; omega)))) ?_)
  rw [← List.map_append]
  exact q ls h1 h2
end
local macro_rules | `(tactic| walk_at "es") => `(tactic| first
  | exact es_var (by rfl) (by assumption)
  | exact es_lit (by decide +kernel)
  | exact es_lit2 (by decide +kernel)
  | (apply es_add; (· walk_at "es"); (· walk_at "es"); (· decide)))
local macro_rules | `(tactic| walk_at "el") => `(tactic| first
  | exact el_nil
  | (apply el_cons; (· walk_at "es"); (· decide); (· walk_at "el")))
theorem mem_app {P : Str → Prop} {a b : List Str} (h : ∀ l ∈ a, P l) (k : ∀ l ∈ b, P l) : ∀ l ∈ a ++ b, P l := fun l m => (List.mem_append.mp m).elim (h l) (k l)
theorem fk_u_law_wrong_lines (T : Txt K mg)  {fd : FuncData} (F : FunD K "_law_wrong_lines" "_law_wrong_lines" (defArgs s_u_law_wrong_lines) (defBody s_u_law_wrong_lines) (defScope s_u_law_wrong_lines) [] [] (He.ga K "_law_wrong_lines") fd) : FnOk P w K mg base CX0 1 (He.ga K "_law_wrong_lines") fd ["rooms", "pick"] (sp_u_law_wrong_lines K) := by
  refine fn_pq F sc_u_law_wrong_lines ?_ (fun cdv A outer s H E hr => ⟨_, dv_u_law_wrong_lines T  cdv A outer s H E hr, ?_⟩)
  · rintro ds ⟨x0, x1, rfl, _⟩
    rfl
  · rintro ds ⟨rs, p, rfl, R⟩
    have r1 := R.some
    have r2 := R.many
    show ST K E0 (t_u_law_wrong_lines K) [.fr (.list (rs.map PyData.str)), .fr (.int p), .no, .no, .no, .no] _
    unfold t_u_law_wrong_lines
    have pk : ∀ (x : Int), SM 1 (rs.getD (x % ((rs.map PyData.str).length : Nat)).toNat Str.empty) := fun x => SM.name (R.good _ (pick_mem (by rw [List.length_map]) (by omega)))
    refine q_asg (d := .str (rs.getD (p % ((rs.map PyData.str).length : Nat)).toNat Str.empty)) (ev_op (ev_var (by rfl)) (ev_op (ev_var (by rfl)) (ev_cb (ea_cons (ev_var (d := .list (rs.map PyData.str)) (by rfl)) ea_nil) cd_lenL) (od_mod (by rw [List.length_map]; omega))) (od_ixL (pick_at (by rw [List.length_map]) (by omega)))) ?_
    refine q_asg (d := .str (chS "ENWS" (p / 41 % 4))) (ev_op ev_str (ev_op (ev_op (ev_var (by rfl)) ev_int (od_div (by decide))) ev_int (od_mod (by decide))) (od_ixS (by decide) (ch_at (Int.emod_nonneg _ (by decide)) (by rw [len4]; exact Int.emod_lt_of_pos _ (by decide))))) ?_
    refine q_asg (d := .str (rs.getD (p / 164 % ((rs.map PyData.str).length : Nat)).toNat Str.empty)) (ev_op (ev_var (by rfl)) (ev_op (ev_op (ev_var (by rfl)) ev_int (od_div (by decide))) (ev_cb (ea_cons (ev_var (d := .list (rs.map PyData.str)) (by rfl)) ea_nil) cd_lenL) (od_mod (by rw [List.length_map]; omega))) (od_ixL (pick_at (by rw [List.length_map]) (by omega)))) ?_
    have h1 := pk p
    have h2 := SM.side (p / 41)
    have h3 := pk (p / 164)
    generalize rs.getD (p % ((rs.map PyData.str).length : Nat)).toNat Str.empty = one at h1
    generalize chS "ENWS" (p / 41 % 4) = side at h2
    generalize rs.getD (p / 164 % ((rs.map PyData.str).length : Nat)).toNat Str.empty = other at h3
    refine q_asgEL (n := 7) (by walk_at "el") (by decide) fun l1 n1 p1 => ?_
    refine q_augEL (i := 5) (l0 := l1) (by rfl) (by omega) (n := 6) (by walk_at "el") (by decide) fun l2 n2 p2 => ?_
    refine q_augEL (i := 5) (l0 := l1 ++ l2) (by rfl) (by rw [List.length_append]; omega) (n := 5) (by walk_at "el") (by decide) fun l3 n3 p3 => ?_
    refine q_augEL (i := 5) (l0 := l1 ++ l2 ++ l3) (by rfl) (by rw [List.length_append, List.length_append]; omega) (n := 5) (by walk_at "el") (by decide) fun l4 n4 p4 => ?_
    refine st_retEL (i := 5) (l0 := l1 ++ l2 ++ l3 ++ l4) (by rfl) (by rw [List.length_append, List.length_append, List.length_append]; omega) (n := 4) (by walk_at "el") (by decide) fun l5 n5 p5 => ?_
    exact ⟨_, rfl, l1 ++ l2 ++ l3 ++ l4 ++ l5, rfl, by rw [List.length_append, List.length_append, List.length_append, List.length_append]; omega, by rw [List.length_append, List.length_append, List.length_append, List.length_append]; omega, mem_app (mem_app (mem_app (mem_app p1 p2) p3) p4) p5⟩
theorem fk_u_law_wrong_heads (T : Txt K mg)  {fd : FuncData} (F : FunD K "_law_wrong_heads" "_law_wrong_heads" (defArgs s_u_law_wrong_heads) (defBody s_u_law_wrong_heads) (defScope s_u_law_wrong_heads) [] [] (He.ga K "_law_wrong_heads") fd) : FnOk P w K mg base CX0 1 (He.ga K "_law_wrong_heads") fd ["rooms", "pick"] (sp_u_law_wrong_heads K) := by
  refine fn_pq F sc_u_law_wrong_heads ?_ (fun cdv A outer s H E hr => ⟨_, dv_u_law_wrong_heads T  cdv A outer s H E hr, ?_⟩)
  · rintro ds ⟨x0, x1, rfl, _⟩
    rfl
  · rintro ds ⟨rs, p, rfl, R⟩
    have r1 := R.some
    have r2 := R.many
    show ST K E0 (t_u_law_wrong_heads K) [.fr (.list (rs.map PyData.str)), .fr (.int p), .no, .no] _
    unfold t_u_law_wrong_heads
    have pk : ∀ (x : Int), SM 1 (rs.getD (x % ((rs.map PyData.str).length : Nat)).toNat Str.empty) := fun x => SM.name (R.good _ (pick_mem (by rw [List.length_map]) (by omega)))
    refine q_asg (d := .str (rs.getD (p % ((rs.map PyData.str).length : Nat)).toNat Str.empty)) (ev_op (ev_var (by rfl)) (ev_op (ev_var (by rfl)) (ev_cb (ea_cons (ev_var (d := .list (rs.map PyData.str)) (by rfl)) ea_nil) cd_lenL) (od_mod (by rw [List.length_map]; omega))) (od_ixL (pick_at (by rw [List.length_map]) (by omega)))) ?_
    have h1 := pk p
    generalize rs.getD (p % ((rs.map PyData.str).length : Nat)).toNat Str.empty = one at h1
    refine q_asgEL (n := 7) (by walk_at "el") (by decide) fun l1 n1 p1 => ?_
    refine st_retEL (i := 3) (l0 := l1) (by rfl) (by omega) (n := 4) (by walk_at "el") (by decide) fun l5 n5 p5 => ?_
    exact ⟨_, rfl, l1 ++ l5, rfl, by rw [List.length_append]; omega, by rw [List.length_append]; omega, mem_app p1 p5⟩
/-! words of spaced lines -/
theorem str_nil_app (z : Str) : ("" : Str) ++ z = z := TL.ext_tl (by rw [TL.tl_append]; rfl)
theorem str_app_nil (z : Str) : z ++ ("" : Str) = z := TL.ext_tl (by rw [TL.tl_append]; exact List.append_nil _)
theorem words_nil : wordsT "" = [] := by decide +kernel
theorem words_app (a b : Str) : wordsT (a ++ " " ++ b) = wordsT a ++ wordsT b := by
  unfold wordsT
  rw [pieces_app sp_list, List.filter_append]
theorem words_pre (z : Str) : wordsT (" " ++ z) = wordsT z := by
  have := words_app "" z
  rw [str_nil_app, words_nil, List.nil_append] at this
  exact this
theorem words_suf (z : Str) : wordsT (z ++ " ") = wordsT z := by
  have := words_app z ""
  rw [str_app_nil, words_nil, List.append_nil] at this
  exact this
theorem words_one {w : Str} (h : 32 ∉ w.cps.toList) (hne : w ≠ "") : wordsT w = [w] := by
  unfold wordsT
  rw [pieces_free h, List.filter_cons, if_pos (by rw [decide_eq_false hne]; rfl)]
  rfl
theorem spc0 : spcS 0 = "" := by decide +kernel
theorem spc1 : spcS 1 = " " := by decide +kernel
theorem spc2 : spcS 2 = " " ++ " " := by decide +kernel
def WordP (w : Str) : Prop := 32 ∉ w.cps.toList ∧ w ≠ "" ∧ 10 ∉ w.cps.toList ∧ w.length ≤ 9
theorem words_join {g : Str} (hg : g = " " ∨ g = " " ++ " ") : ∀ {ws : List Str}, (∀ w ∈ ws, WordP w) → wordsT (Txt.join g ws) = ws
  | [], _ => by
    rw [TL.join_eq]
    exact words_nil
  | [w], h => by
    have k := h w List.mem_cons_self
    rw [TL.join_eq]
    exact words_one k.1 k.2.1
  | w :: v :: r, h => by
    have k := h w List.mem_cons_self
    have ih := words_join hg (ws := v :: r) fun x hx => h x (List.mem_cons_of_mem _ hx)
    rw [join_cons g w (List.cons_ne_nil _ _)]
    rcases hg with rfl | rfl
    · rw [words_app, ih, words_one k.1 k.2.1]
      rfl
    · rw [← app_assoc w, words_app, words_suf, ih, words_one k.1 k.2.1]
      rfl
theorem words_sp {ws : List Str} (p : Int) (h : ∀ w ∈ ws, WordP w) : wordsT (spT ws p) = ws := by
  have a1 := Int.emod_nonneg p (show (7 : Int) ≠ 0 by decide)
  have a2 := Int.emod_lt_of_pos p (show (0 : Int) < 7 by decide)
  obtain ⟨b1, b2⟩ := d7 (p / 7) 0 9 (by decide) (by decide)
  obtain ⟨c1, c2⟩ := d7 (p / 63) 0 9 (by decide) (by decide)
  have hg : spcS (1 + p % 7 / 5) = " " ∨ spcS (1 + p % 7 / 5) = " " ++ " " := by
    have : 1 + p % 7 / 5 = 1 ∨ 1 + p % 7 / 5 = 2 := by omega
    rcases this with e | e
    · rw [e]; exact .inl spc1
    · rw [e]; exact .inr spc2
  have hb : p / 7 % 9 / 7 = 0 ∨ p / 7 % 9 / 7 = 1 := by omega
  have hc : p / 63 % 9 / 7 = 0 ∨ p / 63 % 9 / 7 = 1 := by omega
  unfold spT
  generalize spcS (1 + p % 7 / 5) = g at hg
  have hj := words_join hg h
  rcases hb with e | e <;> rcases hc with f | f <;> rw [e, f]
  · rw [spc0, str_nil_app, str_app_nil, hj]
  · rw [spc0, spc1, str_nil_app, words_suf, hj]
  · rw [spc0, spc1, str_app_nil, words_pre, hj]
  · rw [spc1, words_suf, words_pre, hj]
theorem spc_no10 (n : Int) : 10 ∉ (spcS n).cps.toList := fun m => by
  have : (spcS n).cps.toList = (List.replicate n.toNat (" " : Str).cps.toList).flatten := rfl
  rw [this, List.mem_flatten] at m
  obtain ⟨l, hl, hx⟩ := m
  rw [List.mem_replicate] at hl
  rw [hl.2] at hx
  exact absurd hx (by decide +kernel)
theorem sp_line {ws : List Str} (p : Int) (h : ∀ w ∈ ws, WordP w) (hl : ws.length ≤ 301) : 10 ∉ (spT ws p).cps.toList ∧ (spT ws p).length ≤ 4000 := by
  unfold spT
  have a1 := Int.emod_nonneg p (show (7 : Int) ≠ 0 by decide)
  have a2 := Int.emod_lt_of_pos p (show (0 : Int) < 7 by decide)
  obtain ⟨b1, b2⟩ := d7 (p / 7) 0 9 (by decide) (by decide)
  obtain ⟨c1, c2⟩ := d7 (p / 63) 0 9 (by decide) (by decide)
  have g := gap_len (1 + p % 7 / 5) (by omega)
  have g1 := gap_len (p / 7 % 9 / 7) (by omega)
  have g2 := gap_len (p / 63 % 9 / 7) (by omega)
  have n0 := spc_no10 (1 + p % 7 / 5)
  have n1 := spc_no10 (p / 7 % 9 / 7)
  have n2 := spc_no10 (p / 63 % 9 / 7)
  have hj := join_len (spcS (1 + p % 7 / 5)) ws fun w hw => (h w hw).2.2.2
  have h4 : ws.length * (9 + (spcS (1 + p % 7 / 5)).length) ≤ 301 * 11 := Nat.mul_le_mul hl (by omega)
  refine ⟨fun m => ?_, by rw [len_app, len_app]; omega⟩
  rw [app_list, app_list] at m
  rcases List.mem_append.mp m with m | m
  · rcases List.mem_append.mp m with m | m
    · exact n1 m
    · rcases join_mem m with m | ⟨q, hq, m⟩
      · exact n0 m
      · exact (h q hq).2.2.1 m
  · exact n2 m
theorem name_word {z : Str} (h : NameP z) : WordP z := by
  have k : ∀ x ∈ z.cps.toList, x ∈ sL.cps.toList ∨ x ∈ sF.cps.toList := fun x hx => by
    have hg := h.1
    unfold goodS at hg
    cases ez : z.cps.toList with
    | nil => rw [ez] at hx; cases hx
    | cons c r =>
      rw [ez] at hx hg
      rcases List.mem_cons.mp hx with rfl | hx
      · exact .inl hg.1
      · exact hg.2 x hx
  have h2 := h.2
  refine ⟨fun m => absurd (k 32 m) (by decide +kernel), fun e => ?_, fun m => absurd (k 10 m) (by decide +kernel), by omega⟩
  have := good_pos h.1
  rw [e] at this
  exact absurd this (by decide +kernel)
theorem side_word {z : Str} (h : z ∈ sides4) : WordP z := by
  rcases side_cases h with rfl | rfl | rfl | rfl <;> exact ⟨by decide +kernel, by decide +kernel, by decide +kernel, by decide +kernel⟩
theorem colon_word {z : Str} (h : WordP z) (hl : z.length ≤ 8) : WordP (z ++ ":") := by
  have e2 : (":" : Str).length = 1 := by decide +kernel
  refine ⟨fun m => ?_, fun e => ?_, fun m => ?_, by rw [len_app]; omega⟩
  · rw [app_list, colon_list] at m
    rcases List.mem_append.mp m with m | m
    · exact h.1 m
    · exact absurd (List.mem_singleton.mp m) (by decide)
  · have := congrArg Str.length e
    rw [len_app, e2, show ("" : Str).length = 0 from by decide +kernel] at this
    omega
  · rw [app_list, colon_list] at m
    rcases List.mem_append.mp m with m | m
    · exact h.2.2.1 m
    · exact absurd (List.mem_singleton.mp m) (by decide)
theorem rooms_wordP : WordP "rooms" := ⟨by decide +kernel, by decide +kernel, by decide +kernel, by decide +kernel⟩
theorem starts_no {z : Str} (h : z.cps.toList.head? ≠ some 35) : Txt.startswith z "#" = false := by
  unfold Txt.startswith
  rw [Bool.and_eq_false_iff]
  refine .inr ?_
  rw [PySem.StrLaws.subAt_eq]
  have e1 : ("#" : Str).cps.toList = [35] := by decide +kernel
  have e2 : ("#" : Str).length = 1 := by decide +kernel
  rw [e1, e2, List.drop_zero]
  cases ez : z.cps.toList with
  | nil => rfl
  | cons c r =>
    rw [ez] at h
    have : c ≠ 35 := fun e => h (by rw [e]; rfl)
    show ([c] == [35]) = false
    simpa using this
/-- a room's name or a side -/
def NaS (z : Str) : Prop := NameP z ∨ z ∈ sides4
theorem NaS.word {z : Str} (h : NaS z) : WordP z := h.elim name_word side_word
theorem NaS.small {z : Str} (h : NaS z) : z.length ≤ 8 := h.elim (fun h => h.2) fun h => by rcases side_cases h with rfl | rfl | rfl | rfl <;> decide +kernel
theorem NaS.head {z : Str} (h : NaS z) : (z ++ ":").cps.toList.head? ≠ some 35 := by
  rw [app_list]
  rcases h with h | h
  · have hg := h.1
    unfold goodS at hg
    cases ez : z.cps.toList with
    | nil => rw [ez] at hg; exact hg.elim
    | cons c r =>
      rw [ez] at hg
      intro e
      have : c = 35 := Option.some.inj e
      exact absurd (this ▸ hg.1) (by decide +kernel)
  · rcases side_cases h with rfl | rfl | rfl | rfl <;> decide +kernel
theorem pass_rooms (c : List Str) : passW (("rooms" : Str) :: c) = false := by
  show Txt.startswith "rooms" "#" = false
  exact starts_no (by decide +kernel)
theorem pass_touch {z : Str} (h : NaS z) (r : List Str) : passW ((z ++ ":") :: r) = false := starts_no h.head
theorem toldW_app (a b : List Str) : toldW (a ++ b) = toldW a ++ toldW b := by
  unfold toldW
  rw [List.map_append, List.filter_append]
theorem toldW_pass {l : Str} (h : passW (wordsT l) = true) : toldW [l] = [] := by
  unfold toldW
  rw [List.map_cons, List.map_nil, List.filter_cons, if_neg (by rw [h]; decide)]
  rfl
theorem toldW_not {l : Str} (h : passW (wordsT l) = false) : toldW [l] = [wordsT l] := by
  unfold toldW
  rw [List.map_cons, List.map_nil, List.filter_cons, if_pos (by rw [h]; decide)]
  rfl
theorem toldW_put {ls : List Str} {n : Nat} {l : Str} (h : passW (wordsT l) = true) : toldW (putL ls n l) = toldW ls := by
  unfold putL
  rw [toldW_app, toldW_app, toldW_pass h, List.append_nil, ← toldW_app, List.take_append_drop]
theorem put_len (ls : List Str) (n : Nat) (l : Str) : (putL ls n l).length = ls.length + 1 := by
  have := congrArg List.length (List.take_append_drop n ls)
  unfold putL
  rw [List.length_append] at this
  rw [List.length_append, List.length_append, List.length_singleton]
  omega
theorem mem_put {ls : List Str} {n : Nat} {l x : Str} : x ∈ putL ls n l ↔ x ∈ ls ∨ x = l := by
  have := List.take_append_drop n ls
  unfold putL
  rw [List.mem_append, List.mem_append, List.mem_singleton]
  conv => rhs; rw [← this, List.mem_append]
  constructor
  · rintro ((h | h) | h)
    · exact .inl (.inl h)
    · exact .inr h
    · exact .inl (.inr h)
  · rintro ((h | h) | h)
    · exact .inl (.inl h)
    · exact .inr h
    · exact .inl (.inr h)
theorem lcD_ex {α : Type} {Pr : α → Prop} {h : α → D} {b : Nat → Bool} {f : Nat → D} : ∀ {n : Nat}, (∀ i, i < n → b i = true → ∃ x, Pr x ∧ f i = h x) → ∃ xs : List α, lcD n b f = xs.map h ∧ xs.length ≤ n ∧ ∀ x ∈ xs, Pr x
  | 0, _ => ⟨[], rfl, Nat.le_refl _, fun x h => (by cases h)⟩
  | n + 1, hf => by
    obtain ⟨xs, e, hl, hp⟩ := lcD_ex (n := n) (h := h) fun i hi => hf i (by omega)
    unfold lcD
    cases q : b n with
    | false => exact ⟨xs, by rw [if_neg Bool.false_ne_true, e], by omega, hp⟩
    | true =>
      obtain ⟨x, h1, h2⟩ := hf n (by omega) q
      refine ⟨xs ++ [x], by rw [if_pos rfl, e, h2, List.map_append]; rfl, by rw [List.length_append]; simp; omega, fun y hy => ?_⟩
      rcases List.mem_append.mp hy with m | m
      · exact hp y m
      · rw [List.mem_singleton.mp m]
        exact h1
def notesL : List Str := ["", "# a: zz", "   ", "#", "#rooms E", " # E: N"]
theorem notes_ok : ∀ z ∈ notesL, (passW (wordsT z) = true ∧ 10 ∉ z.cps.toList) ∧ z.length ≤ 4000 := by decide +kernel
theorem note_mem (x : Int) : notesL.getD (x % 6).toNat Str.empty ∈ notesL := getD_mem (mod_nat (p := x) (m := 6) (k := 6) rfl (by decide))
theorem ev_note {ρ : List Sl} {tb : TE} {x : Int} (h : ρ[4]? = some (.fr (.list (notesL.map PyData.str)))) (hb : EV K tb ρ (.int x)) : EV K (tOp (rIx K) (tVar 4) (tOp rModU tb (tC (.int 6)))) ρ (.str (notesL.getD (x % 6).toNat Str.empty)) :=
  ev_op (ev_var h) (ev_op hb ev_int (od_mod (by decide))) (od_ixL (atI_strs (Int.emod_nonneg _ (by decide)) (Int.emod_lt_of_pos _ (by decide))))
theorem toldW_all {xs : List Str} (h : ∀ x ∈ xs, passW (wordsT x) = true) : toldW xs = [] := by
  induction xs with
  | nil => rfl
  | cons a r ih =>
    rw [← List.singleton_append, toldW_app, toldW_pass (h a List.mem_cons_self), ih fun x hx => h x (List.mem_cons_of_mem _ hx)]
    rfl
theorem fk_u_law_noted (T : Txt K mg) (O_u_law_put : Okd P w K mg base CX0 1 "_law_put" ["lines", "at", "line"] (sp_u_law_put K)) {fd : FuncData} (F : FunD K "_law_noted" "_law_noted" (defArgs s_u_law_noted) (defBody s_u_law_noted) (defScope s_u_law_noted) [] [] (He.ga K "_law_noted") fd) : FnOk P w K mg base CX0 2 (He.ga K "_law_noted") fd ["lines", "pool", "begin", "many"] (sp_u_law_noted K) := by
  refine fn_pq F sc_u_law_noted ?_ (fun cdv A outer s H E hr => ⟨_, dv_u_law_noted T O_u_law_put cdv A outer s H E hr, ?_⟩)
  · rintro ds ⟨x0, x1, x2, x3, rfl, _⟩
    rfl
  · rintro ds ⟨ls, ps, b, m, rfl, hl, hls, hb0, hb1, hm0, hm1⟩
    show ST K E0 (t_u_law_noted K) [.fr (.list (ls.map PyData.str)), .fr (.list (ps.map PyData.int)), .fr (.int b), .fr (.int m), .no, .no] _
    unfold t_u_law_noted sp_u_law_put
    refine q_asgN (d := .list (notesL.map PyData.str)) (by exact en_lst (ds := notesL.map PyData.str) (ea_cons ev_str (ea_cons ev_str (ea_cons ev_str (ea_cons ev_str (ea_cons ev_str (ea_cons ev_str ea_nil)))))) (by rw [sizeLine_eq]; decide)) ?_
    refine q_frz (i := 4) rfl ?_
    have c1 := Int.emod_nonneg (pI ps b) (show (6 : Int) ≠ 0 by decide)
    have c2 := Int.emod_lt_of_pos (pI ps b) (show (0 : Int) < 6 by decide)
    have pl := fun {ρ : List Sl} (h1 : ρ[1]? = some (.fr (.list (ps.map PyData.int)))) (h2 : ρ[2]? = some (.fr (.int b))) (j : Int) (h3 : 0 ≤ j) (h4 : j < 3) => (ev_op (ev_var h1) (ev_op (ev_var h2) (ev_int (K := K) (i := j)) od_addI) (od_ixL (pI_get (by omega) (by omega))) : EV K (tOp (rIx K) (tVar 1) (tOp (rAddU K) (tVar 2) (tC (.int j)))) ρ (.int (pI ps (b + j))))
    refine q_for (ei_rng1 (ea_cons (ev_op (ev_op (ev_var (by rfl)) (ev_var (by rfl)) (od_ixL (pI_get (i := b) (by omega) (by omega)))) ev_int (od_mod (by decide))) ea_nil) (by omega) (by omega)) (fun i ρ => ∃ (ls2 : List Str) (s5 : Sl), ls2.length = ls.length + i ∧ (∀ l ∈ ls2, 10 ∉ l.cps.toList ∧ l.length ≤ 4000) ∧ (∀ l ∈ ls, l ∈ ls2) ∧ toldW ls2 = toldW ls ∧
      ρ = [.fr (.list (ls2.map PyData.str)), .fr (.list (ps.map PyData.int)), .fr (.int b), .fr (.int m), .fr (.list (notesL.map PyData.str)), s5]) ⟨ls, _, rfl, hls, fun l h => h, rfl, rfl⟩ ?_ ?_
    · rintro i ρ hi ⟨ls2, s5, g1, g2, g3, g4, rfl⟩
      have hi6 : i < 6 := by omega
      refine ⟨_, _, gt_name, ?_⟩
      have hmm : 0 ≤ (pI ps (b + 1) + 7 * (i : Nat)) % (((ls2.map PyData.str).length : Nat) + 1) := Int.emod_nonneg _ (by omega)
      obtain ⟨⟨q1, q2⟩, q3⟩ := notes_ok _ (note_mem (pI ps (b + 2) + (i : Nat)))
      refine st_asg (ev_call (ea_cons (ev_var (by rfl)) (ea_cons (ev_is (ev_op (ev_op (pl (by rfl) (by rfl) 1 (by decide) (by decide)) (ev_op ev_int (ev_var (by rfl)) (od_mulI (.inr (by omega)))) od_addI) (ev_op (ev_cb (ea_cons (ev_var (d := .list (ls2.map PyData.str)) (by rfl)) ea_nil) cd_lenL) ev_int od_addI) (od_mod (by omega))) (congrArg PyData.int (Int.toNat_of_nonneg hmm).symm)) (ea_cons (ev_note (by rfl) (ev_op (pl (by rfl) (by rfl) 2 (by decide) (by decide)) (ev_var (by rfl)) od_addI)) ea_nil))) ⟨ls2, _, _, rfl, by omega, rfl⟩) ?_
      refine ⟨putL ls2 _ _, .fr (.int (i : Nat)), by rw [put_len]; omega, fun l h => ?_, fun l h => mem_put.mpr (.inl (g3 l h)), (toldW_put q1).trans g4, rfl⟩
      rcases mem_put.mp h with h | rfl
      · exact g2 l h
      · exact ⟨q2, q3⟩
    rintro ρ ⟨ls2, s5, g1, g2, g3, g4, rfl⟩
    obtain ⟨xs, e, hx1, hx2⟩ := lcD_ex (n := m.toNat) (b := fun _ => true) (Pr := fun z => z ∈ notesL) (h := PyData.str) (f := fun i => .str (notesL.getD ((pI ps (b + 2) + (i : Nat)) % 6).toNat Str.empty)) fun i _ _ => ⟨_, note_mem _, rfl⟩
    refine st_ret (ev_N (en_op (d1 := .list (xs.map PyData.str)) (ev_N (en_is (en_lc (n := m.toNat) (b := fun _ => true) (f := fun i => .str (notesL.getD ((pI ps (b + 2) + (i : Nat)) % 6).toNat Str.empty)) (ei_rng1 (ea_cons (ev_var (by rfl)) ea_nil) (by omega) (by omega)) (by omega) fun i hi => ⟨_, _, gt_name, by simp, et_yes, fun _ => ev_note (by rfl) (ev_op (pl (by rfl) (by rfl) 2 (by decide) (by decide)) (ev_var (by rfl)) od_addI)⟩) (congrArg PyData.list e))) (ev_var (d := .list (ls2.map PyData.str)) (by rfl)) (on_addL (by rw [List.length_map, List.length_map, sizeLine_eq]; omega)))) ?_
    refine ⟨_, rfl, ls, _, xs ++ ls2, rfl, by rw [List.map_append], by rw [List.length_append]; omega, fun l h => ?_, fun l h => List.mem_append_right _ (g3 l h), by rw [toldW_app, toldW_all fun x hx => (notes_ok x (hx2 x hx)).1.1, g4]; rfl⟩
    rcases List.mem_append.mp h with h | h
    · exact ⟨(notes_ok l (hx2 l h)).1.2, (notes_ok l (hx2 l h)).2⟩
    · exact g2 l h
/-! rows of others -/
def oD (os : List (Str × List Str)) : List (Key × D) := os.map fun e => (.inr e.1, .list (e.2.map PyData.str))
def rowO (os : List (Str × List Str)) (z : Str) : List Str := ((os.find? fun e => decide (e.1 = z)).map (·.2)).getD []
def putO (os : List (Str × List Str)) (z : Str) (r : List Str) : List (Str × List Str) := if (os.any fun e => decide (e.1 = z)) = true then os.map (fun e => if e.1 = z then (e.1, r) else e) else os ++ [(z, r)]
def addO (os : List (Str × List Str)) (z y : Str) : List (Str × List Str) := putO os z (rowO os z ++ [y])
theorem key_eq (a b : Str) : decide ((Sum.inr a : Key) = .inr b) = decide (a = b) := decide_eq_decide.mpr ⟨fun e => Sum.inr.inj e, fun e => by rw [e]⟩
theorem get_oD (os : List (Str × List Str)) (z : Str) : getG (oD os) (.inr z) = (os.find? fun e => decide (e.1 = z)).map fun e => .list (e.2.map PyData.str) := by
  unfold getG oD
  rw [List.find?_map]
  have : ((fun kv : Key × D => decide (kv.1 = .inr z)) ∘ fun e : Str × List Str => ((.inr e.1 : Key), PyData.list (e.2.map PyData.str))) = fun e => decide (e.1 = z) := by
    funext e
    exact key_eq e.1 z
  rw [this, Option.map_map]
  rfl
theorem get_row (os : List (Str × List Str)) (z : Str) : (getG (oD os) (.inr z)).getD (.list []) = .list ((rowO os z).map PyData.str) := by
  rw [get_oD]
  unfold rowO
  cases os.find? fun e => decide (e.1 = z) <;> rfl
theorem get_some {os : List (Str × List Str)} {z : Str} (h : z ∈ os.map (·.1)) : getG (oD os) (.inr z) = some (.list ((rowO os z).map PyData.str)) := by
  rw [get_oD]
  unfold rowO
  cases e : os.find? fun e => decide (e.1 = z) with
  | some x => rfl
  | none =>
    obtain ⟨x, hx, rfl⟩ := List.mem_map.mp h
    have := List.find?_eq_none.mp e x hx
    exact absurd (decide_eq_true rfl) this
theorem put_oD (os : List (Str × List Str)) (z : Str) (r : List Str) : putG (oD os) (.inr z) (.list (r.map PyData.str)) = oD (putO os z r) := by
  unfold putG putO
  have h1 : ((oD os).any fun kv => decide (kv.1 = .inr z)) = os.any fun e => decide (e.1 = z) := by
    unfold oD
    rw [List.any_map]
    congr 1
    funext e
    exact key_eq e.1 z
  rw [h1]
  split
  · unfold oD
    rw [List.map_map, List.map_map]
    refine List.map_congr_left fun e _ => ?_
    show (if (Sum.inr e.1 : Key) = .inr z then _ else _) = (fun e : Str × List Str => ((.inr e.1 : Key), PyData.list (e.2.map PyData.str))) (if e.1 = z then (e.1, r) else e)
    by_cases h : e.1 = z
    · rw [if_pos h, if_pos (by rw [h])]
    · rw [if_neg h, if_neg fun k => h (Sum.inr.inj k)]
  · unfold oD
    rw [List.map_append]
    rfl
theorem keys_oD (os : List (Str × List Str)) : (oD os).map (fun p => kD p.1) = (os.map (·.1)).map PyData.str := by
  unfold oD
  rw [List.map_map, List.map_map]
  rfl
theorem find_mem {os : List (Str × List Str)} (nd : (os.map (·.1)).Nodup) {e : Str × List Str} (h : e ∈ os) : rowO os e.1 = e.2 := by
  unfold rowO
  induction os with
  | nil => cases h
  | cons a r ih =>
    rw [List.map_cons, List.nodup_cons] at nd
    rcases List.mem_cons.mp h with rfl | h
    · rw [List.find?_cons_of_pos (p := fun x : Str × List Str => decide (x.1 = e.1)) (decide_eq_true rfl)]
      rfl
    · have : a.1 ≠ e.1 := fun k => nd.1 (by rw [k]; exact List.mem_map.mpr ⟨e, h, rfl⟩)
      rw [List.find?_cons_of_neg (p := fun x : Str × List Str => decide (x.1 = e.1)) (by simpa using this)]
      exact ih nd.2 h
theorem row_mem {os : List (Str × List Str)} {z : Str} : rowO os z = [] ∨ (z, rowO os z) ∈ os := by
  unfold rowO
  cases e : os.find? fun e => decide (e.1 = z) with
  | none => exact .inl rfl
  | some x =>
    have h1 := List.mem_of_find?_eq_some e
    have h2 : x.1 = z := by simpa using List.find?_some e
    refine .inr ?_
    rw [← h2]
    exact h1
theorem mem_putO {os : List (Str × List Str)} {z : Str} {r : List Str} {x : Str × List Str} (h : x ∈ putO os z r) : x = (z, r) ∨ (x ∈ os ∧ x.1 ≠ z) := by
  unfold putO at h
  split at h
  · obtain ⟨e, he, rfl⟩ := List.mem_map.mp h
    by_cases k : e.1 = z
    · rw [if_pos k, k]; exact .inl rfl
    · rw [if_neg k]; exact .inr ⟨he, k⟩
  · rename_i hn
    rcases List.mem_append.mp h with h | h
    · refine .inr ⟨h, fun k => hn ?_⟩
      exact List.any_eq_true.mpr ⟨x, h, decide_eq_true k⟩
    · exact .inl (List.mem_singleton.mp h)
theorem putO_has {os : List (Str × List Str)} {z : Str} {r : List Str} : (z, r) ∈ putO os z r := by
  unfold putO
  split
  · rename_i h
    obtain ⟨e, he, k⟩ := List.any_eq_true.mp h
    have k : e.1 = z := of_decide_eq_true k
    exact List.mem_map.mpr ⟨e, he, by rw [if_pos k, k]⟩
  · exact List.mem_append_right _ List.mem_cons_self
theorem putO_old {os : List (Str × List Str)} {z : Str} {r : List Str} {x : Str × List Str} (h : x ∈ os) (k : x.1 ≠ z) : x ∈ putO os z r := by
  unfold putO
  split
  · exact List.mem_map.mpr ⟨x, h, by rw [if_neg k]⟩
  · exact List.mem_append_left _ h
theorem putO_keys {os : List (Str × List Str)} {z : Str} {r : List Str} (nd : (os.map (·.1)).Nodup) : ((putO os z r).map (·.1)).Nodup := by
  unfold putO
  split
  · have : (os.map fun e => if e.1 = z then (e.1, r) else e).map (·.1) = os.map (·.1) := by
      rw [List.map_map]
      refine List.map_congr_left fun e _ => ?_
      show (if e.1 = z then (e.1, r) else e).1 = e.1
      split <;> rfl
    rw [this]
    exact nd
  · rename_i hn
    rw [List.map_append]
    refine List.nodup_append.mpr ⟨nd, List.nodup_cons.mpr ⟨List.not_mem_nil, List.nodup_nil⟩, fun a ha c hc e => hn ?_⟩
    rw [List.mem_singleton.mp hc] at e
    obtain ⟨x, hx, rfl⟩ := List.mem_map.mp ha
    exact List.any_eq_true.mpr ⟨x, hx, decide_eq_true e⟩
theorem putO_len {os : List (Str × List Str)} {z : Str} {r : List Str} : (putO os z r).length ≤ os.length + 1 := by
  unfold putO
  split
  · rw [List.length_map]; omega
  · rw [List.length_append]; exact Nat.le_refl _
def Tou (ps : List (Str × Str)) (z y : Str) : Prop := (z, y) ∈ ps ∨ (y, z) ∈ ps
def Cov (os : List (Str × List Str)) (p : Str × Str) : Prop := ∃ e ∈ os, (e.1 = p.1 ∧ p.2 ∈ e.2) ∨ (e.1 = p.2 ∧ p.1 ∈ e.2)
structure OI (ps : List (Str × Str)) (os : List (Str × List Str)) (l c : Nat) (dn : List (Str × Str)) : Prop where
  nd : (os.map (·.1)).Nodup
  row : ∀ e ∈ os, e.2 ≠ [] ∧ e.2.length ≤ l ∧ ∀ y ∈ e.2, Tou ps e.1 y
  cnt : os.length ≤ c
  all : ∀ p ∈ dn, Cov os p
theorem OI.add {ps : List (Str × Str)} {os : List (Str × List Str)} {l c : Nat} {dn : List (Str × Str)} (I : OI ps os l c dn) {z y : Str} (h : Tou ps z y) : OI ps (addO os z y) (l + 1) (c + 1) dn ∧ ∃ e ∈ addO os z y, e.1 = z ∧ y ∈ e.2 := by
  refine ⟨⟨putO_keys I.nd, fun e he => ?_, Nat.le_trans putO_len (Nat.succ_le_succ I.cnt), fun p hp => ?_⟩, _, putO_has, rfl, List.mem_append_right _ List.mem_cons_self⟩
  · rcases mem_putO he with rfl | ⟨he, _⟩
    · refine ⟨by simp, ?_, fun x hx => ?_⟩
      · show (rowO os z ++ [y]).length ≤ l + 1
        rw [List.length_append, List.length_singleton]
        rcases row_mem (os := os) (z := z) with e | e
        · rw [e, List.length_nil]; omega
        · have : (rowO os z).length ≤ l := (I.row _ e).2.1
          omega
      · have hx : x ∈ rowO os z ++ [y] := hx
        rcases List.mem_append.mp hx with hx | hx
        · rcases row_mem (os := os) (z := z) with e | e
          · rw [e] at hx; cases hx
          · exact (I.row _ e).2.2 x hx
        · rw [List.mem_singleton.mp hx]
          exact h
    · obtain ⟨a, b, d⟩ := I.row e he
      exact ⟨a, by omega, d⟩
  · obtain ⟨e, he, k⟩ := I.all p hp
    by_cases q : e.1 = z
    · have hr : e.2 = rowO os z := by rw [← q, find_mem I.nd he]
      rw [hr] at k
      rw [q] at k
      exact ⟨_, putO_has, k.imp (fun k => ⟨k.1, List.mem_append_left _ k.2⟩) fun k => ⟨k.1, List.mem_append_left _ k.2⟩⟩
    · exact ⟨e, putO_old he q, k⟩
theorem OI.cover {ps : List (Str × Str)} {os : List (Str × List Str)} {l c : Nat} {dn : List (Str × Str)} (I : OI ps os l c dn) {p : Str × Str} (h : Cov os p) : OI ps os l c (dn ++ [p]) := ⟨I.nd, I.row, I.cnt, fun q hq => by
  rcases List.mem_append.mp hq with hq | hq
  · exact I.all q hq
  · rw [List.mem_singleton.mp hq]; exact h⟩
theorem OI.up {ps : List (Str × Str)} {os : List (Str × List Str)} {l c l' c' : Nat} {dn : List (Str × Str)} (I : OI ps os l c dn) (h1 : l ≤ l') (h2 : c ≤ c') : OI ps os l' c' dn := ⟨I.nd, fun e he => ⟨(I.row e he).1, Nat.le_trans (I.row e he).2.1 h1, (I.row e he).2.2⟩, Nat.le_trans I.cnt h2, I.all⟩
theorem addO_key {os : List (Str × List Str)} {z y : Str} : z ∈ (addO os z y).map (·.1) := List.mem_map.mpr ⟨_, putO_has, rfl⟩
/-- a line that tells these words -/
def LineW (l : Str) (ws : List Str) : Prop := wordsT l = ws ∧ 10 ∉ l.cps.toList ∧ l.length ≤ 4000
theorem lineW_sp {ws : List Str} (p : Int) (h : ∀ w ∈ ws, WordP w) (hl : ws.length ≤ 301) : LineW (spT ws p) ws := ⟨words_sp p h, sp_line p h hl⟩
structure LinesW (ls : List Str) (wss : List (List Str)) : Prop where
  ws : ls.map wordsT = wss
  ok : ∀ l ∈ ls, 10 ∉ l.cps.toList ∧ l.length ≤ 4000
theorem LinesW.add {ls : List Str} {wss : List (List Str)} (L : LinesW ls wss) {l : Str} {ws : List Str} (h : LineW l ws) : LinesW (ls ++ [l]) (wss ++ [ws]) := ⟨by rw [List.map_append, L.ws]; exact congrArg (fun x => wss ++ [x]) h.1, fun x hx => by
  rcases List.mem_append.mp hx with hx | hx
  · exact L.ok x hx
  · rw [List.mem_singleton.mp hx]; exact h.2⟩
theorem LinesW.len {ls : List Str} {wss : List (List Str)} (L : LinesW ls wss) : ls.length = wss.length := by rw [← L.ws, List.length_map]
theorem cut_mid {ls : List Str} {a n : Nat} {i j : Int} (hi : i = (a : Nat)) (hj : j = ((a + n : Nat) : Int)) : cutDs (ls.map PyData.str) (some i) (some j) = ((ls.drop a).take n).map PyData.str := by
  subst hi hj
  unfold cutDs
  rw [HT.sIx_nat, HT.sIx_nat, List.map_take, List.map_drop, List.length_map]
  by_cases h : a ≤ ls.length
  · rw [Nat.min_eq_left h]
    by_cases h2 : a + n ≤ ls.length
    · rw [Nat.min_eq_left h2, show a + n - a = n by omega]
    · rw [Nat.min_eq_right (by omega), List.take_of_length_le (by rw [List.length_drop, List.length_map]; omega), List.take_of_length_le (by rw [List.length_drop, List.length_map]; omega)]
  · rw [Nat.min_eq_right (by omega), Nat.min_eq_right (by omega), List.drop_eq_nil_of_le (by rw [List.length_map]; omega), List.drop_eq_nil_of_le (by rw [List.length_map]; omega), List.take_nil, List.take_nil]
theorem od_ninG {a b : Str} : OD K (rNinU K) (.str a) (.str b) (.bool (!(!(Builtin.Str.occurrences b a 0 b.length 1).isEmpty))) := fun x y G H Q g hx hy q => by
  cases hx; cases hy
  exact .inr (.inr ⟨a, b, rfl, rfl, q _ G H (.refl g) (.bl _)⟩)
theorem tou_ord {ps : List (Str × Str)} (lt : ∀ p ∈ ps, ltS p.1 p.2 = true) {z y : Str} (h : Tou ps z y) : ordQ (z, y) ∈ ps ∧ z ≠ y := by
  unfold ordQ
  rcases h with h | h
  · have l := lt _ h
    rw [if_pos l]
    exact ⟨h, fun e => by have l : ltS z y = true := l; rw [e, ltS_irr] at l; cases l⟩
  · have l : ltS y z = true := lt _ h
    rw [if_neg (by rw [show ltS (z, y).1 (z, y).2 = false from ltS_as l]; decide)]
    exact ⟨h, fun e => by rw [e, ltS_irr] at l; cases l⟩
theorem ord_of {p : Str × Str} {z y : Str} (l : ltS p.1 p.2 = true) (h : (z = p.1 ∧ y = p.2) ∨ (z = p.2 ∧ y = p.1)) : ordQ (z, y) = p := by
  unfold ordQ
  rcases h with ⟨rfl, rfl⟩ | ⟨rfl, rfl⟩
  · rw [if_pos l]
  · rw [if_neg (by rw [show ltS (p.2, p.1).1 (p.2, p.1).2 = false from ltS_as l]; decide)]
/-- others[z] = (what is there) + [y] -/
theorem q_addO {ρ : List Sl} {n : Nat} {os : List (Str × List Str)} {z y : Str} {tk tg ty : TE} {Ex : XK} {P : Oc → Prop} (hi : ρ[n]? = some (.ow (dkD (oD os)))) (hk : EV K tk ρ (.str z)) (hg : EV K tg ρ (.list ((rowO os z).map PyData.str))) (hy : EV K ty ρ (.str y)) (hr : (rowO os z).length ≤ 10000) (hl : os.length ≤ 10000)
    (q : P (.nx (ρ.set n (.ow (dkD (oD (addO os z y))))))) : ST K Ex (sDPut (tVar n) tk (tOp (rAddU K) tg (tLst (tCons ty tNil)))) ρ P := by
  refine st_dputK (k := .inr z) (d := .list ((rowO os z ++ [y]).map PyData.str)) hi hk rfl (ev_N (en_is (en_op hg (ev_N (en_lst (ea_cons hy ea_nil) (by show 1 ≤ sizeLine; rw [sizeLine_eq]; decide))) (on_addL (by rw [List.length_map, sizeLine_eq]; show _ + 1 ≤ _; omega))) (by rw [List.map_append]; rfl))) (by unfold oD; rw [List.length_map]; omega) ?_
  rw [put_oD]
  exact q
theorem ev_emp {ρ : List Sl} : EV K (tLst tNil) ρ (.list []) := ev_N (en_lst ea_nil (Nat.zero_le _))
theorem ev_enws {ρ : List Sl} {n : Nat} {z : Str} (h : ρ[n]? = some (.fr (.str z))) : ∃ b, ET K (tTest (tOp (rNinU K) (tVar n) (tC (.str "ENWS")))) ρ b := ⟨_, et_test (ev_op (ev_var h) ev_str od_ninG)⟩
theorem rot_mem {α : Type} {l : List α} {t : Nat} {x : α} : x ∈ l.drop t ++ l.take t ↔ x ∈ l := by
  have := List.take_append_drop t l
  conv => rhs; rw [← this]
  rw [List.mem_append, List.mem_append]
  exact Or.comm
theorem fk_u_law_written (T : Txt K mg) (O_u_law_spaced : Okd P w K mg base CX0 1 "_law_spaced" ["words", "pick"] (sp_u_law_spaced K)) {fd : FuncData} (F : FunD K "_law_written" "_law_written" (defArgs s_u_law_written) (defBody s_u_law_written) (defScope s_u_law_written) [] [] (He.ga K "_law_written") fd) : FnOk P w K mg base CX0 2 (He.ga K "_law_written") fd ["scheme", "rooms", "pool", "begin"] (sp_u_law_written K) := by
  refine fn_pq F sc_u_law_written ?_ (fun cdv A outer s H E hr => ⟨_, dv_u_law_written T O_u_law_spaced cdv A outer s H E hr, ?_⟩)
  · rintro ds ⟨x0, x1, x2, x3, rfl, _⟩
    rfl
  · rintro ds ⟨rs, qs, ps, b, rfl, R, W, hq, hb0, hb1⟩
    have r1 := R.some
    have r2 := R.many
    have hNaS : ∀ z, z ∈ srt ltS rs ++ sides4 → NaS z := fun z h => (List.mem_append.mp h).elim (fun h => .inl (W.good z h)) .inr
    have hT : ∀ z y, Tou qs z y → NaS z ∧ NaS y := fun z y h => by
      rcases h with h | h
      · exact ⟨hNaS _ (W.one _ h).1, .inl (W.good _ (W.snd h))⟩
      · exact ⟨.inl (W.good _ (W.snd h)), hNaS _ (W.one _ h).1⟩
    show ST K E0 (t_u_law_written K) [.fr (schD (srt ltS rs) qs), .fr (.list (rs.map PyData.str)), .fr (.list (ps.map PyData.int)), .fr (.int b), .no, .no, .no, .no, .no, .no, .no, .no, .no, .no, .no, .no] _
    unfold t_u_law_written sp_u_law_spaced
    have pl : ∀ {ρ : List Sl} {te : TE} {j : Int}, ρ[2]? = some (.fr (.list (ps.map PyData.int))) → ρ[3]? = some (.fr (.int b)) → EV K te ρ (.int j) → 0 ≤ j → j < 70 → EV K (tOp (rIx K) (tVar 2) (tOp (rAddU K) (tVar 3) te)) ρ (.int (pI ps (b + j))) := fun h1 h2 h3 h4 h5 => ev_op (ev_var h1) (ev_op (ev_var h2) h3 od_addI) (od_ixL (pI_get (by omega) (by omega)))
    have pl2 : ∀ {ρ : List Sl} {te : TE} {c j : Int}, ρ[2]? = some (.fr (.list (ps.map PyData.int))) → ρ[3]? = some (.fr (.int b)) → EV K te ρ (.int j) → 0 ≤ c + j → c + j < 70 → EV K (tOp (rIx K) (tVar 2) (tOp (rAddU K) (tOp (rAddU K) (tVar 3) (tC (.int c))) te)) ρ (.int (pI ps (b + c + j))) := fun h1 h2 h3 h4 h5 => ev_op (ev_var h1) (ev_op (ev_op (ev_var h2) ev_int od_addI) h3 od_addI) (od_ixL (pI_get (by omega) (by omega)))
    refine q_asgN (d := .list (([] : List Str).map PyData.str)) (by exact en_lst ea_nil (Nat.zero_le _)) ?_
    refine q_asg ev_int ?_
    -- the rooms lines
    refine q_for (ei_rng1 (ea_cons (ev_cb (ea_cons (ev_var (d := .list (rs.map PyData.str)) (by rfl)) ea_nil) cd_lenL) ea_nil) (by rw [List.length_map]; omega) (by rw [List.length_map]; omega)) (fun i ρ => ∃ (ls : List Str) (cs : List (List Str)) (a : Nat) (s6 s7 : Sl), LinesW ls (cs.map fun c => ("rooms" : Str) :: c) ∧ cs.flatten = rs.take a ∧ (∀ c ∈ cs, c ≠ []) ∧ cs.length ≤ i ∧ (a < rs.length → i ≤ a) ∧ a ≤ 80 ∧
      ρ = [.fr (schD (srt ltS rs) qs), .fr (.list (rs.map PyData.str)), .fr (.list (ps.map PyData.int)), .fr (.int b), .ow (.list (ls.map PyData.str)), .fr (.int (a : Nat)), s6, s7, .no, .no, .no, .no, .no, .no, .no, .no]) ⟨[], [], 0, _, _, ⟨rfl, fun l h => (by cases h)⟩, rfl, fun c h => (by cases h), Nat.le_refl _, fun _ => Nat.le_refl _, by decide, rfl⟩ ?_ ?_
    · rintro i ρ hi ⟨ls, cs, a, s6, s7, L, hf, hc, hcl, hai, ha, rfl⟩
      have hi : i < rs.length := by rw [List.length_map] at hi; omega
      have hll := L.len
      rw [List.length_map] at hll
      refine ⟨_, _, gt_name, ?_⟩
      refine st_if (b := decide (a < rs.length)) (et_is (et_test (ev_op (ev_var (by rfl)) (ev_cb (ea_cons (ev_var (d := .list (rs.map PyData.str)) (by rfl)) ea_nil) cd_lenL) od_cmpI)) (by rw [List.length_map]; exact decide_eq_decide.mpr (by omega))) (fun hb => ?_) (fun hb => st_next ⟨ls, cs, a, _, _, L, hf, hc, by omega, fun h => absurd h (of_decide_eq_false hb), ha, rfl⟩)
      have hal := of_decide_eq_true hb
      have hm : ∃ m : Int, 1 ≤ m ∧ m ≤ 40 ∧ EV K (tIf (tTest (tOp (rEqU K) (tOp rModU (tVar 6) (tC (.int 2))) (tC (.int 0)))) (tCB (rLen K) (tCons (tVar 1) tNil)) (tC (.int 3))) [.fr (schD (srt ltS rs) qs), .fr (.list (rs.map PyData.str)), .fr (.list (ps.map PyData.int)), .fr (.int b), .ow (.list (ls.map PyData.str)), .fr (.int (a : Nat)), .fr (.int (i : Nat)), s7, .no, .no, .no, .no, .no, .no, .no, .no] (.int m) := by
        have ht : ET K (tTest (tOp (rEqU K) (tOp rModU (tVar 6) (tC (.int 2))) (tC (.int 0)))) ([.fr (schD (srt ltS rs) qs), .fr (.list (rs.map PyData.str)), .fr (.list (ps.map PyData.int)), .fr (.int b), .ow (.list (ls.map PyData.str)), .fr (.int (a : Nat)), .fr (.int (i : Nat)), s7, .no, .no, .no, .no, .no, .no, .no, .no] : List Sl) (decide ((i : Int) % 2 = 0)) := et_test (ev_op (ev_op (ev_var (by rfl)) ev_int (od_mod (by decide))) ev_int od_eqI)
        by_cases h : (i : Int) % 2 = 0
        · rw [decide_eq_true h] at ht
          exact ⟨((rs.map PyData.str).length : Nat), by rw [List.length_map]; omega, by rw [List.length_map]; omega, ev_if1 ht (ev_cb (ea_cons (ev_var (d := .list (rs.map PyData.str)) (by rfl)) ea_nil) cd_lenL)⟩
        · rw [decide_eq_false h] at ht
          exact ⟨3, by decide, by decide, ev_if0 ht ev_int⟩
      obtain ⟨m, hm1, hm2, hme⟩ := hm
      have hx1 := Int.emod_nonneg (pI ps (b + (i : Nat))) (show m ≠ 0 by omega)
      have hx2 := Int.emod_lt_of_pos (pI ps (b + (i : Nat))) (show 0 < m by omega)
      refine q_asg (d := .int (1 + pI ps (b + (i : Nat)) % m)) (ev_op ev_int (ev_op (pl (by rfl) (by rfl) (ev_var (by rfl)) (by omega) (by omega)) hme (od_mod (by omega))) od_addI) ?_
      obtain ⟨n, hn⟩ : ∃ n : Nat, 1 + pI ps (b + (i : Nat)) % m = (n : Nat) := ⟨(1 + pI ps (b + (i : Nat)) % m).toNat, by omega⟩
      have hn1 : 1 ≤ n ∧ n ≤ 40 := by omega
      rw [hn]
      have hcw : ∀ w ∈ ("rooms" : Str) :: (rs.drop a).take n, WordP w := fun w hw => by
        rcases List.mem_cons.mp hw with rfl | hw
        · exact rooms_wordP
        · exact name_word (R.good w (List.mem_of_mem_drop (List.mem_of_mem_take hw)))
      have hcn : ((rs.drop a).take n).length ≤ rs.length := by rw [List.length_take, List.length_drop]; omega
      have hcne : (rs.drop a).take n ≠ [] := fun e => by
        have := congrArg List.length e
        rw [List.length_take, List.length_drop, List.length_nil] at this
        omega
      refine q_append (ds := ls.map PyData.str) (d := .str (spT (("rooms" : Str) :: (rs.drop a).take n) (pI ps (b + (i : Nat)) / 41))) (by rfl) (ev_call (ea_cons (d := .list ((("rooms" : Str) :: (rs.drop a).take n).map PyData.str)) (ev_N (en_is (en_op (ev_N (en_lst (ea_cons ev_str ea_nil) (by show 1 ≤ sizeLine; rw [sizeLine_eq]; decide))) (ev_N (en_is (en_slL (ev_var (d := .list (rs.map PyData.str)) (by rfl)) (eo_some (ev_var (by rfl))) (eo_some (ev_op (ev_var (by rfl)) (ev_var (by rfl)) od_addI))) (congrArg PyData.list (cut_mid (a := a) (n := n) rfl (by omega))))) (on_addL (by rw [List.length_map, sizeLine_eq]; show 1 + _ ≤ _; omega))) (by rfl))) (ea_cons (ev_op (pl (by rfl) (by rfl) (ev_var (by rfl)) (by omega) (by omega)) ev_int (od_div (by decide))) ea_nil)) ⟨_, _, rfl, by rw [List.length_cons]; omega, fun w hw => (hcw w hw).2.2.2, rfl⟩) (by rw [List.length_map]; omega) ?_
      refine st_augI (a := (a : Nat)) (b := (n : Nat)) (by rfl) (ev_var (by rfl)) ?_
      refine ⟨ls ++ [spT (("rooms" : Str) :: (rs.drop a).take n) (pI ps (b + (i : Nat)) / 41)], cs ++ [(rs.drop a).take n], a + n, .fr (.int (i : Nat)), .fr (.int (n : Nat)), ?_, ?_, fun c h => ?_, by rw [List.length_append]; exact Nat.succ_le_succ hcl, fun h => by have := hai hal; omega, by omega, by rw [List.map_append (l₁ := ls)]; rfl⟩
      · rw [List.map_append]
        exact L.add (lineW_sp _ hcw (by rw [List.length_cons]; omega))
      · rw [List.flatten_append, hf, List.take_add]
        simp
      · rcases List.mem_append.mp h with h | h
        · exact hc c h
        · rw [List.mem_singleton.mp h]; exact hcne
    rintro ρ ⟨ls, cs, a, s6, s7, L, hf, hc, hcl, hai, ha, rfl⟩
    rw [List.length_map] at hcl hai
    have hf2 : cs.flatten = rs := by
      rw [hf]
      refine List.take_of_length_le ?_
      by_cases h : a < rs.length
      · have := hai h
        omega
      · omega
    have hcl2 : cs.length ≤ 40 := by omega
    clear hf hai hcl
    -- others
    refine q_asgN (d := dkD (oD [])) (by exact en_dnewK) ?_
    refine q_for (ei_rng1 (ea_cons (ev_cb (ea_cons (ev_s1 (ev_var (by rfl))) ea_nil) cd_lenT) ea_nil) (by rw [List.length_map]; omega) (by rw [List.length_map]; omega)) (fun i ρ => ∃ (os : List (Str × List Str)) (s6 s9 s10 s11 : Sl), OI qs os (3 * i) (3 * i) (qs.take i) ∧
      ρ = [.fr (schD (srt ltS rs) qs), .fr (.list (rs.map PyData.str)), .fr (.list (ps.map PyData.int)), .fr (.int b), .ow (.list (ls.map PyData.str)), .fr (.int (a : Nat)), s6, s7, .ow (dkD (oD os)), s9, s10, s11, .no, .no, .no, .no]) ⟨[], _, _, _, _, ⟨List.nodup_nil, fun e h => (by cases h), Nat.zero_le _, fun p h => (by cases h)⟩, rfl⟩ ?_ ?_
    · rintro i ρ hi ⟨os, s6, s9, s10, s11, I, rfl⟩
      have hi : i < qs.length := by rw [List.length_map] at hi; omega
      have hp := getD_mem (z := (Str.empty, Str.empty)) hi
      rw [take_one hi (Str.empty, Str.empty)]
      refine ⟨_, _, gt_name, ?_⟩
      refine q_asg (ev_op (pl2 (by rfl) (by rfl) (ev_op (ev_var (by rfl)) ev_int (od_mod (by decide))) (by omega) (by omega)) (ev_var (by rfl)) od_addI) ?_
      have hix : EV K (tOp (rIx K) (tOp (rIx K) (tVar 0) (tC (.int 1))) (tVar 6)) ([.fr (schD (srt ltS rs) qs), .fr (.list (rs.map PyData.str)), .fr (.list (ps.map PyData.int)), .fr (.int b), .ow (.list (ls.map PyData.str)), .fr (.int (a : Nat)), .fr (.int (i : Nat)), s7, .ow (dkD (oD os)), .fr (.int (pI ps (b + 40 + (i : Nat) % 20) + (i : Nat))), s10, s11, .no, .no, .no, .no] : List Sl) (pqD (qs.getD i (Str.empty, Str.empty))) := ev_is (ev_op (ev_s1 (ev_var (by rfl))) (ev_var (by rfl)) (od_ixT (atI_nn PyData.none (by omega) (by rw [List.length_map]; omega)))) (map_getD hi _ _)
      generalize qs.getD i (Str.empty, Str.empty) = p at hp hix
      generalize pI ps (b + 40 + (i : Nat) % 20) + (i : Nat) = x at hix
      refine q_asgG (d := .tuple [.str p.1, .str p.2]) hix (gt_tup rfl (gts_cons gt_name (gts_cons gt_name gts_nil))) ?_
      -- one, other: the pair, either way round
      refine q_cut (fun ρ => ∃ z y : Str, ((z = p.1 ∧ y = p.2) ∨ (z = p.2 ∧ y = p.1)) ∧ ρ = [.fr (schD (srt ltS rs) qs), .fr (.list (rs.map PyData.str)), .fr (.list (ps.map PyData.int)), .fr (.int b), .ow (.list (ls.map PyData.str)), .fr (.int (a : Nat)), .fr (.int (i : Nat)), s7, .ow (dkD (oD os)), .fr (.int x), .fr (.str z), .fr (.str y), .no, .no, .no, .no]) ?_ ?_
      · have hany : ∃ bb, ET K (tAnd (tTest (tOp (rEqU K) (tOp rModU (tVar 9) (tC (.int 2))) (tC (.int 1)))) (tOr (tTest (tOp (rNinU K) (tVar 10) (tC (.str "ENWS")))) (tTest (tOp rGtU (tOp rModU (tOp (rIx K) (tVar 2) (tOp (rAddU K) (tVar 3) (tC (.int 66)))) (tC (.int 3))) (tC (.int 0)))))) ([.fr (schD (srt ltS rs) qs), .fr (.list (rs.map PyData.str)), .fr (.list (ps.map PyData.int)), .fr (.int b), .ow (.list (ls.map PyData.str)), .fr (.int (a : Nat)), .fr (.int (i : Nat)), s7, .ow (dkD (oD os)), .fr (.int x), .fr (.str p.1), .fr (.str p.2), .no, .no, .no, .no] : List Sl) bb := by
          obtain ⟨b1, h1⟩ := ev_enws (K := K) (ρ := ([.fr (schD (srt ltS rs) qs), .fr (.list (rs.map PyData.str)), .fr (.list (ps.map PyData.int)), .fr (.int b), .ow (.list (ls.map PyData.str)), .fr (.int (a : Nat)), .fr (.int (i : Nat)), s7, .ow (dkD (oD os)), .fr (.int x), .fr (.str p.1), .fr (.str p.2), .no, .no, .no, .no] : List Sl)) (n := 10) (z := p.1) rfl
          exact ⟨_, et_and (et_test (ev_op (ev_op (ev_var (by rfl)) ev_int (od_mod (by decide))) ev_int od_eqI)) fun _ => et_or h1 fun _ => et_test (ev_op (ev_op (pl (by rfl) (by rfl) ev_int (by decide) (by decide)) ev_int (od_mod (by decide))) ev_int od_cmpI)⟩
        obtain ⟨bb, hany⟩ := hany
        refine st_if hany (fun _ => st_par (ev_var (by rfl)) (ev_var (by rfl)) ⟨p.2, p.1, .inr ⟨rfl, rfl⟩, rfl⟩) (fun _ => st_next ⟨p.1, p.2, .inl ⟨rfl, rfl⟩, rfl⟩)
      rintro ρ ⟨z, y, hzy, rfl⟩
      have hp2 : (p.1, p.2) ∈ qs := hp
      have tzy : Tou qs z y := by
        rcases hzy with ⟨rfl, rfl⟩ | ⟨rfl, rfl⟩
        · exact .inl hp2
        · exact .inr hp2
      have tyz : Tou qs y z := Or.symm tzy
      have cov : ∀ os' : List (Str × List Str), (∃ e ∈ os', e.1 = z ∧ y ∈ e.2) → Cov os' p := fun os' ⟨e, he, h1, h2⟩ => by
        rcases hzy with ⟨rfl, rfl⟩ | ⟨rfl, rfl⟩
        · exact ⟨e, he, .inl ⟨h1, h2⟩⟩
        · exact ⟨e, he, .inr ⟨h1, h2⟩⟩
      have rl : ∀ {os' : List (Str × List Str)} {l c : Nat} {dn : List (Str × Str)} (w : Str), OI qs os' l c dn → (rowO os' w).length ≤ l := fun w I => by
        rcases row_mem with e | e
        · rw [e]; exact Nat.zero_le _
        · exact (I.row _ e).2.1
      obtain ⟨I1, c1⟩ := I.add tzy
      have I1 := I1.cover (cov _ c1)
      refine st_seq ?_
      refine q_addO (z := z) (y := y) (by rfl) (ev_var (by rfl)) (ev_is (ev_get2O (n := 8) (k := .inr z) (by rfl) (ev_var (by rfl)) rfl ev_emp) (get_row os z)) (ev_var (by rfl)) (by have := rl z I; omega) (by have := I.cnt; omega) ?_
      have kz : z ∈ (addO os z y).map (·.1) := addO_key
      generalize addO os z y = o1 at I1 kz
      -- the second
      refine q_cut (fun ρ => ∃ o2, OI qs o2 (3 * i + 2) (3 * i + 2) (qs.take i ++ [p]) ∧ z ∈ o2.map (·.1) ∧ ρ = [.fr (schD (srt ltS rs) qs), .fr (.list (rs.map PyData.str)), .fr (.list (ps.map PyData.int)), .fr (.int b), .ow (.list (ls.map PyData.str)), .fr (.int (a : Nat)), .fr (.int (i : Nat)), s7, .ow (dkD (oD o2)), .fr (.int x), .fr (.str z), .fr (.str y), .no, .no, .no, .no]) ?_ ?_
      · refine st_if (et_test (ev_op (ev_op (ev_op (ev_var (by rfl)) ev_int (od_div (by decide))) ev_int (od_mod (by decide))) ev_int od_eqI)) (fun _ => ?_) (fun _ => st_next ⟨o1, I1.up (by omega) (by omega), kz, rfl⟩)
        refine q_addO (z := y) (y := z) (by rfl) (ev_var (by rfl)) (ev_is (ev_get2O (n := 8) (k := .inr y) (by rfl) (ev_var (by rfl)) rfl ev_emp) (get_row o1 y)) (ev_var (by rfl)) (by have := rl y I1; omega) (by have := I1.cnt; omega) ?_
        refine ⟨addO o1 y z, (I1.add tyz).1, ?_, rfl⟩
        obtain ⟨e, he, hez⟩ := List.mem_map.mp kz
        by_cases q : e.1 = y
        · exact List.mem_map.mpr ⟨_, putO_has, by show y = z; rw [← q, hez]⟩
        · exact List.mem_map.mpr ⟨e, putO_old he q, hez⟩
      rintro ρ ⟨o2, I2, kz2, rfl⟩
      refine st_if (et_test (ev_op (ev_op (ev_op (ev_var (by rfl)) ev_int (od_div (by decide))) ev_int (od_mod (by decide))) ev_int od_eqI)) (fun _ => ?_) (fun _ => st_next ⟨o2, _, _, _, _, I2.up (by omega) (by omega), rfl⟩)
      exact q_addO (z := z) (y := y) (by rfl) (ev_var (by rfl)) (ev_dgetO (n := 8) (k := .inr z) (by rfl) (ev_var (by rfl)) rfl (get_some kz2)) (ev_var (by rfl)) (by have := rl z I2; omega) (by have := I2.cnt; omega) ⟨addO o2 z y, _, _, _, _, (I2.add tzy).1.up (by omega) (by omega), rfl⟩
    rintro ρ ⟨os, s6, s9, s10, s11, I, rfl⟩
    rw [List.length_map] at I
    have I : OI qs os 300 300 qs := by
      have := I.up (l' := 300) (c' := 300) (by omega) (by omega)
      rw [show (((qs.length : Nat) : Int)).toNat = qs.length from rfl, List.take_length] at this
      exact this
    refine q_frz (i := 8) rfl ?_
    refine q_asg (d := .list ((os.map (·.1)).map PyData.str)) (ev_N (en_is (en_listDK (kvs := oD os) (ev_var (by rfl))) (congrArg PyData.list (keys_oD os)))) ?_
    refine q_cut (fun ρ => ∃ (F : List Str) (s13 : Sl), (∀ z, z ∈ F ↔ z ∈ os.map (·.1)) ∧ F.length ≤ 300 ∧ ρ = [.fr (schD (srt ltS rs) qs), .fr (.list (rs.map PyData.str)), .fr (.list (ps.map PyData.int)), .fr (.int b), .ow (.list (ls.map PyData.str)), .fr (.int (a : Nat)), s6, s7, .fr (dkD (oD os)), s9, s10, s11, .fr (.list (F.map PyData.str)), s13, .no, .no]) ?_ ?_
    · have hkl : (os.map (·.1)).length ≤ 300 := by rw [List.length_map]; exact I.cnt
      generalize os.map (·.1) = F0 at hkl ⊢
      refine st_if (b := decide (0 < F0.length)) (et_is (et_test (ev_op (ev_cb (ea_cons (ev_var (d := .list (F0.map PyData.str)) (by rfl)) ea_nil) cd_lenL) ev_int od_cmpI)) (by rw [List.length_map]; exact decide_eq_decide.mpr (by omega))) (fun hb => ?_) (fun _ => st_next ⟨F0, _, fun z => Iff.rfl, hkl, rfl⟩)
      have h0 := of_decide_eq_true hb
      have hx1 := Int.emod_nonneg (pI ps b) (show ((F0.length : Nat) : Int) ≠ 0 by omega)
      refine q_asg (d := .int ((pI ps b % ((F0.length : Nat) : Int)).toNat : Nat)) (ev_is (ev_op (ev_op (ev_var (by rfl)) (ev_var (by rfl)) (od_ixL (pI_get (i := b) (by omega) (by omega)))) (ev_cb (ea_cons (ev_var (d := .list (F0.map PyData.str)) (by rfl)) ea_nil) cd_lenL) (od_mod (by rw [List.length_map]; omega))) (by rw [List.length_map]; exact congrArg PyData.int (Int.toNat_of_nonneg hx1).symm)) ?_
      generalize (pI ps b % ((F0.length : Nat) : Int)).toNat = t
      refine st_asg (d := .list ((F0.drop t ++ F0.take t).map PyData.str)) (ev_N (en_is (en_op (ev_N (en_is (en_slL (ev_var (d := .list (F0.map PyData.str)) (by rfl)) (eo_some (ev_var (by rfl))) eo_none) (congrArg PyData.list cut_drop))) (ev_N (en_is (en_slL (ev_var (d := .list (F0.map PyData.str)) (by rfl)) eo_none (eo_some (ev_var (by rfl)))) (congrArg PyData.list cut_take))) (on_addL (by rw [List.length_map, List.length_map, List.length_drop, List.length_take, sizeLine_eq]; omega))) (by rw [List.map_append]))) ?_
      refine ⟨F0.drop t ++ F0.take t, _, fun z => rot_mem, ?_, rfl⟩
      rw [List.length_append, List.length_drop, List.length_take]
      omega
    rintro ρ ⟨F, s13, hF, hFl, rfl⟩
    refine q_for (ei_rng1 (ea_cons (ev_cb (ea_cons (ev_var (d := .list (F.map PyData.str)) (by rfl)) ea_nil) cd_lenL) ea_nil) (by rw [List.length_map]; omega) (by rw [List.length_map]; omega)) (fun i ρ => ∃ (ls : List Str) (rows : List (Str × List Str)) (s6 s14 s15 : Sl), LinesW ls ((cs.map fun c => ("rooms" : Str) :: c) ++ rows.map fun r => (r.1 ++ (":" : Str)) :: r.2) ∧ (∀ r ∈ rows, r.2 ≠ [] ∧ ∀ y ∈ r.2, Tou qs r.1 y) ∧ rows.length ≤ 2 * i ∧
      (∀ z ∈ F.take i, ∀ y ∈ rowO os z, ∃ r ∈ rows, r.1 = z ∧ y ∈ r.2) ∧
      ρ = [.fr (schD (srt ltS rs) qs), .fr (.list (rs.map PyData.str)), .fr (.list (ps.map PyData.int)), .fr (.int b), .ow (.list (ls.map PyData.str)), .fr (.int (a : Nat)), s6, s7, .fr (dkD (oD os)), s9, s10, s11, .fr (.list (F.map PyData.str)), s13, s14, s15]) ⟨ls, [], _, _, _, by rw [List.map_nil, List.append_nil]; exact L, fun r h => (by cases h), Nat.le_refl _, fun z h => (by cases h), rfl⟩ ?_ ?_
    · clear L
      clear ls
      rintro i ρ hi ⟨ls, rows, s6, s14, s15, L, hr, hrl, hcov, rfl⟩
      have hi : i < F.length := by rw [List.length_map] at hi; omega
      have hll := L.len
      rw [List.length_append, List.length_map, List.length_map] at hll
      have hzk := (hF _).mp (getD_mem (z := Str.empty) hi)
      refine ⟨_, _, gt_name, ?_⟩
      rw [take_one hi Str.empty]
      have hz : ∀ {ρ : List Sl}, ρ[12]? = some (.fr (.list (F.map PyData.str))) → ρ[6]? = some (.fr (.int (i : Nat))) → EV K (tOp (rIx K) (tVar 12) (tVar 6)) ρ (.str (F.getD i Str.empty)) := fun h1 h2 => ev_op (ev_var h1) (ev_var h2) (od_ixL (atI_strs (ys := F) (i := ((i : Nat) : Int)) (by omega) (by omega)))
      generalize F.getD i Str.empty = z at hzk hz
      obtain ⟨e, he, hez⟩ := List.mem_map.mp hzk
      have hrow : rowO os z = e.2 := by rw [← hez]; exact find_mem I.nd he
      obtain ⟨g1, g2, g3⟩ := I.row e he
      rw [hez] at g3
      refine q_asg (d := .list ((rowO os z).map PyData.str)) (ev_getD (k := .inr z) (ev_var (by rfl)) (hz (by rfl) (by rfl)) rfl (get_some hzk)) ?_
      rw [hrow]
      generalize e.2 = row at g1 g2 g3 hrow ⊢
      have hr1 : 1 ≤ row.length := by
        cases row with
        | nil => exact absurd rfl g1
        | cons a r => rw [List.length_cons]; omega
      have hx1 := Int.emod_nonneg (pI ps (b + 60 + (i : Nat) % 5) + (i : Nat)) (show ((row.length : Nat) : Int) ≠ 0 by omega)
      have hx2 := Int.emod_lt_of_pos (pI ps (b + 60 + (i : Nat) % 5) + (i : Nat)) (show (0 : Int) < ((row.length : Nat) : Int) by omega)
      obtain ⟨n, hn⟩ : ∃ n : Nat, 1 + (pI ps (b + 60 + (i : Nat) % 5) + (i : Nat)) % ((row.length : Nat) : Int) = (n : Nat) := ⟨(1 + (pI ps (b + 60 + (i : Nat) % 5) + (i : Nat)) % ((row.length : Nat) : Int)).toNat, by omega⟩
      refine q_asg (d := .int (n : Nat)) (ev_is (ev_op ev_int (ev_op (ev_op (pl2 (by rfl) (by rfl) (ev_op (ev_var (by rfl)) ev_int (od_mod (by decide))) (by omega) (by omega)) (ev_var (by rfl)) od_addI) (ev_cb (ea_cons (ev_var (d := .list (row.map PyData.str)) (by rfl)) ea_nil) cd_lenL) (od_mod (by rw [List.length_map]; omega))) od_addI) (by rw [List.length_map]; exact congrArg PyData.int hn)) ?_
      have hn1 : 1 ≤ n ∧ n ≤ row.length := by omega
      have nz : NaS z := by
        cases row with
        | nil => exact absurd rfl g1
        | cons a r => exact (hT _ _ (g3 a List.mem_cons_self)).1
      have hw : ∀ q : List Str, (∀ y ∈ q, y ∈ row) → ∀ w ∈ (z ++ (":" : Str)) :: q, WordP w := fun q hq w hw => by
        rcases List.mem_cons.mp hw with rfl | hw
        · exact colon_word nz.word nz.small
        · exact (hT _ _ (g3 w (hq w hw))).2.word
      have ec : (":" : Str).length = 1 := by decide +kernel
      have hzl := nz.small
      have hp1 : ∀ y ∈ row.take n, y ∈ row := fun y h => List.mem_of_mem_take h
      have hp2 : ∀ y ∈ row.drop n, y ∈ row := fun y h => List.mem_of_mem_drop h
      have hl1 : (row.take n).length ≤ row.length := by rw [List.length_take]; exact Nat.min_le_right _ _
      have hl2 : (row.drop n).length ≤ row.length := by rw [List.length_drop]; omega
      have hn1' : row.take n ≠ [] := fun e => by
        have := congrArg List.length e
        rw [List.length_take, List.length_nil] at this
        omega
      refine q_append (ds := ls.map PyData.str) (d := .str (spT ((z ++ (":" : Str)) :: row.take n) (pI ps (b + (i : Nat) % 40) / 97))) (by rfl) (ev_call (ea_cons (d := .list (((z ++ (":" : Str)) :: row.take n).map PyData.str)) (ev_N (en_is (en_op (ev_N (en_lst (ea_cons (ev_op (hz (by rfl) (by rfl)) ev_str (od_addS (by rw [ec, sizeLine_eq]; omega))) ea_nil) (by show 1 ≤ sizeLine; rw [sizeLine_eq]; decide))) (ev_N (en_is (en_slL (ev_var (d := .list (row.map PyData.str)) (by rfl)) eo_none (eo_some (ev_var (by rfl)))) (congrArg PyData.list cut_take))) (on_addL (by rw [List.length_map, sizeLine_eq]; show 1 + _ ≤ _; omega))) (by rfl))) (ea_cons (ev_op (pl (by rfl) (by rfl) (ev_op (ev_var (by rfl)) ev_int (od_mod (by decide))) (by omega) (by omega)) ev_int (od_div (by decide))) ea_nil)) ⟨_, _, rfl, by rw [List.length_cons]; omega, fun w h => (hw _ hp1 w h).2.2.2, rfl⟩) (by rw [List.length_map]; omega) ?_
      have L1 := L.add (lineW_sp (pI ps (b + (i : Nat) % 40) / 97) (hw _ hp1) (by rw [List.length_cons]; omega))
      refine st_if (b := decide (n < row.length)) (et_is (et_test (ev_op (ev_var (by rfl)) (ev_cb (ea_cons (ev_var (d := .list (row.map PyData.str)) (by rfl)) ea_nil) cd_lenL) od_cmpI)) (by rw [List.length_map]; exact decide_eq_decide.mpr (by omega))) (fun hb => ?_) (fun hb => st_next ?_)
      · have hb := of_decide_eq_true hb
        have hn2' : row.drop n ≠ [] := fun e => by
          have := congrArg List.length e
          rw [List.length_drop, List.length_nil] at this
          omega
        have L2 := L1.add (lineW_sp (pI ps (b + (i : Nat) % 40) / 89) (hw _ hp2) (by rw [List.length_cons]; omega))
        refine st_append (ds := ls.map PyData.str ++ [.str (spT ((z ++ (":" : Str)) :: row.take n) (pI ps (b + (i : Nat) % 40) / 97))]) (d := .str (spT ((z ++ (":" : Str)) :: row.drop n) (pI ps (b + (i : Nat) % 40) / 89))) (by rfl) (ev_call (ea_cons (d := .list (((z ++ (":" : Str)) :: row.drop n).map PyData.str)) (ev_N (en_is (en_op (ev_N (en_lst (ea_cons (ev_op (hz (by rfl) (by rfl)) ev_str (od_addS (by rw [ec, sizeLine_eq]; omega))) ea_nil) (by show 1 ≤ sizeLine; rw [sizeLine_eq]; decide))) (ev_N (en_is (en_slL (ev_var (d := .list (row.map PyData.str)) (by rfl)) (eo_some (ev_var (by rfl))) eo_none) (congrArg PyData.list cut_drop))) (on_addL (by rw [List.length_map, sizeLine_eq]; show 1 + _ ≤ _; omega))) (by rfl))) (ea_cons (ev_op (pl (by rfl) (by rfl) (ev_op (ev_var (by rfl)) ev_int (od_mod (by decide))) (by omega) (by omega)) ev_int (od_div (by decide))) ea_nil)) ⟨_, _, rfl, by rw [List.length_cons]; omega, fun w h => (hw _ hp2 w h).2.2.2, rfl⟩) (by rw [List.length_append, List.length_map]; show _ + 1 < _; omega) ?_
        refine ⟨ls ++ [spT ((z ++ (":" : Str)) :: row.take n) (pI ps (b + (i : Nat) % 40) / 97)] ++ [spT ((z ++ (":" : Str)) :: row.drop n) (pI ps (b + (i : Nat) % 40) / 89)], rows ++ [(z, row.take n), (z, row.drop n)], .fr (.int (i : Nat)), .fr (.list (row.map PyData.str)), .fr (.int (n : Nat)), ?_, fun r h => ?_, by rw [List.length_append]; show _ + 2 ≤ _; omega, fun z' h y hy => ?_, ?_⟩
        · rw [List.map_append (l₁ := rows), ← List.append_assoc]
          rw [List.append_assoc (_ ++ _)] at L2
          exact L2
        · rcases List.mem_append.mp h with h | h
          · exact hr r h
          · rcases List.mem_cons.mp h with rfl | h
            · exact ⟨hn1', fun y hy => g3 y (hp1 y hy)⟩
            · rw [List.mem_singleton.mp h]
              exact ⟨hn2', fun y hy => g3 y (hp2 y hy)⟩
        · rcases List.mem_append.mp h with h | h
          · obtain ⟨r, hr1, hr2⟩ := hcov z' h y hy
            exact ⟨r, List.mem_append_left _ hr1, hr2⟩
          · rw [List.mem_singleton.mp h, hrow] at hy
            rw [List.mem_singleton.mp h]
            rw [← List.take_append_drop n row] at hy
            rcases List.mem_append.mp hy with hy | hy
            · exact ⟨_, List.mem_append_right _ List.mem_cons_self, rfl, hy⟩
            · exact ⟨_, List.mem_append_right _ (List.mem_cons_of_mem _ List.mem_cons_self), rfl, hy⟩
        · rw [List.map_append (l₁ := ls ++ _), List.map_append (l₁ := ls)]
          rfl
      · have hb := of_decide_eq_false hb
        have hall : row.take n = row := List.take_of_length_le (by omega)
        refine ⟨ls ++ [spT ((z ++ (":" : Str)) :: row.take n) (pI ps (b + (i : Nat) % 40) / 97)], rows ++ [(z, row.take n)], .fr (.int (i : Nat)), .fr (.list (row.map PyData.str)), .fr (.int (n : Nat)), ?_, fun r h => ?_, by rw [List.length_append]; show _ + 1 ≤ _; omega, fun z' h y hy => ?_, ?_⟩
        · rw [List.map_append (l₁ := rows), ← List.append_assoc]
          exact L1
        · rcases List.mem_append.mp h with h | h
          · exact hr r h
          · rw [List.mem_singleton.mp h]
            exact ⟨hn1', fun y hy => g3 y (hp1 y hy)⟩
        · rcases List.mem_append.mp h with h | h
          · obtain ⟨r, hr1, hr2⟩ := hcov z' h y hy
            exact ⟨r, List.mem_append_left _ hr1, hr2⟩
          · rw [List.mem_singleton.mp h, hrow] at hy
            rw [List.mem_singleton.mp h]
            exact ⟨_, List.mem_append_right _ List.mem_cons_self, rfl, by show y ∈ row.take n; rw [hall]; exact hy⟩
        · rw [List.map_append (l₁ := ls)]
          rfl
    clear L
    clear ls
    rintro ρ ⟨ls, rows, s6', s14, s15, L, hr, hrl, hcov, rfl⟩
    rw [List.length_map] at hrl hcov
    rw [show (((F.length : Nat) : Int)).toNat = F.length from rfl] at hrl hcov
    rw [List.take_length] at hcov
    have hll := L.len
    rw [List.length_append, List.length_map, List.length_map] at hll
    refine q_frz (i := 4) rfl (st_ret (ev_var (by rfl)) ?_)
    refine ⟨_, rfl, rs, qs, _, ls, rfl, rfl, ?_, ⟨⟨cs, rows, ?_, hf2, hc, fun r h => ⟨(hr r h).1, fun y hy => tou_ord W.lt ((hr r h).2 y hy)⟩, fun p hp => ?_⟩, L.ok, by omega⟩⟩
    · omega
    · unfold toldW
      rw [L.ws, List.filter_append, List.filter_eq_self.mpr, List.filter_eq_self.mpr]
      · intro ws h
        obtain ⟨r, hr', rfl⟩ := List.mem_map.mp h
        obtain ⟨h1, h2⟩ := hr r hr'
        cases e : r.2 with
        | nil => exact absurd e h1
        | cons y q =>
          have := (hT _ _ (h2 y (by rw [e]; exact List.mem_cons_self))).1
          rw [pass_touch this]
          rfl
      · intro ws h
        obtain ⟨c, hc', rfl⟩ := List.mem_map.mp h
        rw [pass_rooms]
        rfl
    · obtain ⟨e, he, k⟩ := I.all p hp
      have hk : e.1 ∈ F := (hF _).mpr (List.mem_map.mpr ⟨e, he, rfl⟩)
      have hro := find_mem I.nd he
      rcases k with ⟨k1, k2⟩ | ⟨k1, k2⟩
      · obtain ⟨r, hr1, hr2, hr3⟩ := hcov _ hk p.2 (by rw [hro]; exact k2)
        exact ⟨r, hr1, p.2, hr3, ord_of (W.lt p hp) (.inl ⟨hr2.trans k1, rfl⟩)⟩
      · obtain ⟨r, hr1, hr2, hr3⟩ := hcov _ hk p.1 (by rw [hro]; exact k2)
        exact ⟨r, hr1, p.1, hr3, ord_of (W.lt p hp) (.inr ⟨hr2.trans k1, rfl⟩)⟩
/-! the first word of a line -/
def wordsL (l : List Nat) : List (List Nat) := (cutAt 32 l).filter fun p => !p.isEmpty
theorem words_L (z : Str) : wordsT z = (wordsL z.cps.toList).map mkS := by
  unfold wordsT wordsL piecesT
  rw [List.filter_map]
  refine congrArg (List.map mkS) (List.filter_congr fun p _ => ?_)
  show (!decide (mkS p = "")) = !p.isEmpty
  cases p with
  | nil => decide +kernel
  | cons c r =>
    have : mkS (c :: r) ≠ "" := fun e => by
      have := congrArg (fun z : Str => z.cps.toList) e
      rw [mkS_list] at this
      exact absurd this (by rw [show ("" : Str).cps.toList = [] from by decide +kernel]; exact List.cons_ne_nil _ _)
    rw [decide_eq_false this]
    rfl
theorem wl_sp (r : List Nat) : wordsL (32 :: r) = wordsL r := by
  unfold wordsL
  rw [cutAt_hit, List.filter_cons, if_neg (by decide)]
theorem wl_app (p r : List Nat) : wordsL (p ++ 32 :: r) = wordsL p ++ wordsL r := by
  unfold wordsL
  rw [cutAt_app, List.filter_append]
theorem wl_free {p : List Nat} (h : 32 ∉ p) (hne : p ≠ []) : wordsL p = [p] := by
  unfold wordsL
  rw [cutAt_free h, List.filter_cons, if_pos]
  · rfl
  · cases p with
    | nil => exact absurd rfl hne
    | cons c r => rfl
theorem wl_all : ∀ {r : List Nat}, (∀ x ∈ r, x = 32) → wordsL r = []
  | [], _ => by decide
  | x :: r, h => by
    rw [h x List.mem_cons_self, wl_sp]
    exact wl_all fun y hy => h y (List.mem_cons_of_mem _ hy)
theorem wl_first : ∀ (l w : List Nat) (ws : List (List Nat)), wordsL l = w :: ws → ∃ a rest, l = List.replicate a 32 ++ (w ++ rest) ∧ (ws ≠ [] → ∃ r, rest = 32 :: r ∧ ∃ x ∈ r, x ≠ 32)
  | [], w, ws, h => by exact absurd h (by rw [show wordsL [] = [] from by decide]; exact List.cons_ne_nil _ _ ∘ Eq.symm)
  | c :: r, w, ws, h => by
    by_cases hc : c = 32
    · subst hc
      rw [wl_sp] at h
      obtain ⟨a, rest, e, k⟩ := wl_first r w ws h
      exact ⟨a + 1, rest, by rw [List.replicate_succ, List.cons_append, ← e], k⟩
    · by_cases hm : 32 ∈ c :: r
      · obtain ⟨p, q, e, hp⟩ := List.eq_append_cons_of_mem hm
        have hpn : p ≠ [] := fun k => by
          rw [k, List.nil_append] at e
          exact hc (List.cons.inj e).1
        rw [e, wl_app, wl_free hp hpn] at h
        obtain ⟨h1, h2⟩ := List.cons.inj h
        refine ⟨0, 32 :: q, by rw [← h1, e]; rfl, fun hw => ⟨q, rfl, ?_⟩⟩
        refine Classical.byContradiction fun k => hw ?_
        rw [← h2]
        exact wl_all fun x hx => Classical.byContradiction fun k2 => k ⟨x, hx, k2⟩
      · rw [wl_free hm (List.cons_ne_nil _ _)] at h
        obtain ⟨h1, h2⟩ := List.cons.inj h
        exact ⟨0, [], by rw [← h1, List.append_nil]; rfl, fun hw => absurd h2.symm hw⟩
theorem tw_rep {g : Nat → Bool} (hg : g 32 = true) {m : List Nat} (hm : m.takeWhile g = []) : ∀ a, (List.replicate a 32 ++ m).takeWhile g = List.replicate a 32
  | 0 => hm
  | a + 1 => by rw [List.replicate_succ, List.cons_append, List.takeWhile_cons, if_pos hg, tw_rep hg hm a]
theorem tw_short {g : Nat → Bool} {l2 : List Nat} : ∀ {l : List Nat}, (∃ x ∈ l, g x = false) → ((l ++ l2).takeWhile g).length < l.length
  | [], h => by obtain ⟨x, hx, _⟩ := h; cases hx
  | c :: r, h => by
    rw [List.cons_append, List.takeWhile_cons, List.length_cons]
    cases hc : g c with
    | false => rw [if_neg (by decide)]; exact Nat.succ_pos _
    | true =>
      obtain ⟨x, hx, hg⟩ := h
      have : ∃ x ∈ r, g x = false := by
        rcases List.mem_cons.mp hx with rfl | hx
        · rw [hc] at hg; cases hg
        · exact ⟨x, hx, hg⟩
      rw [if_pos rfl, List.length_cons]
      exact Nat.succ_lt_succ (tw_short this)
theorem strip_rooms {z : Str} {c : List Str} (h : wordsT z = ("rooms" : Str) :: c) (hc : c ≠ []) : Txt.startswith (Txt.stripChars z " ") "rooms " = true := by
  have er : ("rooms" : Str) = mkS [114, 111, 111, 109, 115] := by decide +kernel
  rw [words_L] at h
  cases hw : wordsL z.cps.toList with
  | nil => rw [hw] at h; cases h
  | cons w ws =>
    rw [hw, List.map_cons] at h
    obtain ⟨h1, h2⟩ := List.cons.inj h
    have ew : w = [114, 111, 111, 109, 115] := by
      rw [er] at h1
      exact congrArg (fun z : Str => z.cps.toList) h1
    have hws : ws ≠ [] := fun e => hc (by rw [← h2, e]; rfl)
    obtain ⟨a, rest, e, k⟩ := wl_first _ w ws hw
    obtain ⟨r, rfl, x, hx, hx2⟩ := k hws
    have hg : (" " : Str).cps.contains = fun c : Nat => c == 32 := by
      funext c
      show (#[32] : Array Nat).contains c = (c == 32)
      simp [eq_comm]
      by_cases k : c = 32
      · rw [k]; rfl
      · rw [decide_eq_false k]; exact beq_eq_false_iff_ne.mpr k
    let g : Nat → Bool := fun c => c == 32
    have lo : stripLo g true z = a := by
      unfold stripLo
      rw [if_pos rfl, e, tw_rep (by decide) (by rw [ew]; rfl), List.length_replicate]
    have hd : z.cps.toList.drop a = w ++ 32 :: r := by
      have := List.drop_left (l₁ := List.replicate a 32) (l₂ := w ++ 32 :: r)
      rw [List.length_replicate, ← e] at this
      exact this
    have hlen : z.length = a + (5 + (1 + r.length)) := by
      rw [DL.len_list, e, List.length_append, List.length_replicate, List.length_append, List.length_cons, ew]
      show a + (5 + (r.length + 1)) = _
      omega
    have ht : ((z.cps.toList.drop a).reverse.takeWhile g).length < r.length := by
      rw [hd, List.reverse_append, List.reverse_cons, List.append_assoc]
      have := tw_short (g := g) (l := r.reverse) (l2 := [32] ++ w.reverse) ⟨x, List.mem_reverse.mpr hx, by show (x == 32) = false; simpa using hx2⟩
      rw [List.length_reverse] at this
      exact this
    have hi : stripHi g true z a = z.length - ((z.cps.toList.drop a).reverse.takeWhile g).length := by
      unfold stripHi
      rw [if_pos rfl]
    have key : ∃ n, 7 ≤ n ∧ (Txt.stripChars z " ").cps.toList = (z.cps.toList.drop a).take n := by
      refine ⟨stripHi g true z a - a, by rw [hi]; omega, ?_⟩
      unfold Txt.stripChars Txt.stripBy
      rw [hg]
      show (if stripSame g true true z = true then z else stripped g true true z).cps.toList = _
      split
      · rename_i hs
        unfold stripSame at hs
        rw [lo, Bool.and_eq_true, beq_iff_eq, beq_iff_eq] at hs
        obtain ⟨s1, s2⟩ := hs
        rw [s2, s1, List.drop_zero, Nat.sub_zero, DL.len_list, List.take_length]
      · unfold stripped
        rw [lo]
        exact TL.tl_strSub z a _
    obtain ⟨n, hn, key⟩ := key
    have e1 : ("rooms " : Str).cps.toList = [114, 111, 111, 109, 115, 32] := by decide +kernel
    have e2 : ("rooms " : Str).length = 6 := by decide +kernel
    have hl : 6 ≤ (Txt.stripChars z " ").length := by
      rw [DL.len_list, key, List.length_take, hd, ew]
      have h0 : ([114, 111, 111, 109, 115] ++ 32 :: r : List Nat).length = 5 + (r.length + 1) := List.length_append
      rw [h0]
      have : 0 < r.length := List.length_pos_of_mem hx
      omega
    unfold Txt.startswith
    rw [PySem.StrLaws.subAt_eq, e2, e1, List.drop_zero, key, List.take_take, Nat.min_eq_left (by omega), hd, ew]
    rw [Bool.and_eq_true, decide_eq_true_eq]
    exact ⟨by omega, rfl⟩
/-! joined lines -/
theorem told_map : ∀ (ls : List Str) (k : Nat), (toldL k ls).map (·.2) = toldW ls
  | [], _ => rfl
  | l :: r, k => by
    have e : toldW (l :: r) = toldW [l] ++ toldW r := toldW_app [l] r
    rw [e]
    cases h : passW (wordsT l) with
    | true => rw [told_cons_pass h, toldW_pass h, List.nil_append, told_map r]
    | false => rw [told_cons_not h, toldW_not h, List.map_cons, told_map r]; rfl
theorem lines_join {ls : List Str} (hne : ls ≠ []) (h : ∀ l ∈ ls, 10 ∉ l.cps.toList) : toldW (linesT (Txt.join "\n" ls)) = toldW ls ∧ (∀ l ∈ linesT (Txt.join "\n" ls), l ∈ ls) ∧ (linesT (Txt.join "\n" ls)).length ≤ ls.length := by
  have hp := pieces_join nl_list hne h
  unfold linesT
  by_cases e : Txt.join "\n" ls = ""
  · rw [if_pos e]
    rw [e] at hp
    have : ls = [("" : Str)] := by rw [← hp]; decide +kernel
    refine ⟨?_, fun l h => (by cases h), Nat.zero_le _⟩
    rw [this]
    decide +kernel
  · rw [if_neg e, hp]
    exact ⟨rfl, fun l h => h, Nat.le_refl _⟩
theorem nd_len {α : Type} [DecidableEq α] : ∀ {l P : List α}, l.Nodup → (∀ x ∈ l, x ∈ P) → l.length ≤ P.length
  | [], _, _, _ => Nat.zero_le _
  | x :: l, P, h, s => by
    obtain ⟨h1, h2⟩ := List.nodup_cons.mp h
    have hx := s x List.mem_cons_self
    have ih := nd_len (l := l) (P := P.erase x) h2 fun y hy => (List.mem_erase_of_ne fun (e : y = x) => h1 (by rw [← e]; exact hy)).mpr (s y (List.mem_cons_of_mem _ hy))
    rw [List.length_erase_of_mem hx] at ih
    have := List.length_pos_of_mem hx
    rw [List.length_cons]
    omega
theorem readL_sub {e : Int} {rs' : List Str} {ts' : List (Str × Str)} : ∀ (L : List (Nat × List Str)) (rs : List Str) (ts : List (Str × Str)), readL e L rs ts = .ok rs' ts' → ∀ t ∈ ts', t ∈ ts ∨ ∃ p ∈ L, p.2.getD 0 Str.empty ≠ "rooms" ∧ t ∈ tchW p.2
  | [], rs, ts, h, t, ht => by
    unfold readL at h
    split at h
    · cases h
    · cases h
      exact .inl ht
  | (k, ws) :: L, rs, ts, h, t, ht => by
    cases hf : lineF ws rs (!ts.isEmpty) with
    | some wd => rw [readL_bad hf] at h; cases h
    | none =>
      by_cases ew : ws.getD 0 Str.empty = "rooms"
      · have e2 : readL e ((k, ws) :: L) rs ts = readL e L (rs ++ ws.tail) ts := by
          conv => lhs; unfold readL
          rw [hf]
          exact if_pos ew
        rw [e2] at h
        exact (readL_sub L _ _ h t ht).imp id fun ⟨p, hp, k⟩ => ⟨p, List.mem_cons_of_mem _ hp, k⟩
      · have e2 : readL e ((k, ws) :: L) rs ts = readL e L rs (ts ++ tchW ws) := by
          conv => lhs; unfold readL
          rw [hf]
          exact if_neg ew
        rw [e2] at h
        rcases readL_sub L _ _ h t ht with h3 | ⟨p, hp, k⟩
        · rcases List.mem_append.mp h3 with h3 | h3
          · exact .inl h3
          · exact .inr ⟨_, List.mem_cons_self, ew, h3⟩
        · exact .inr ⟨p, List.mem_cons_of_mem _ hp, k⟩
theorem tp_join {ls : List Str} (hne : ls ≠ []) (h : ∀ l ∈ ls, 10 ∉ l.cps.toList ∧ l.length ≤ 4000) (hl : ls.length ≤ 2400) (hf : fewT ls 300) : TP (Txt.join "\n" ls) := by
  obtain ⟨h1, h2, h3⟩ := lines_join hne fun l hl => (h l hl).1
  have hj := join_len "\n" ls fun l hl => (h l hl).2
  have e : ("\n" : Str).length = 1 := by decide +kernel
  rw [e] at hj
  have hm : ls.length * (4000 + 1) ≤ 2400 * 4001 := Nat.mul_le_mul hl (Nat.le_refl _)
  refine ⟨by omega, by omega, fun l hl => (h l (h2 l hl)).2, fun rs ts hr => ?_⟩
  obtain ⟨P, hP, hk⟩ := hf
  refine Nat.le_trans (nd_len (nodup_dd _) fun x hx => ?_) hP
  obtain ⟨t, ht, rfl⟩ := List.mem_map.mp (mem_dd.mp hx)
  rcases readL_sub _ _ _ hr t ht with hh | ⟨p, hp, q1, q2⟩
  · cases hh
  · have hp2 : p.2 ∈ toldW ls := by rw [← h1, ← told_map _ 0]; exact List.mem_map.mpr ⟨p, hp, rfl⟩
    exact (hk p.2 hp2).elim (fun e => absurd e q1) fun k => k t q2
theorem tch_len (ws : List Str) : (tchW ws).length ≤ ws.length := by
  unfold tchW
  rw [List.length_map, List.length_tail]
  omega
theorem fewT_put {ls : List Str} {n m : Nat} {l : Str} (h : fewT ls n) (hl : (wordsT l).length ≤ m) (k : Nat) : fewT (putL ls k l) (n + m) := by
  obtain ⟨P, hP, hk⟩ := h
  have hold : ∀ ws ∈ toldW ls, ws.getD 0 Str.empty = "rooms" ∨ ∀ t ∈ tchW ws, ordQ t ∈ P ++ (tchW (wordsT l)).map ordQ := fun ws h => (hk ws h).imp id fun k t ht => List.mem_append_left _ (k t ht)
  have hsplit : ∀ ws ∈ toldW (putL ls k l), ws ∈ toldW ls ∨ ws = wordsT l := fun ws hws => by
    unfold putL at hws
    rw [toldW_app, toldW_app] at hws
    have e : toldW ls = toldW (ls.take k) ++ toldW (ls.drop k) := by rw [← toldW_app, List.take_append_drop]
    rw [e, List.mem_append]
    rcases List.mem_append.mp hws with hws | hws
    · rcases List.mem_append.mp hws with hws | hws
      · exact .inl (.inl hws)
      · right
        cases hp : passW (wordsT l) with
        | true => rw [toldW_pass hp] at hws; cases hws
        | false => rw [toldW_not hp] at hws; exact List.mem_singleton.mp hws
    · exact .inl (.inr hws)
  refine ⟨P ++ (tchW (wordsT l)).map ordQ, by rw [List.length_append, List.length_map]; have := tch_len (wordsT l); omega, fun ws hws => ?_⟩
  rcases hsplit ws hws with h | rfl
  · exact hold ws h
  · exact .inr fun t ht => List.mem_append_right _ (List.mem_map.mpr ⟨t, ht, rfl⟩)
theorem fewT_up {ls : List Str} {n m : Nat} (h : fewT ls n) (k : n ≤ m) : fewT ls m := by
  obtain ⟨P, hP, hk⟩ := h
  exact ⟨P, by omega, hk⟩
theorem ltQ_as {p q : Str × Str} (h : ltQ p q = true) : ltQ q p = false := by
  cases e : ltQ q p with
  | false => rfl
  | true =>
    have := stoQ.tr h e
    rw [stoQ.irr] at this
    cases this
theorem name_ok {z : Str} (h : NameP z) : nameB z = true := by
  obtain ⟨hg, hl⟩ := h
  have hp := good_pos hg
  have hbad : ∀ i, i < z.cps.size → badAt z i = false := fun i hi => by
    have hi : i < z.cps.toList.length := by rw [Array.length_toList]; exact hi
    have hgd : z.cps.getD i 0 = z.cps.toList.getD i 0 := by
      rw [List.getD_eq_getElem?_getD, Array.getElem?_toList, Array.getD_eq_getD_getElem?]
    unfold badAt
    rw [hgd]
    unfold goodS at hg
    cases ez : z.cps.toList with
    | nil => rw [ez] at hi; exact absurd hi (Nat.not_lt_zero _)
    | cons c r =>
      rw [ez] at hg hi
      cases i with
      | zero =>
        show (!decide (c ∈ sL.cps.toList) && _) = false
        rw [decide_eq_true hg.1]
        rfl
      | succ i =>
        have hm : r.getD i 0 ∈ r := getD_mem (by rw [List.length_cons] at hi; omega)
        show (!decide (r.getD i 0 ∈ sL.cps.toList) && (_ || !decide (r.getD i 0 ∈ sF.cps.toList))) = false
        have h0 : decide (((i + 1 : Nat) : Int) = 0) = false := decide_eq_false (by omega)
        rw [h0]
        rcases hg.2 _ hm with h | h
        · rw [decide_eq_true h]; rfl
        · rw [decide_eq_true h, Bool.false_or]; cases decide (r.getD i 0 ∈ sL.cps.toList) <;> rfl
  unfold nameB nfS lenOk
  rw [decide_eq_true (by omega : 1 ≤ (z.length : Int)), decide_eq_true (by omega : (z.length : Int) ≤ 8)]
  show isNoneD (optD (firstP (badAt z) z.cps.size)) = true
  rw [firstP_none hbad]
  rfl
theorem colon_ne (z : Str) : z ++ ":" ≠ ("rooms" : Str) := fun e => by
  have this : (z ++ ":").cps.toList.getLast? = ("rooms" : Str).cps.toList.getLast? := by rw [e]
  have e2 : ("rooms" : Str).cps.toList.getLast? = some 115 := by decide +kernel
  rw [e2, app_list, colon_list, List.getLast?_append] at this
  cases this
theorem ord_cases {z y : Str} {p : Str × Str} (h : ordQ (z, y) = p) : (z = p.1 ∧ y = p.2) ∨ (z = p.2 ∧ y = p.1) := by
  subst h
  unfold ordQ
  split
  · exact .inl ⟨rfl, rfl⟩
  · exact .inr ⟨rfl, rfl⟩
theorem touch_none {rs : List Str} {qs : List (Str × Str)} (R : Rooms rs) (W : WS (srt ltS rs) qs) {z : Str} {r : List Str} (hn : r ≠ []) (h : ∀ y ∈ r, ordQ (z, y) ∈ qs ∧ z ≠ y) (b : Bool) : lineF ((z ++ ":") :: r) rs b = none := by
  have hb : ∀ y ∈ r, (z ∈ rs ∧ y ∈ rs) ∨ (z ∈ sides4 ∧ y ∈ rs) ∨ (z ∈ rs ∧ y ∈ sides4) := fun y hy => by
    obtain ⟨h1, h2⟩ := W.one _ (h y hy).1
    have h2 := mem_srt.mp h2
    rw [List.mem_append, mem_srt] at h1
    rcases ord_cases (p := ordQ (z, y)) rfl with ⟨e1, e2⟩ | ⟨e1, e2⟩
    · rw [← e1] at h1
      rw [← e2] at h2
      exact h1.elim (fun k => .inl ⟨k, h2⟩) fun k => .inr (.inl ⟨k, h2⟩)
    · rw [← e2] at h1
      rw [← e1] at h2
      exact h1.elim (fun k => .inl ⟨h2, k⟩) fun k => .inr (.inr ⟨h2, k⟩)
  have hzo : z ∈ sides4 ∨ z ∈ rs := by
    cases r with
    | nil => exact absurd rfl hn
    | cons y r => rcases hb y List.mem_cons_self with ⟨a, _⟩ | ⟨a, _⟩ | ⟨a, _⟩ <;> first | exact .inr a | exact .inl a
  have ho : ∀ y ∈ z :: r, y ∈ sides4 ∨ y ∈ rs := fun y hy => by
    rcases List.mem_cons.mp hy with rfl | hy
    · exact hzo
    · rcases hb y hy with ⟨_, a⟩ | ⟨_, a⟩ | ⟨_, a⟩ <;> first | exact .inr a | exact .inl a
  have r1 := R.some
  rw [lineF_cons]
  have hlen : r.length ≠ 0 := fun e => hn (List.length_eq_zero_iff.mp e)
  rw [if_neg (by rw [ends_colon, Bool.or_true, decide_eq_false (by rw [List.length_cons]; omega)]; decide)]
  rw [if_neg (by rw [decide_eq_false (colon_ne z), decide_eq_false (by omega : ¬ rs.length = 0)]; cases b <;> decide), if_neg (colon_ne z), init_colon]
  unfold touchF
  rw [if_neg, if_neg, if_neg, if_neg]
  · exact fun m => (h z m).2 rfl
  · rw [Bool.and_eq_true]
    rintro ⟨h1, h2⟩
    obtain ⟨y, hy, k⟩ := List.any_eq_true.mp h2
    have h1 := of_decide_eq_true h1
    have k := of_decide_eq_true k
    rcases hb y hy with ⟨a, _⟩ | ⟨_, a⟩ | ⟨a, _⟩
    · exact good_side (R.good z a).1 h1
    · exact good_side (R.good y a).1 k
    · exact good_side (R.good z a).1 h1
  · intro k
    obtain ⟨y, hy, k⟩ := List.any_eq_true.mp k
    rw [Bool.and_eq_true] at k
    rcases ho y hy with a | a
    · rw [show sideB y = true from decide_eq_true a] at k; exact absurd k.1 (by decide)
    · rw [decide_eq_true a] at k; exact absurd k.2 (by decide)
  · intro k
    obtain ⟨y, hy, k⟩ := List.any_eq_true.mp k
    rw [Bool.and_eq_true] at k
    rcases ho y hy with a | a
    · rw [show sideB y = true from decide_eq_true a] at k; exact absurd k.1 (by decide)
    · rw [name_ok (R.good y a)] at k; exact absurd k.2 (by decide)
theorem rooms_none {rs c : List Str} (hc : c ≠ []) (h : ∀ z ∈ c, NameP z) (nd : (rs ++ c).Nodup) (hl : (rs ++ c).length ≤ 40) : lineF (("rooms" : Str) :: c) rs false = none := by
  have hlen : c.length ≠ 0 := fun e => hc (List.length_eq_zero_iff.mp e)
  rw [lineF_cons, if_neg (by rw [decide_eq_false (by rw [List.length_cons]; omega), decide_eq_true (rfl : ("rooms" : Str) = "rooms")]; cases Txt.endswith "rooms" ":" <;> decide), if_neg (by rw [decide_eq_true (rfl : ("rooms" : Str) = "rooms")]; cases decide (rs.length = 0) <;> decide), if_pos rfl]
  unfold roomsF
  rw [if_neg, if_neg (fun k => k nd), if_neg (by rw [List.length_append] at hl; omega)]
  intro k
  obtain ⟨y, hy, k⟩ := List.any_eq_true.mp k
  rw [name_ok (h y hy)] at k
  cases k
theorem read_heads {e : Int} {T : List (List Str)} : ∀ (cs : List (List Str)) (L : List (Nat × List Str)) (rs : List Str), L.map (·.2) = (cs.map fun c => ("rooms" : Str) :: c) ++ T → (∀ c ∈ cs, c ≠ []) → (∀ z ∈ cs.flatten, NameP z) → (rs ++ cs.flatten).Nodup → (rs ++ cs.flatten).length ≤ 40 →
    ∃ L', L'.map (·.2) = T ∧ readL e L rs [] = readL e L' (rs ++ cs.flatten) []
  | [], L, rs, h, _, _, _, _ => ⟨L, h, by rw [List.flatten_nil, List.append_nil]⟩
  | c :: cs, [], rs, h, _, _, _, _ => by cases h
  | c :: cs, (k, ws) :: L, rs, h, hc, hg, nd, hl => by
    rw [List.map_cons, List.map_cons, List.cons_append] at h
    obtain ⟨h1, h2⟩ := List.cons.inj h
    dsimp only at h1
    subst h1
    rw [List.flatten_cons, ← List.append_assoc] at nd hl
    have n1 : (rs ++ c).Nodup := (List.nodup_append.mp nd).1
    have hf := rooms_none (hc c List.mem_cons_self) (fun z hz => hg z (by rw [List.flatten_cons]; exact List.mem_append_left _ hz)) n1 (by rw [List.length_append] at hl; omega)
    obtain ⟨L', k1, k2⟩ := read_heads cs L (rs ++ c) h2 (fun d hd => hc d (List.mem_cons_of_mem _ hd)) (fun z hz => hg z (by rw [List.flatten_cons]; exact List.mem_append_right _ hz)) nd hl
    refine ⟨L', k1, ?_⟩
    rw [readL_rooms hf, k2, List.flatten_cons, List.append_assoc]
theorem read_rows {e : Int} {rs : List Str} (hrs : rs ≠ []) : ∀ (rows : List (Str × List Str)) (L : List (Nat × List Str)) (ts : List (Str × Str)), L.map (·.2) = (rows.map fun r => (r.1 ++ (":" : Str)) :: r.2) → (∀ r ∈ rows, ∀ b, lineF ((r.1 ++ (":" : Str)) :: r.2) rs b = none) →
    readL e L rs ts = .ok rs (ts ++ rows.flatMap fun r => r.2.map fun y => (r.1, y))
  | [], [], ts, _, _ => by
    unfold readL
    rw [if_neg hrs, List.flatMap_nil, List.append_nil]
  | [], _ :: _, _, h, _ => by cases h
  | _ :: _, [], _, h, _ => by cases h
  | r :: rows, (k, ws) :: L, ts, h, hk => by
    rw [List.map_cons, List.map_cons] at h
    obtain ⟨h1, h2⟩ := List.cons.inj h
    dsimp only at h1
    subst h1
    rw [readL_touch (hk r List.mem_cons_self _) (colon_ne r.1), init_colon, read_rows hrs rows L _ h2 fun q hq => hk q (List.mem_cons_of_mem _ hq), List.flatMap_cons, List.append_assoc]
theorem read_tells {rs : List Str} {qs : List (Str × Str)} {ls : List Str} (R : Rooms rs) (W : WS (srt ltS rs) qs) (L : Tells rs qs ls) : ∃ ts, readT (Txt.join "\n" ls) = .ok rs ts ∧ lawD rs ts = schD (srt ltS rs) qs := by
  obtain ⟨cs, rows, h1, h2, h3, h4, h5⟩ := L.told
  have r1 := R.some
  have hrs : rs ≠ [] := fun e => by rw [e] at r1; exact absurd r1 (by decide)
  have hne : ls ≠ [] := fun e => by
    rw [e] at h1
    cases cs with
    | nil => rw [← h2] at hrs; exact hrs rfl
    | cons c r => cases h1
  obtain ⟨g1, g2, g3⟩ := lines_join hne fun l hl => (L.line l hl).1
  rw [← told_map _ 0] at g1
  have e0 : readT (Txt.join "\n" ls) = readL (((linesT (Txt.join "\n" ls)).length : Nat) + 1) (toldL 0 (linesT (Txt.join "\n" ls))) [] [] := rfl
  rw [h1] at g1
  rw [e0]
  generalize toldL 0 (linesT (Txt.join "\n" ls)) = K0 at g1 ⊢
  obtain ⟨L', k1, k2⟩ := read_heads (e := ((linesT (Txt.join "\n" ls)).length : Nat) + 1) cs K0 [] g1 h3 (by rw [h2]; exact R.good) (by rw [h2]; exact R.nd) (by rw [h2]; exact R.many)
  rw [List.nil_append, h2] at k2
  refine ⟨_, k2.trans (read_rows hrs rows L' [] k1 fun r hr b => touch_none R W (h4 r hr).1 (h4 r hr).2 b), ?_⟩
  unfold lawD
  rw [List.nil_append]
  have : qs = srt ltQ (pairsOf (rows.flatMap fun r => r.2.map fun y => (r.1, y))) := by
    refine srt_uniq stoQ ((List.perm_ext_iff_of_nodup W.nd (pairs_nd _ List.nodup_nil)).mpr fun x => ?_) (W.upq.imp fun h => ltQ_as h)
    show x ∈ qs ↔ x ∈ List.foldl stepP [] _
    rw [pairs_fold]
    constructor
    · intro hx
      obtain ⟨r, hr, y, hy, e⟩ := h5 x hx
      exact .inr ⟨(r.1, y), List.mem_flatMap.mpr ⟨r, hr, List.mem_map.mpr ⟨y, hy, rfl⟩⟩, ((h4 r hr).2 y hy).2, e.symm⟩
    · rintro (h | ⟨t, ht, _, rfl⟩)
      · cases h
      · obtain ⟨r, hr, ht⟩ := List.mem_flatMap.mp ht
        obtain ⟨y, hy, rfl⟩ := List.mem_map.mp ht
        exact ((h4 r hr).2 y hy).1
  rw [← this]
theorem tells_few {rs : List Str} {qs : List (Str × Str)} {ls : List Str} (hq : qs.length ≤ 110) (L : Tells rs qs ls) : fewT ls 110 := by
  obtain ⟨cs, rows, h1, h2, h3, h4, h5⟩ := L.told
  refine ⟨qs, hq, fun ws hws => ?_⟩
  rw [h1] at hws
  rcases List.mem_append.mp hws with h | h
  · obtain ⟨c, _, rfl⟩ := List.mem_map.mp h
    exact .inl rfl
  · obtain ⟨r, hr, rfl⟩ := List.mem_map.mp h
    refine .inr fun t ht => ?_
    unfold tchW at ht
    obtain ⟨y, hy, rfl⟩ := List.mem_map.mp ht
    have e : initS (((r.1 ++ (":" : Str)) :: r.2).getD 0 Str.empty) = r.1 := init_colon r.1
    rw [e]
    exact ((h4 r hr).2 y hy).1
theorem tells_head {rs : List Str} {qs : List (Str × Str)} {ls : List Str} (R : Rooms rs) (L : Tells rs qs ls) : ∃ l ∈ ls, Txt.startswith (Txt.stripChars l " ") "rooms " = true := by
  obtain ⟨cs, rows, h1, h2, h3, h4, h5⟩ := L.told
  have r1 := R.some
  cases cs with
  | nil => rw [← h2] at r1; exact absurd r1 (by decide)
  | cons c cs =>
    have hm : (("rooms" : Str) :: c) ∈ toldW ls := by rw [h1]; exact List.mem_append_left _ List.mem_cons_self
    unfold toldW at hm
    obtain ⟨l, hl, e⟩ := List.mem_map.mp (List.mem_filter.mp hm).1
    exact ⟨l, hl, strip_rooms e (h3 c List.mem_cons_self)⟩
/-- the program's own text of a scheme -/
theorem text_tells {rs : List Str} {qs : List (Str × Str)} (R : Rooms rs) (W : WS (srt ltS rs) qs) : Tells (srt ltS rs) qs ((schL (srt ltS rs) qs).map lineT) := by
  have hm := W.many
  have hw : ∀ z y, (y, z) ∈ qs → WordP y := fun z y h => by
    rcases List.mem_append.mp (W.one _ h).1 with h | h
    · exact name_word (W.good _ h)
    · exact side_word h
  have key : ∀ ws ∈ schL (srt ltS rs) qs, ∀ w ∈ ws, WordP w := fun ws h w hw' => by
    rw [schL_eq] at h
    rcases List.mem_cons.mp h with rfl | h
    · rcases List.mem_cons.mp hw' with rfl | hw'
      · exact rooms_wordP
      · exact name_word (W.good w hw')
    · obtain ⟨z, hz, rfl⟩ := List.mem_map.mp h
      have hr := (hasB_mem.mp hz).1
      rcases List.mem_cons.mp hw' with rfl | hw'
      · exact colon_word (name_word (W.good z hr)) (W.good z hr).2
      · exact hw z w (mem_below.mp hw')
  have told : toldW ((schL (srt ltS rs) qs).map lineT) = schL (srt ltS rs) qs := by
    unfold toldW
    have e : ((schL (srt ltS rs) qs).map lineT).map wordsT = schL (srt ltS rs) qs := by
      rw [List.map_map]
      conv => rhs; rw [← List.map_id (schL (srt ltS rs) qs)]
      exact List.map_congr_left fun ws h => words_join (.inl rfl) (key ws h)
    rw [e]
    refine List.filter_eq_self.mpr fun ws h => ?_
    rw [schL_eq] at h
    rcases List.mem_cons.mp h with rfl | h
    · rw [pass_rooms]; rfl
    · obtain ⟨z, hz, rfl⟩ := List.mem_map.mp h
      rw [pass_touch (.inl (W.good z (hasB_mem.mp hz).1))]; rfl
  have r1 : 1 ≤ (srt ltS rs).length := W.some
  refine ⟨⟨[srt ltS rs], (hasB (srt ltS rs) qs).map fun z => (z, below qs z), ?_, by simp, fun c hc => ?_, fun r hr => ?_, fun p hp => ?_⟩, fun l hl => ?_, ?_⟩
  · rw [told, schL_eq, List.map_map]
    rfl
  · rw [List.mem_singleton.mp hc]
    exact fun e => by rw [e] at r1; exact absurd r1 (by decide)
  · obtain ⟨z, hz, rfl⟩ := List.mem_map.mp hr
    refine ⟨(hasB_mem.mp hz).2, fun y hy => ?_⟩
    exact tou_ord W.lt (.inr (mem_below.mp hy))
  · have hb : p.1 ∈ below qs p.2 := mem_below.mpr hp
    refine ⟨(p.2, below qs p.2), List.mem_map.mpr ⟨p.2, hasB_mem.mpr ⟨W.snd hp, fun e => by rw [e] at hb; cases hb⟩, rfl⟩, p.1, hb, ord_of (W.lt p hp) (.inr ⟨rfl, rfl⟩)⟩
  · obtain ⟨ws, h, rfl⟩ := List.mem_map.mp hl
    refine ⟨fun m => ?_, Nat.le_trans ((sch_small W).2 ws h) (by decide)⟩
    rcases join_mem m with m | ⟨q, hq, m⟩
    · exact absurd m (by decide +kernel)
    · exact (key ws h q hq).2.2.1 m
  · rw [List.length_map]
    have := (sch_small W).1
    omega
theorem chars_lt : (∀ c ∈ sL.cps.toList, c < 0x110000) ∧ (∀ c ∈ sF.cps.toList, c < 0x110000) := by decide +kernel
theorem good_chars {z : Str} (h : goodS z) : ∀ c ∈ z.cps.toList, c < 0x110000 := by
  unfold goodS at h
  cases e : z.cps.toList with
  | nil => rw [e] at h; exact h.elim
  | cons a r =>
    rw [e] at h
    intro c hc
    rcases List.mem_cons.mp hc with rfl | hc
    · exact chars_lt.1 _ h.1
    · rcases h.2 c hc with q | q
      · exact chars_lt.1 _ q
      · exact chars_lt.2 _ q
theorem lay_str {z : Str} (h : ∀ c ∈ z.cps.toList, c < 0x110000) : PyData.canLay0 (.str z) = true := by
  simp only [PyData.canLay0]
  unfold PyData.strOk
  rw [← Array.all_toList, List.all_eq_true]
  intro c hc
  exact decide_eq_true (h c hc)
theorem lay_strs : ∀ {zs : List Str}, (∀ z ∈ zs, ∀ c ∈ z.cps.toList, c < 0x110000) → PyData.canLayAll0 (zs.map PyData.str) = true
  | [], _ => by simp only [List.map_nil, PyData.canLayAll0]
  | z :: zs, h => by
    simp only [List.map_cons, PyData.canLayAll0]
    rw [lay_str (h z (List.mem_cons_self ..)), lay_strs fun y hy => h y (List.mem_cons_of_mem _ hy)]
    rfl
theorem dep_strs : ∀ zs : List Str, PyData.depthAll (zs.map PyData.str) ≤ 1
  | [] => by simp [PyData.depthAll]
  | z :: zs => by
    have := dep_strs zs
    simp only [List.map_cons, PyData.depthAll, PyData.depth]
    omega
theorem side_chars {z : Str} (h : z ∈ sides4) : ∀ c ∈ z.cps.toList, c < 0x110000 := by
  rcases side_cases h with rfl | rfl | rfl | rfl <;> decide +kernel
theorem lay_pairs : ∀ {ps : List (Str × Str)}, (∀ p ∈ ps, (∀ c ∈ p.1.cps.toList, c < 0x110000) ∧ ∀ c ∈ p.2.cps.toList, c < 0x110000) → PyData.canLayAll0 (ps.map pqD) = true
  | [], _ => by simp only [List.map_nil, PyData.canLayAll0]
  | p :: ps, h => by
    have h1 := h p List.mem_cons_self
    simp only [List.map_cons, PyData.canLayAll0]
    rw [lay_pairs fun y hy => h y (List.mem_cons_of_mem _ hy), Bool.and_true]
    have a := lay_str h1.1
    have b := lay_str h1.2
    show PyData.canLay0 (.tuple [.str p.1, .str p.2]) = true
    simp only [PyData.canLay0, PyData.canLayAll0] at a b ⊢
    rw [a, b]
    rfl
theorem dep_pairs : ∀ ps : List (Str × Str), PyData.depthAll (ps.map pqD) ≤ 2
  | [] => by simp [PyData.depthAll]
  | p :: ps => by
    have := dep_pairs ps
    simp only [List.map_cons, PyData.depthAll]
    have e : PyData.depth (pqD p) ≤ 2 := by
      show PyData.depth (.tuple [.str p.1, .str p.2]) ≤ 2
      simp only [PyData.depth, PyData.depthAll]
      omega
    omega
theorem sch_shaped {rs : List Str} {ps : List (Str × Str)} (h : ∀ z ∈ rs, ∀ c ∈ z.cps.toList, c < 0x110000) (k : ∀ p ∈ ps, (∀ c ∈ p.1.cps.toList, c < 0x110000) ∧ ∀ c ∈ p.2.cps.toList, c < 0x110000) : SeqAt.shaped (schD rs ps) = true := by
  have h1 := lay_strs h
  have h2 := dep_strs rs
  have h3 := lay_pairs k
  have h4 := dep_pairs ps
  unfold SeqAt.shaped schD
  rw [Bool.and_eq_true]
  refine ⟨?_, decide_eq_true ?_⟩
  · simp only [PyData.canLay0, PyData.canLayAll0] at h1 h3 ⊢
    rw [h1, h3]
    rfl
  · simp only [PyData.depth, PyData.depthAll]
    omega
theorem WS.shaped {rs : List Str} {ps : List (Str × Str)} (W : WS rs ps) : SeqAt.shaped (schD rs ps) = true :=
  sch_shaped (fun z hz => good_chars (W.good z hz).1) fun p hp => ⟨(List.mem_append.mp (W.one p hp).1).elim (fun h => good_chars (W.good _ h).1) side_chars, good_chars (W.good _ (W.snd hp)).1⟩
theorem evx_q1 {ρ : List Sl} {Pre : List D → Prop} {Post : List D → D → Prop} {ds : List D} {t : TA} {Ey : XK} (h : EA K t ρ ds) (hp : Pre ds) : EVX K (tCall (PQ K Pre Post) [] Ey t) ρ (Post ds) :=
  evx_callQ (eax_of (Pl := fun x => x = ds) h rfl) fun x e => by subst e; exact ⟨hp, fun d h => h⟩
/-- lines that may be read -/
structure Gd (ls : List Str) (c n : Nat) : Prop where
  ne : ls ≠ []
  line : ∀ l ∈ ls, 10 ∉ l.cps.toList ∧ l.length ≤ 4000
  many : ls.length ≤ c
  few : fewT ls n
theorem Gd.put {ls : List Str} {c n : Nat} (g : Gd ls c n) {l : Str} (h : LineP l) (k : Nat) : Gd (putL ls k l) (c + 1) (n + 61) := by
  have hw := words_len l
  have h2 := h.2
  refine ⟨fun e => ?_, fun x hx => ?_, by rw [put_len]; have := g.many; omega, fewT_put g.few (by omega) k⟩
  · have := put_len ls k l
    rw [e, List.length_nil] at this
    omega
  · rcases mem_put.mp hx with hx | rfl
    · exact g.line x hx
    · exact ⟨h.1, by omega⟩
theorem Gd.tp {ls : List Str} {c n : Nat} (g : Gd ls c n) (hc : c ≤ 2400) (hn : n ≤ 300) : TP (Txt.join "\n" ls) := tp_join g.ne g.line (Nat.le_trans g.many hc) (fewT_up g.few hn)
theorem nl_one : ("\n" : Str).length ≤ 1 := by decide +kernel
theorem ev_jn {ρ : List Sl} {te : TE} {ls : List Str} {c n : Nat} (g : Gd ls c n) (hc : c ≤ 2400) (h : EV K te ρ (.list (ls.map PyData.str))) : EV K (tM1 (rJoinU K) (tC (.str "\n")) te) ρ (.str (Txt.join "\n" ls)) :=
  ev_joinL ev_str h (join_fit (m := 4000) (n := 2400) (fun z hz => (g.line z hz).2) (Nat.le_trans g.many hc) nl_one (by decide))
theorem ev_right {ρ : List Sl} {te : TE} {ls : List Str} {c n : Nat} (g : Gd ls c n) (hc : c ≤ 2400) (hn : n ≤ 300) (h : EV K te ρ (.list (ls.map PyData.str))) : EV K (tCall (sp_u_law_right K) [] E0 (tCons (tM1 (rJoinU K) (tC (.str "\n")) te) tNil)) ρ (.bool true) :=
  ev_call (ea_cons (ev_jn g hc h) ea_nil) ⟨_, rfl, g.tp hc hn, rfl⟩
theorem ev_put {ρ : List Sl} {ta tb tc : TE} {ls : List Str} {n : Nat} {l : Str} (hl : ls.length ≤ 10000) (h1 : EV K ta ρ (.list (ls.map PyData.str))) (h2 : EV K tb ρ (.int (n : Nat))) (h3 : EV K tc ρ (.str l)) : EV K (tCall (sp_u_law_put K) [] E0 (tCons ta (tCons tb (tCons tc tNil)))) ρ (.list ((putL ls n l).map PyData.str)) :=
  ev_call (ea_cons h1 (ea_cons h2 (ea_cons h3 ea_nil))) ⟨ls, n, l, rfl, hl, rfl⟩
theorem lcD_ints {b : Nat → Bool} : ∀ n, ∃ ns : List Int, lcD n b (fun i => .int (i : Nat)) = ns.map PyData.int ∧ (∀ x ∈ ns, 0 ≤ x ∧ x < n) ∧ ((∃ k, k < n ∧ b k = true) → ns ≠ [])
  | 0 => ⟨[], rfl, fun x h => (by cases h), fun ⟨k, h, _⟩ => absurd h (Nat.not_lt_zero _)⟩
  | n + 1 => by
    obtain ⟨ns, e, h1, h2⟩ := lcD_ints (b := b) n
    unfold lcD
    have up : ∀ x ∈ ns, 0 ≤ x ∧ x < ((n + 1 : Nat) : Int) := fun x hx => by have := h1 x hx; omega
    cases q : b n with
    | true =>
      refine ⟨ns ++ [(n : Int)], by rw [if_pos rfl, e, List.map_append]; rfl, fun x hx => ?_, fun _ => by simp⟩
      rcases List.mem_append.mp hx with hx | hx
      · exact up x hx
      · rw [List.mem_singleton.mp hx]; omega
    | false =>
      refine ⟨ns, by rw [if_neg Bool.false_ne_true, e], up, fun ⟨k, hk, hb⟩ => h2 ⟨k, ?_, hb⟩⟩
      by_cases hkn : k = n
      · rw [hkn, q] at hb; cases hb
      · omega
theorem max_ex : ∀ {ns : List Int}, ns ≠ [] → ∃ m ∈ ns, ∀ y ∈ ns, y ≤ m
  | [], h => absurd rfl h
  | [x], _ => ⟨x, List.mem_cons_self, fun y hy => by rw [List.mem_singleton.mp hy]; exact Int.le_refl _⟩
  | x :: z :: r, _ => by
    obtain ⟨m, h1, h2⟩ := max_ex (ns := z :: r) (List.cons_ne_nil _ _)
    by_cases h : x ≤ m
    · exact ⟨m, List.mem_cons_of_mem _ h1, fun y hy => (List.mem_cons.mp hy).elim (fun e => by rw [e]; exact h) (h2 y)⟩
    · exact ⟨x, List.mem_cons_self, fun y hy => (List.mem_cons.mp hy).elim (fun e => by rw [e]; exact Int.le_refl _) fun hy => by have := h2 y hy; omega⟩
theorem fk_u_law_all_right (T : Txt K mg) (O_u_law_wrong_lines : Okd P w K mg base CX0 1 "_law_wrong_lines" ["rooms", "pick"] (sp_u_law_wrong_lines K)) (O_u_law_wrong_heads : Okd P w K mg base CX0 1 "_law_wrong_heads" ["rooms", "pick"] (sp_u_law_wrong_heads K)) (O_u_law_right : Okd P w K mg base CX0 6 "_law_right" ["text"] (sp_u_law_right K)) (O_u_law_put : Okd P w K mg base CX0 1 "_law_put" ["lines", "at", "line"] (sp_u_law_put K)) {fd : FuncData} (F : FunD K "_law_all_right" "_law_all_right" (defArgs s_u_law_all_right) (defBody s_u_law_all_right) (defScope s_u_law_all_right) [] [] (He.ga K "_law_all_right") fd) : FnOk P w K mg base CX0 7 (He.ga K "_law_all_right") fd ["rooms", "lines", "pool", "begin", "few"] (sp_u_law_all_right K) := by
  refine fn_pf F sc_u_law_all_right ?_ (fun cdv A outer s H E hr => ⟨_, dv_u_law_all_right T O_u_law_wrong_lines O_u_law_wrong_heads O_u_law_right O_u_law_put cdv A outer s H E hr, ?_⟩)
  · rintro ds d ⟨x0, x1, x2, x3, x4, rfl, _⟩
    rfl
  · rintro ds d ⟨rs, ls, ps, b, f, rfl, R, O, hl, hf, hb0, hb1, hf1, rfl⟩
    refine ST.mono (P := fun o => o = .rt (.bool true)) ?_ fun o h => .inl h
    show ST K E0 (t_u_law_all_right K) [.fr (.list (rs.map PyData.str)), .fr (.list (ls.map PyData.str)), .fr (.list (ps.map PyData.int)), .fr (.int b), .fr (.int f), .no, .no, .no, .no, .no, .no] _
    unfold t_u_law_all_right
    have r1 := R.some
    have r2 := R.many
    obtain ⟨l0, hl0, hs0⟩ := O.head
    have hlp : 0 < ls.length := List.length_pos_of_mem hl0
    have G : Gd ls 2200 110 := ⟨fun e => by rw [e] at hlp; exact absurd hlp (by decide), O.line, hl, hf⟩
    have pl : ∀ {ρ : List Sl} {j : Int}, ρ[2]? = some (.fr (.list (ps.map PyData.int))) → ρ[3]? = some (.fr (.int b)) → 0 ≤ j → j < 6 → EV K (tOp (rIx K) (tVar 2) (tOp (rAddU K) (tVar 3) (tC (.int j)))) ρ (.int (pI ps (b + j))) := fun h1 h2 h4 h5 => ev_op (ev_var h1) (ev_op (ev_var h2) ev_int od_addI) (od_ixL (pI_get (by omega) (by omega)))
    -- head
    obtain ⟨ns, e, n1, n2⟩ := lcD_ints (b := fun i => Txt.startswith (Txt.stripChars (ls.getD i Str.empty) " ") "rooms ") ls.length
    have n3 : ns ≠ [] := n2 (by
      obtain ⟨i, hi, e⟩ := List.getElem_of_mem hl0
      refine ⟨i, hi, ?_⟩
      rw [List.getD_eq_getElem?_getD, List.getElem?_eq_getElem hi]
      show Txt.startswith (Txt.stripChars ls[i] " ") "rooms " = true
      rw [e]
      exact hs0)
    obtain ⟨m, hm1, hm2⟩ := max_ex n3
    have hm3 := n1 m hm1
    obtain ⟨hd, hhd⟩ : ∃ hd : Nat, m + 1 = (hd : Nat) := ⟨(m + 1).toNat, by omega⟩
    refine q_asg (d := .int (hd : Nat)) (ev_is (ev_op (ev_cb (ea_cons (ev_N (en_is (en_lc (n := ls.length) (b := fun i => Txt.startswith (Txt.stripChars (ls.getD i Str.empty) " ") "rooms ") (f := fun i => .int (i : Nat)) (ei_mono (n := ls.length) (by
      have h := ei_rng1 (K := K) (ρ := ([.fr (.list (rs.map PyData.str)), .fr (.list (ls.map PyData.str)), .fr (.list (ps.map PyData.int)), .fr (.int b), .fr (.int f), .no, .no, .no, .no, .no, .no] : List Sl)) (t := tCons (tCB (rLen K) (tCons (tVar 1) tNil)) tNil) (n := ((ls.length : Nat) : Int)) (ea_cons (ev_is (ev_cb (ea_cons (ev_var (d := .list (ls.map PyData.str)) (by rfl)) ea_nil) cd_lenL) (by rw [List.length_map])) ea_nil) (by omega) (by omega)
      exact h) fun i hi => rfl) (by omega) fun i hi => ⟨_, _, gt_name, by simp, et_trB (ev_starts (ev_strip (ev_op (ev_var (d := .list (ls.map PyData.str)) (by rfl)) (ev_var (by rfl)) (od_ixL (atI_strs (ys := ls) (i := ((i : Nat) : Int)) (by omega) (by omega)))) ev_str (by have := (O.line _ (getD_mem (z := Str.empty) hi)).2; rw [sizeLine_eq]; exact Nat.le_trans this (by decide))) ev_str), fun _ => ev_var (by rfl)⟩) (congrArg PyData.list e))) ea_nil) (cd_maxL hm1 hm2)) ev_int od_addI) (congrArg PyData.int hhd)) ?_
    have hh1 : 1 ≤ hd ∧ hd ≤ ls.length := by omega
    -- the wrong lines
    refine q_asgV (evx_q1 (ea_cons (ev_var (by rfl)) (ea_cons (ev_op (ev_var (by rfl)) (ev_var (by rfl)) (od_ixL (pI_get (i := b) (by omega) (by omega)))) ea_nil)) ⟨rs, _, rfl, R⟩) ?_
    rintro d ⟨ws, rfl, w1, w2, w3⟩
    refine q_for (ei_rng1 (ea_cons (ev_cb (ea_cons (ev_var (d := .list (ws.map PyData.str)) (by rfl)) ea_nil) cd_lenL) ea_nil) (by rw [List.length_map]; omega) (by rw [List.length_map]; omega)) (fun i ρ => ∃ s6 s8 s9 : Sl, ρ = [.fr (.list (rs.map PyData.str)), .fr (.list (ls.map PyData.str)), .fr (.list (ps.map PyData.int)), .fr (.int b), .fr (.int f), .fr (.int (hd : Nat)), s6, .fr (.list (ws.map PyData.str)), s8, s9, .no]) ⟨_, _, _, rfl⟩ ?_ ?_
    · rintro i ρ hi ⟨s6, s8, s9, rfl⟩
      have hi : i < ws.length := by rw [List.length_map] at hi; omega
      refine ⟨_, _, gt_name, ?_⟩
      refine st_if (et_test (ev_op (ev_op (ev_op (ev_var (by rfl)) (pl (by rfl) (by rfl) (by decide) (by decide)) od_addI) (ev_var (by rfl)) (od_mod (by omega))) ev_int od_eqI)) (fun _ => ?_) (fun _ => st_next ⟨_, _, _, rfl⟩)
      have a1 := Int.emod_nonneg (pI ps (b + 2) + 5 * (i : Nat)) (show ((ls.length : Nat) : Int) - (hd : Nat) + 1 ≠ 0 by omega)
      obtain ⟨at_, hat⟩ : ∃ at_ : Nat, (hd : Nat) + (pI ps (b + 2) + 5 * (i : Nat)) % (((ls.length : Nat) : Int) - (hd : Nat) + 1) = (at_ : Nat) := ⟨((hd : Nat) + (pI ps (b + 2) + 5 * (i : Nat)) % (((ls.length : Nat) : Int) - (hd : Nat) + 1)).toNat, by omega⟩
      refine q_asg (d := .int (at_ : Nat)) (ev_is (ev_op (ev_var (by rfl)) (ev_op (ev_op (pl (by rfl) (by rfl) (by decide) (by decide)) (ev_op ev_int (ev_var (by rfl)) (od_mulI (.inr (by omega)))) od_addI) (ev_op (ev_op (ev_is (ev_cb (ea_cons (ev_var (d := .list (ls.map PyData.str)) (by rfl)) ea_nil) cd_lenL) (by rw [List.length_map])) (ev_var (by rfl)) od_sub) ev_int od_addI) (od_mod (by omega))) od_addI) (congrArg PyData.int hat)) ?_
      have q1 := w3 _ (getD_mem (z := Str.empty) hi)
      have G1 := G.put q1 at_
      refine q_asg (d := .list ((putL ls at_ (ws.getD i Str.empty)).map PyData.str)) (ev_put (by omega) (ev_var (by rfl)) (ev_var (by rfl)) (ev_op (ev_var (d := .list (ws.map PyData.str)) (by rfl)) (ev_var (by rfl)) (od_ixL (atI_strs (ys := ws) (i := ((i : Nat) : Int)) (by omega) (by omega))))) ?_
      generalize putL ls at_ (ws.getD i Str.empty) = bad at G1
      refine q_no (et_not (et_trB (ev_right G1 (by decide) (by decide) (ev_var (by rfl))))) ?_
      have hwp : 0 < ws.length := by omega
      have q2 := w3 _ (pick_mem (zs := ws) (x := (i : Nat) + pI ps (b + 3)) (m := ((ws.map PyData.str).length : Nat)) (by rw [List.length_map]) hwp)
      refine DL.st_no (et_not (et_trB (ev_right (G1.put q2 hd) (by decide) (by decide) (ev_put (by have := G1.many; omega) (ev_var (by rfl)) (ev_var (by rfl)) (ev_op (ev_var (d := .list (ws.map PyData.str)) (by rfl)) (ev_op (ev_op (ev_var (by rfl)) (pl (by rfl) (by rfl) (by decide) (by decide)) od_addI) (ev_cb (ea_cons (ev_var (d := .list (ws.map PyData.str)) (by rfl)) ea_nil) cd_lenL) (od_mod (by rw [List.length_map]; omega))) (od_ixL (pick_at (by rw [List.length_map]) hwp))))))) (st_next ⟨_, _, _, rfl⟩)
    rintro ρ ⟨s6, s8, s9, rfl⟩
    -- the wrong heads
    refine q_asgV (evx_q1 (ea_cons (ev_var (by rfl)) (ea_cons (pl (by rfl) (by rfl) (by decide) (by decide)) ea_nil)) ⟨rs, _, rfl, R⟩) ?_
    rintro d ⟨hs, rfl, h1, h2, h3⟩
    refine q_for (ei_rng1 (ea_cons (ev_cb (ea_cons (ev_var (d := .list (hs.map PyData.str)) (by rfl)) ea_nil) cd_lenL) ea_nil) (by rw [List.length_map]; omega) (by rw [List.length_map]; omega)) (fun i ρ => ∃ s6 : Sl, ρ = [.fr (.list (rs.map PyData.str)), .fr (.list (ls.map PyData.str)), .fr (.list (ps.map PyData.int)), .fr (.int b), .fr (.int f), .fr (.int (hd : Nat)), s6, .fr (.list (ws.map PyData.str)), s8, s9, .fr (.list (hs.map PyData.str))]) ⟨_, rfl⟩ ?_ ?_
    · rintro i ρ hi ⟨s6, rfl⟩
      have hi : i < hs.length := by rw [List.length_map] at hi; omega
      have q1 := h3 _ (getD_mem (z := Str.empty) hi)
      refine ⟨_, _, gt_name, ?_⟩
      refine st_if (et_test (ev_op (ev_op (ev_op (ev_var (by rfl)) (pl (by rfl) (by rfl) (by decide) (by decide)) od_addI) (ev_var (by rfl)) (od_mod (by omega))) ev_int od_eqI)) (fun _ => ?_) (fun _ => st_next ⟨_, rfl⟩)
      have a1 := Int.emod_nonneg (pI ps (b + 5)) (show ((hd : Nat) : Int) + 1 ≠ 0 by omega)
      have hx : ∀ {ρ : List Sl}, ρ[10]? = some (.fr (.list (hs.map PyData.str))) → ρ[6]? = some (.fr (.int (i : Nat))) → EV K (tOp (rIx K) (tVar 10) (tVar 6)) ρ (.str (hs.getD i Str.empty)) := fun e1 e2 => ev_op (ev_var e1) (ev_var e2) (od_ixL (atI_strs (ys := hs) (i := ((i : Nat) : Int)) (by omega) (by omega)))
      refine q_no (et_not (et_trB (ev_right (G.put q1 (pI ps (b + 5) % ((hd : Nat) + 1)).toNat) (by decide) (by decide) (ev_put (by omega) (ev_var (by rfl)) (ev_is (ev_op (pl (by rfl) (by rfl) (by decide) (by decide)) (ev_op (ev_var (by rfl)) ev_int od_addI) (od_mod (by omega))) (congrArg PyData.int (Int.toNat_of_nonneg a1).symm)) (hx (by rfl) (by rfl)))))) ?_
      exact DL.st_no (et_not (et_trB (ev_right (G.put q1 ls.length) (by decide) (by decide) (ev_put (by omega) (ev_var (by rfl)) (ev_is (ev_cb (ea_cons (ev_var (d := .list (ls.map PyData.str)) (by rfl)) ea_nil) cd_lenL) (by rw [List.length_map])) (hx (by rfl) (by rfl)))))) (st_next ⟨_, rfl⟩)
    rintro ρ ⟨s6', rfl⟩
    have q0 : LineP (rs.getD 0 Str.empty ++ ": N") := by
      have := SM.name (R.good _ (getD_mem (z := Str.empty) (by omega : 0 < rs.length)))
      exact SM.line (this.app (j := 1) ⟨by decide +kernel, by decide +kernel⟩) (by decide)
    have hzl := (R.good _ (getD_mem (z := Str.empty) (by omega : 0 < rs.length))).2
    refine st_ret (ev_right (G.put q0 0) (by decide) (by decide) (ev_put (by omega) (ev_var (by rfl)) ev_int (ev_op (ev_op (ev_var (d := .list (rs.map PyData.str)) (by rfl)) ev_int (od_ixL (atI_strs (ys := rs) (i := 0) (by decide) (by omega)))) ev_str (od_addS ?_)))) (by rfl)
    show (rs.getD 0 Str.empty).length + _ ≤ _
    rw [show (": N" : Str).length = 3 from by decide +kernel, sizeLine_eq]
    omega
theorem map_str_inj : ∀ {a b : List Str}, a.map PyData.str = b.map PyData.str → a = b
  | [], [], _ => rfl
  | [], _ :: _, h => by cases h
  | _ :: _, [], h => by cases h
  | x :: a, y :: b, h => by
    rw [List.map_cons, List.map_cons] at h
    injection h with h1 h2
    injection h1 with h1
    rw [h1, map_str_inj h2]
theorem map_pq_inj : ∀ {a b : List (Str × Str)}, a.map pqD = b.map pqD → a = b
  | [], [], _ => rfl
  | [], _ :: _, h => by cases h
  | _ :: _, [], h => by cases h
  | x :: a, y :: b, h => by
    rw [List.map_cons, List.map_cons] at h
    injection h with h1 h2
    have h1 : PyData.tuple [.str x.1, .str x.2] = .tuple [.str y.1, .str y.2] := h1
    injection h1 with h1
    injection h1 with h3 h4
    injection h4 with h4 _
    injection h3 with h3
    injection h4 with h4
    rw [map_pq_inj h2, show x = y from Prod.ext h3 h4]
theorem enws_side (x : Int) : chS "ENWS" (x % 4) ∈ sides4 := by
  have : ∀ k : Nat, k < 4 → (⟨#[("ENWS" : Str).cps.toList.getD k 0]⟩ : Str) ∈ sides4 := by decide +kernel
  exact this _ (mod_nat (p := x) (m := 4) (k := 4) rfl (by decide))
theorem rooms_of (ps : List Int) (b : Int) {n : Nat} (h1 : 1 ≤ n) (h2 : n ≤ 40) : Rooms (namesK ps b n) := by
  obtain ⟨a, c, e⟩ := nm_ok ps b (n := n) (by omega)
  exact ⟨a, c, by omega, by omega⟩
/-- lists of lines that are told in full -/
def okLit (ls : List Str) : Bool := !ls.isEmpty && decide (ls.length ≤ 100) && ls.all (fun l => decide (10 ∉ l.cps.toList) && decide (l.length ≤ 100)) && decide ((ls.map fun l => (wordsT l).length).sum ≤ 300)
theorem fewT_sum : ∀ ls : List Str, fewT ls (ls.map fun l => (wordsT l).length).sum
  | [] => ⟨[], Nat.le_refl _, fun ws h => (by cases h)⟩
  | l :: ls => by
    have h := fewT_put (fewT_sum ls) (Nat.le_refl (wordsT l).length) 0
    rw [show putL ls 0 l = l :: ls from rfl] at h
    rw [List.map_cons, List.sum_cons, Nat.add_comm]
    exact h
theorem tp_lit {z : Str} {ls : List Str} (h : z = Txt.join "\n" ls ∧ okLit ls = true) : TP z := by
  obtain ⟨rfl, h⟩ := h
  unfold okLit at h
  rw [Bool.and_eq_true, Bool.and_eq_true, Bool.and_eq_true, decide_eq_true_eq, decide_eq_true_eq] at h
  obtain ⟨⟨⟨h1, h2⟩, h3⟩, h4⟩ := h
  refine tp_join (fun e => by rw [e] at h1; cases h1) (fun l hl => ?_) (by omega) (fewT_up (fewT_sum ls) h4)
  have := List.all_eq_true.mp h3 l hl
  rw [Bool.and_eq_true, decide_eq_true_eq, decide_eq_true_eq] at this
  exact ⟨this.1, by omega⟩
theorem tp_reps : ∀ k : Nat, k < 9 → repS "#a\n" (k : Nat) ++ "# E: N" = Txt.join "\n" (List.replicate k ("#a" : Str) ++ [("# E: N" : Str)]) ∧ okLit (List.replicate k ("#a" : Str) ++ [("# E: N" : Str)]) = true := by decide +kernel
theorem rep_small (k : Nat) (h : k < 9) : (repS "#a\n" (k : Nat)).length ≤ 100 := by
  rw [len_rep, show ("#a\n" : Str).length = 3 from by decide +kernel]
  omega
/-- two rooms lines and what stands below -/
theorem two_heads {as bs tl : List Str} (ha : as ≠ []) (hb : bs ≠ []) (ga : ∀ z ∈ as, NameP z) (gb : ∀ z ∈ bs, NameP z) (la : as.length ≤ 40) (lb : bs.length ≤ 40) (ht : okLit tl = true) : TP (Txt.join "\n" (Txt.join " " (("rooms" : Str) :: as) :: Txt.join " " (("rooms" : Str) :: bs) :: tl)) := by
  have wp : ∀ as : List Str, (∀ z ∈ as, NameP z) → ∀ w ∈ ("rooms" : Str) :: as, WordP w := fun as ga w hw => by
    rcases List.mem_cons.mp hw with rfl | hw
    · exact rooms_wordP
    · exact name_word (ga w hw)
  have ln : ∀ as : List Str, (∀ z ∈ as, NameP z) → as.length ≤ 40 → 10 ∉ (Txt.join " " (("rooms" : Str) :: as)).cps.toList ∧ (Txt.join " " (("rooms" : Str) :: as)).length ≤ 4000 := fun as ga la => by
    refine ⟨fun m => ?_, ?_⟩
    · rcases join_mem m with m | ⟨q, hq, m⟩
      · exact absurd m (by decide +kernel)
      · exact (wp as ga q hq).2.2.1 m
    · have := join_len " " (("rooms" : Str) :: as) fun w hw => (wp as ga w hw).2.2.2
      rw [show (" " : Str).length = 1 from by decide +kernel, List.length_cons] at this
      omega
  unfold okLit at ht
  rw [Bool.and_eq_true, Bool.and_eq_true, Bool.and_eq_true, decide_eq_true_eq, decide_eq_true_eq] at ht
  obtain ⟨⟨⟨h1, h2⟩, h3⟩, h4⟩ := ht
  refine tp_join (List.cons_ne_nil _ _) (fun l hl => ?_) (by rw [List.length_cons, List.length_cons]; omega) ?_
  · rcases List.mem_cons.mp hl with rfl | hl
    · exact ln as ga la
    · rcases List.mem_cons.mp hl with rfl | hl
      · exact ln bs gb lb
      · have := List.all_eq_true.mp h3 l hl
        rw [Bool.and_eq_true, decide_eq_true_eq, decide_eq_true_eq] at this
        exact ⟨this.1, by omega⟩
  · obtain ⟨P, hP, hk⟩ := fewT_sum tl
    refine ⟨P, by omega, fun ws hws => ?_⟩
    rw [← List.singleton_append, toldW_app, ← List.singleton_append (l := tl), toldW_app] at hws
    have rm : ∀ as : List Str, (∀ z ∈ as, NameP z) → ∀ ws ∈ toldW [Txt.join " " (("rooms" : Str) :: as)], ws.getD 0 Str.empty = "rooms" := fun as ga ws h => by
      have e := words_join (g := " ") (.inl rfl) (wp as ga)
      rw [toldW_not (by rw [e]; exact pass_rooms as), e] at h
      rw [List.mem_singleton.mp h]
      rfl
    rcases List.mem_append.mp hws with h | h
    · exact .inl (rm as ga ws h)
    · rcases List.mem_append.mp h with h | h
      · exact .inl (rm bs gb ws h)
      · exact hk ws h
theorem more_eq (a b c d : Str) (as bs : List Str) (ha : as ≠ []) (hb : bs ≠ []) (e1 : a = Txt.join " " as) (e2 : b = Txt.join " " bs) (tl : List Str) (et : c = Txt.join "\n" tl) (htl : tl ≠ []) :
    ("rooms " : Str) ++ a ++ "\nrooms " ++ b ++ "\n\n" ++ c = Txt.join "\n" (Txt.join " " (("rooms" : Str) :: as) :: Txt.join " " (("rooms" : Str) :: bs) :: ("" : Str) :: tl) := by
  rw [join_cons "\n" _ (List.cons_ne_nil _ _), join_cons "\n" _ (List.cons_ne_nil _ _), join_cons "\n" _ htl, join_cons " " "rooms" ha, join_cons " " "rooms" hb, ← e1, ← e2, ← et]
  have k1 : ("rooms " : Str) = "rooms" ++ " " := by decide +kernel
  have k2 : ("\nrooms " : Str) = "\n" ++ ("rooms" ++ " ") := by decide +kernel
  have k3 : ("\n\n" : Str) = "\n" ++ ("" ++ "\n") := by decide +kernel
  rw [k1, k2, k3]
  refine TL.ext_tl ?_
  simp only [TL.tl_append, List.append_assoc]
set_option maxHeartbeats 8000000
theorem ok_law (T : Txt K mg) {fd : FuncData} (F : FunD K "law" "law" (defArgs s_law) (defBody s_law) (defScope s_law) [] [] (He.ga K "law") fd) (O_u_law_pool : Okd P w K mg base CX0 1 "_law_pool" ["script", "many"] (sp_u_law_pool K)) (O_u_law_names : Okd P w K mg base CX0 1 "_law_names" ["pool", "begin", "many"] (sp_u_law_names K)) (O_u_law_drawn : Okd P w K mg base CX0 2 "_law_drawn" ["rooms", "pool", "begin", "many"] (sp_u_law_drawn K)) (O_u_law_scheme : Okd P w K mg base CX0 1 "_law_scheme" ["rooms", "touches"] (sp_u_law_scheme K)) (O_scheme_text : Okd P w K mg base CX0 1 "scheme_text" ["scheme"] (sp_scheme_text K)) (O_u_law_written : Okd P w K mg base CX0 2 "_law_written" ["scheme", "rooms", "pool", "begin"] (sp_u_law_written K)) (O_u_law_noted : Okd P w K mg base CX0 2 "_law_noted" ["lines", "pool", "begin", "many"] (sp_u_law_noted K)) (O_u_law_right : Okd P w K mg base CX0 6 "_law_right" ["text"] (sp_u_law_right K)) (O_u_law_all_right : Okd P w K mg base CX0 7 "_law_all_right" ["rooms", "lines", "pool", "begin", "few"] (sp_u_law_all_right K)) (O_u_law_text : Okd P w K mg base CX0 1 "_law_text" ["scheme"] (sp_u_law_text K)) (O_u_law_read : Okd P w K mg base CX0 3 "_law_read" ["text"] (sp_u_law_read K)) : FnOk P w K mg base CX0 8 (He.ga K "law") fd ["script"] (sp_law K) := by
  refine fn_pf F sc_law ?_ (fun cdv A outer s H E hr => ⟨_, dv_law T O_u_law_pool O_u_law_names O_u_law_drawn O_u_law_scheme O_scheme_text O_u_law_written O_u_law_noted O_u_law_right O_u_law_all_right O_u_law_text O_u_law_read cdv A outer s H E hr, ?_⟩)
  · rintro ds d ⟨x0, rfl, _⟩
    rfl
  · rintro ds d ⟨ns, rfl, hns, rfl⟩
    refine ST.mono (P := fun o => o = .rt (.bool true)) ?_ fun o h => .inl h
    show ST K E0 (t_law K) [.fr (.dict [(.none, .list (ns.map PyData.int))]), .no, .no, .no, .no, .no, .no, .no, .no, .no, .no, .no, .no, .no, .no] _
    unfold t_law sp_u_law_pool sp_u_law_names sp_u_law_scheme sp_u_law_text sp_u_law_read sp_scheme_text sp_u_law_all_right
    refine q_asgV (evx_q1 (ea_cons (ev_var (by rfl)) (ea_cons ev_int ea_nil)) ⟨ns, 360, rfl, hns, by decide, by decide⟩) ?_
    rintro d ⟨m0, c0, ps, e0, rfl, hpl⟩
    injection e0 with _ e0
    injection e0 with e0 _
    injection e0 with e0
    have hpl : (ps.length : Int) = 360 := by omega
    have hat : ∀ j : Int, 0 ≤ j → j < 360 → ∀ {ρ : List Sl}, ρ[1]? = some (.fr (.list (ps.map PyData.int))) → EV K (tOp (rIx K) (tVar 1) (tC (.int j))) ρ (.int (pI ps j)) := fun j h0 h1 ρ e1 => ev_op (ev_var e1) ev_int (od_ixL (pI_get (by omega) (by omega)))
    have md : ∀ (x k : Int), 0 < k → 0 ≤ x % k ∧ x % k < k := fun x k hk => ⟨Int.emod_nonneg _ (by omega), Int.emod_lt_of_pos _ hk⟩
    obtain ⟨n9, hn9⟩ : ∃ n : Nat, 1 + pI ps 0 / 13 % 9 = (n : Nat) := ⟨(1 + pI ps 0 / 13 % 9).toNat, by have := md (pI ps 0 / 13) 9 (by decide); omega⟩
    have hn9' : 1 ≤ n9 ∧ n9 ≤ 9 := by have := md (pI ps 0 / 13) 9 (by decide); omega
    have hnt : (((n9 : Nat) : Int)).toNat = n9 := rfl
    refine q_asg (d := .list ((namesK ps 0 n9).map PyData.str)) (ev_call (ea_cons (ev_var (by rfl)) (ea_cons ev_int (ea_cons (ev_is (ev_op ev_int (ev_op (ev_op (hat 0 (by decide) (by decide) (by rfl)) ev_int (od_div (by decide))) ev_int (od_mod (by decide))) od_addI) (congrArg PyData.int hn9)) ea_nil))) ⟨ps, 0, (n9 : Nat), rfl, by decide, by omega, by omega, by omega, by rw [hnt]⟩) ?_
    refine q_asg (d := .list ((namesK ps 10 40).map PyData.str)) (ev_call (ea_cons (ev_var (by rfl)) (ea_cons ev_int (ea_cons ev_int ea_nil))) ⟨ps, 10, 40, rfl, by decide, by decide, by decide, by omega, rfl⟩) ?_
    have RS := rooms_of ps 0 hn9'.1 (by omega : n9 ≤ 40)
    have RW := rooms_of ps 10 (n := 40) (by decide) (by decide)
    have hwl : (namesK ps 10 40).length = 40 := namesK_len _ _ _
    generalize namesK ps 0 n9 = small at RS
    generalize namesK ps 10 40 = wide at RW hwl
    refine q_for (ei_rng1 (ea_cons ev_int ea_nil) (by decide) (by decide)) (fun i ρ => ∃ s4 s5 s6 s7 s8 s9 s10 s11 s12 : Sl, ρ = [.fr (.dict [(.none, .list (ns.map PyData.int))]), .fr (.list (ps.map PyData.int)), .fr (.list (small.map PyData.str)), .fr (.list (wide.map PyData.str)), s4, s5, s6, s7, s8, s9, s10, s11, s12, .no, .no]) ⟨_, _, _, _, _, _, _, _, _, rfl⟩ ?_ ?_
    · rintro i ρ hi ⟨s4, s5, s6, s7, s8, s9, s10, s11, s12, rfl⟩
      have hi : i < 2 := by omega
      refine ⟨_, _, gt_name, ?_⟩
      have ht : ∀ {ρ : List Sl}, ρ[4]? = some (.fr (.int (i : Nat))) → ET K (tTest (tOp (rEqU K) (tVar 4) (tC (.int 0)))) ρ (decide ((i : Int) = 0)) := fun h => et_test (ev_op (ev_var h) ev_int od_eqI)
      -- rooms
      obtain ⟨rs, R, hrs⟩ : ∃ rs : List Str, Rooms rs ∧ EV K (tIf (tTest (tOp (rEqU K) (tVar 4) (tC (.int 0)))) (tVar 2) (tVar 3)) ([.fr (.dict [(.none, .list (ns.map PyData.int))]), .fr (.list (ps.map PyData.int)), .fr (.list (small.map PyData.str)), .fr (.list (wide.map PyData.str)), .fr (.int (i : Nat)), s5, s6, s7, s8, s9, s10, s11, s12, .no, .no] : List Sl) (.list (rs.map PyData.str)) := by
        have h := ht (ρ := ([.fr (.dict [(.none, .list (ns.map PyData.int))]), .fr (.list (ps.map PyData.int)), .fr (.list (small.map PyData.str)), .fr (.list (wide.map PyData.str)), .fr (.int (i : Nat)), s5, s6, s7, s8, s9, s10, s11, s12, .no, .no] : List Sl)) rfl
        by_cases k : (i : Int) = 0
        · rw [decide_eq_true k] at h
          exact ⟨small, RS, ev_if1 h (ev_var (by rfl))⟩
        · rw [decide_eq_false k] at h
          exact ⟨wide, RW, ev_if0 h (ev_var (by rfl))⟩
      refine q_asg hrs ?_
      clear hrs
      have r1 := R.some
      have r2 := R.many
      -- scheme
      obtain ⟨m, hm0, hm1, hm⟩ : ∃ m : Int, 0 ≤ m ∧ m ≤ 60 ∧ EV K (tOp rModU (tOp (rIx K) (tVar 1) (tOp rSubU (tC (.int 59)) (tVar 4))) (tIf (tTest (tOp (rEqU K) (tVar 4) (tC (.int 0)))) (tC (.int 30)) (tC (.int 61)))) ([.fr (.dict [(.none, .list (ns.map PyData.int))]), .fr (.list (ps.map PyData.int)), .fr (.list (small.map PyData.str)), .fr (.list (wide.map PyData.str)), .fr (.int (i : Nat)), .fr (.list (rs.map PyData.str)), s6, s7, s8, s9, s10, s11, s12, .no, .no] : List Sl) (.int m) := by
        have h := ht (ρ := ([.fr (.dict [(.none, .list (ns.map PyData.int))]), .fr (.list (ps.map PyData.int)), .fr (.list (small.map PyData.str)), .fr (.list (wide.map PyData.str)), .fr (.int (i : Nat)), .fr (.list (rs.map PyData.str)), s6, s7, s8, s9, s10, s11, s12, .no, .no] : List Sl)) rfl
        have hx : EV K (tOp (rIx K) (tVar 1) (tOp rSubU (tC (.int 59)) (tVar 4))) ([.fr (.dict [(.none, .list (ns.map PyData.int))]), .fr (.list (ps.map PyData.int)), .fr (.list (small.map PyData.str)), .fr (.list (wide.map PyData.str)), .fr (.int (i : Nat)), .fr (.list (rs.map PyData.str)), s6, s7, s8, s9, s10, s11, s12, .no, .no] : List Sl) (.int (pI ps (59 - (i : Nat)))) := ev_op (ev_var (by rfl)) (ev_op ev_int (ev_var (by rfl)) od_sub) (od_ixL (pI_get (by omega) (by omega)))
        by_cases k : (i : Int) = 0
        · rw [decide_eq_true k] at h
          have := md (pI ps (59 - (i : Nat))) 30 (by decide)
          exact ⟨_, this.1, by omega, ev_op hx (ev_if1 h ev_int) (od_mod (by decide))⟩
        · rw [decide_eq_false k] at h
          have := md (pI ps (59 - (i : Nat))) 61 (by decide)
          exact ⟨_, this.1, by omega, ev_op hx (ev_if0 h ev_int) (od_mod (by decide))⟩
      refine q_asgV (evx_q1 (ea_cons (ev_var (by rfl)) (ea_cons (ev_var (by rfl)) (ea_cons (ev_op ev_int (ev_op ev_int (ev_var (by rfl)) (od_mulI (.inr (by omega)))) od_addI) (ea_cons hm ea_nil)))) ⟨rs, ps, _, m, rfl, R, by omega, hm0, hm1, by omega⟩) ?_
      rintro d ⟨rs', t', qs, e0, rfl, W, hql⟩
      have e0 : rs' = rs := by
        injection e0 with e0 _
        injection e0 with e0
        have := map_str_inj e0
        exact this.symm
      subst e0
      clear hm
      -- hub
      have h41 := md (pI ps 357) 41 (by decide)
      obtain ⟨n41, hn41⟩ : ∃ n : Nat, pI ps 357 % 41 = (n : Nat) := ⟨(pI ps 357 % 41).toNat, by omega⟩
      have hrt : ∀ z ∈ rs'.take n41, z ∈ rs' := fun z h => List.mem_of_mem_take h
      have hrl : (rs'.take n41).length ≤ 40 := by rw [List.length_take]; omega
      obtain ⟨hb, ehb, hbl, hbt⟩ := lcD_ex (n := (rs'.take n41).length) (b := fun _ => true) (Pr := TouchOk rs') (h := pqD) (f := fun i => pqD ((rs'.take n41).getD i Str.empty, chS "ENWS" (pI ps 356 % 4))) fun i hi _ => ⟨_, .inl ⟨hrt _ (DL.getD_mem (z := Str.empty) hi), List.mem_append_right _ (enws_side _)⟩, rfl⟩
      refine q_asgN (d := .list (hb.map pqD)) (en_is (en_lc (n := (rs'.take n41).length) (b := fun _ => true) (f := fun i => pqD ((rs'.take n41).getD i Str.empty, chS "ENWS" (pI ps 356 % 4))) (ei_listS (zs := rs'.take n41) (ev_N (en_is (en_slL (ev_var (d := .list (rs'.map PyData.str)) (by rfl)) eo_none (eo_some (ev_is (ev_op (hat 357 (by decide) (by decide) (by rfl)) ev_int (od_mod (by decide))) (congrArg PyData.int hn41)))) (congrArg PyData.list cut_take)))) (by omega) fun i hi => ⟨_, _, gt_name, by simp, et_yes, fun _ => ev_tup (ea_cons (ev_var (by rfl)) (ea_cons (ev_op ev_str (ev_op (hat 356 (by decide) (by decide) (by rfl)) ev_int (od_mod (by decide))) (od_ixS (by decide) (ch_at (md _ 4 (by decide)).1 (by rw [len4]; exact (md _ 4 (by decide)).2)))) ea_nil)) (by show 2 ≤ sizeLine; rw [sizeLine_eq]; decide)⟩) (congrArg PyData.list ehb)) ?_
      refine q_frz (i := 7) rfl ?_
      have htk : ∀ t ∈ qs ++ hb, TouchOk rs' t := fun t h => by
        rcases List.mem_append.mp h with h | h
        · obtain ⟨k1, k2⟩ := W.one t h
          rw [List.mem_append, mem_srt] at k1
          exact k1.elim (fun k => .inl ⟨k, List.mem_append_left _ (mem_srt.mp k2)⟩) fun k => .inr ⟨k, mem_srt.mp k2⟩
        · exact hbt t h
      have hpl2 := pairs_len (qs ++ hb)
      rw [List.length_append] at hpl2
      have W2 := ws_of R htk (by omega)
      have hq2 : (srt ltQ (pairsOf (qs ++ hb))).length ≤ 100 := by rw [srt_len]; omega
      refine q_asg (d := lawD rs' (qs ++ hb)) (ev_call (ea_cons (ev_var (by rfl)) (ea_cons (d := .list ((qs ++ hb).map pqD)) (ev_N (en_is (en_op (ev_N (en_cb (ea_cons (ev_s1 (rs := srt ltS rs') (ev_var (by rfl))) ea_nil) cn_listT)) (ev_var (d := .list (hb.map pqD)) (by rfl)) (on_addL (by rw [List.length_map, List.length_map, sizeLine_eq]; omega))) (by rw [List.map_append]))) ea_nil)) ⟨rs', qs ++ hb, rfl, by omega, by rw [List.length_append]; omega, rfl⟩) ?_
      have eL : lawD rs' (qs ++ hb) = schD (srt ltS rs') (srt ltQ (pairsOf (qs ++ hb))) := rfl
      rw [eL]
      generalize srt ltQ (pairsOf (qs ++ hb)) = q2 at W2 hq2
      -- text
      refine q_asg (d := .str (textT (schL (srt ltS rs') q2))) (ev_call (ea_cons (ev_var (by rfl)) ea_nil) ⟨_, _, rfl, W2, rfl⟩) ?_
      have TT := text_tells R W2
      have G0 : Gd ((schL (srt ltS rs') q2).map lineT) 2400 110 := ⟨by rw [schL_eq]; exact List.cons_ne_nil _ _, TT.line, by have := (sch_small W2).1; rw [List.length_map]; omega, tells_few (by omega) TT⟩
      refine q_no (et_is (et_or (a := false) (b := false) (et_is (et_not (et_trB (ev_isi (ev_var (by rfl)) rfl rfl))) (by rfl)) fun _ => et_is (et_or (a := false) (b := false) (et_is (et_test (ev_op (ev_var (d := .str (textT (schL (srt ltS rs') q2))) (by rfl)) (ev_call (ea_cons (ev_var (by rfl)) ea_nil) ⟨_, _, rfl, W2, rfl⟩) od_neS)) (by rw [decide_eq_true rfl]; rfl)) fun _ => et_is (et_not (et_trB (ev_call (ea_cons (ev_var (d := .str (textT (schL (srt ltS rs') q2))) (by rfl)) ea_nil) ⟨_, rfl, G0.tp (by decide) (by decide), rfl⟩))) (by rfl)) (by rfl)) (by rfl)) ?_
      -- lines
      refine q_asgV (evx_q1 (ea_cons (ev_var (by rfl)) (ea_cons (ev_var (by rfl)) (ea_cons (ev_var (by rfl)) (ea_cons (ev_op ev_int (ev_op ev_int (ev_var (by rfl)) (od_mulI (.inr (by omega)))) od_addI) ea_nil)))) ⟨rs', q2, ps, _, rfl, R, W2, hq2, by omega, by omega⟩) ?_
      rintro d ⟨rs3, q3, t3, ls, e3, rfl, hll, TL⟩
      have e4 : rs3 = rs' ∧ q3 = q2 := by
        injection e3 with e3 e5
        injection e5 with e5 _
        injection e5 with e5
        have a := map_str_inj e5
        subst a
        injection e3 with e3
        injection e3 with _ e3
        injection e3 with e3 _
        injection e3 with e3
        exact ⟨rfl, (map_pq_inj e3).symm⟩
      obtain ⟨rfl, rfl⟩ := e4
      have hlne : ls ≠ [] := fun e => by
        obtain ⟨l, hl, _⟩ := tells_head R TL
        rw [e] at hl
        cases hl
      have G1 : Gd ls 2200 110 := ⟨hlne, TL.line, by omega, tells_few (by omega) TL⟩
      obtain ⟨ts, ht1, ht2⟩ := read_tells R W2 TL
      have sh := W2.shaped
      refine q_no (et_is (et_or (a := false) (b := false) (et_is (et_test (ev_op (ev_op (ev_call (ea_cons (ev_jn G1 (by decide) (ev_var (by rfl))) ea_nil) ⟨_, rfl, G1.tp (by decide) (by decide), (by rw [ht1]; rfl)⟩) ev_int (od_ixL (d := schD (srt ltS rs3) q3) (ds := [.bool false, lawD rs3 ts]) (by rw [← ht2]; rfl))) (ev_var (d := schD (srt ltS rs3) q3) (by rfl)) (od_neD sh sh))) (by rw [SeqAt.eqv_refl _ (SeqAt.canLay_of_shaped sh)]; rfl)) fun _ => et_is (et_not (et_trB (ev_right G1 (by decide) (by decide) (ev_var (by rfl))))) (by rfl)) (by rfl)) ?_
      -- many
      obtain ⟨mm, hmm0, hmm1, hmm⟩ : ∃ m : Int, 0 ≤ m ∧ m ≤ 1400 ∧ EV K (tIf (tAnd (tTest (tOp (rEqU K) (tVar 4) (tC (.int 0)))) (tTest (tOp (rEqU K) (tOp rModU (tOp (rIx K) (tVar 1) (tC (.int 332))) (tC (.int 13))) (tC (.int 0))))) (tC (.int 1400)) (tC (.int 0))) ([.fr (.dict [(.none, .list (ns.map PyData.int))]), .fr (.list (ps.map PyData.int)), .fr (.list (small.map PyData.str)), .fr (.list (wide.map PyData.str)), .fr (.int (i : Nat)), .fr (.list (rs3.map PyData.str)), .fr (schD (srt ltS rs3) q3), .fr (.list (hb.map pqD)), s8, .fr (.str (textT (schL (srt ltS rs3) q3))), .fr (.list (ls.map PyData.str)), s11, s12, .no, .no] : List Sl) (.int m) := by
        have h : ∃ bb, ET K (tAnd (tTest (tOp (rEqU K) (tVar 4) (tC (.int 0)))) (tTest (tOp (rEqU K) (tOp rModU (tOp (rIx K) (tVar 1) (tC (.int 332))) (tC (.int 13))) (tC (.int 0))))) ([.fr (.dict [(.none, .list (ns.map PyData.int))]), .fr (.list (ps.map PyData.int)), .fr (.list (small.map PyData.str)), .fr (.list (wide.map PyData.str)), .fr (.int (i : Nat)), .fr (.list (rs3.map PyData.str)), .fr (schD (srt ltS rs3) q3), .fr (.list (hb.map pqD)), s8, .fr (.str (textT (schL (srt ltS rs3) q3))), .fr (.list (ls.map PyData.str)), s11, s12, .no, .no] : List Sl) bb := ⟨_, et_and (ht (by rfl)) fun _ => et_test (ev_op (ev_op (hat 332 (by decide) (by decide) (by rfl)) ev_int (od_mod (by decide))) ev_int od_eqI)⟩
        obtain ⟨bb, h⟩ := h
        cases bb with
        | true => exact ⟨1400, by decide, by decide, ev_if1 h ev_int⟩
        | false => exact ⟨0, by decide, by decide, ev_if0 h ev_int⟩
      refine q_asg hmm ?_
      clear hmm
      refine q_asgV (evx_q1 (ea_cons (ev_var (by rfl)) (ea_cons (ev_var (by rfl)) (ea_cons (ev_op ev_int (ev_op ev_int (ev_var (by rfl)) (od_mulI (.inr (by omega)))) od_addI) (ea_cons (ev_var (by rfl)) ea_nil)))) ⟨ls, ps, _, mm, rfl, hll, TL.line, by omega, by omega, hmm0, hmm1⟩) ?_
      rintro d ⟨ls4, t4, l2, e6, rfl, h2l, h2k, h2s, h2t⟩
      have e7 : ls4 = ls := by
        injection e6 with e6 _
        injection e6 with e6
        exact (map_str_inj e6).symm
      subst e7
      have hf2 : fewT l2 110 := by
        obtain ⟨P, hP, hk⟩ := G1.few
        exact ⟨P, hP, by rw [h2t]; exact hk⟩
      have hne2 : l2 ≠ [] := fun e => by
        obtain ⟨l, hl, _⟩ := tells_head R TL
        have := h2s l hl
        rw [e] at this
        cases this
      have G2 : Gd l2 2200 110 := ⟨hne2, h2k, by omega, hf2⟩
      refine q_no (et_not (et_trB (ev_right G2 (by decide) (by decide) (ev_var (by rfl))))) ?_
      obtain ⟨fw, hfw, hf⟩ : ∃ f : Int, 1 ≤ f ∧ EV K (tIf (tTest (tOp rGtU (tVar 11) (tC (.int 0)))) (tC (.int 12)) (tOp (rAddU K) (tC (.int 1)) (tOp rMulU (tC (.int 3)) (tVar 4)))) ([.fr (.dict [(.none, .list (ns.map PyData.int))]), .fr (.list (ps.map PyData.int)), .fr (.list (small.map PyData.str)), .fr (.list (wide.map PyData.str)), .fr (.int (i : Nat)), .fr (.list (rs3.map PyData.str)), .fr (schD (srt ltS rs3) q3), .fr (.list (hb.map pqD)), s8, .fr (.str (textT (schL (srt ltS rs3) q3))), .fr (.list (l2.map PyData.str)), .fr (.int mm), s12, .no, .no] : List Sl) (.int f) := by
        have h : ET K (tTest (tOp rGtU (tVar 11) (tC (.int 0)))) ([.fr (.dict [(.none, .list (ns.map PyData.int))]), .fr (.list (ps.map PyData.int)), .fr (.list (small.map PyData.str)), .fr (.list (wide.map PyData.str)), .fr (.int (i : Nat)), .fr (.list (rs3.map PyData.str)), .fr (schD (srt ltS rs3) q3), .fr (.list (hb.map pqD)), s8, .fr (.str (textT (schL (srt ltS rs3) q3))), .fr (.list (l2.map PyData.str)), .fr (.int mm), s12, .no, .no] : List Sl) (decide (mm > 0)) := et_test (ev_op (ev_var (by rfl)) ev_int od_cmpI)
        by_cases k : mm > 0
        · rw [decide_eq_true k] at h
          exact ⟨12, by decide, ev_if1 h ev_int⟩
        · rw [decide_eq_false k] at h
          exact ⟨1 + 3 * (i : Nat), by omega, ev_if0 h (ev_op ev_int (ev_op ev_int (ev_var (by rfl)) (od_mulI (.inr (by omega)))) od_addI)⟩
      refine q_asg hf ?_
      clear hf
      have OK : OKL l2 := ⟨h2k, by omega, by
        obtain ⟨l, hl, k⟩ := tells_head R TL
        exact ⟨l, h2s l hl, k⟩⟩
      refine DL.st_no (et_not (et_trB (ev_call (d := .bool true) (ea_cons (ev_var (by rfl)) (ea_cons (ev_var (by rfl)) (ea_cons (ev_var (by rfl)) (ea_cons (ev_op ev_int (ev_op ev_int (ev_var (by rfl)) (od_mulI (.inr (by omega)))) od_addI) (ea_cons (ev_var (by rfl)) ea_nil))))) ⟨rs3, l2, ps, _, fw, rfl, R, OK, by omega, hf2, by omega, by omega, hfw, rfl⟩))) (st_next ⟨_, _, _, _, _, _, _, _, _, rfl⟩)
    rintro ρ ⟨s4, s5, s6, s7, s8, s9, s10, s11, s12, rfl⟩
    -- more rooms than let
    have w20 : (wide.take 20).length = 20 := by rw [List.length_take]; omega
    have w20' : (wide.drop 20).length = 20 := by rw [List.length_drop]; omega
    have ga : ∀ z ∈ wide.take 20, NameP z := fun z h => RW.good z (List.mem_of_mem_take h)
    have gb : ∀ z ∈ wide.drop 20, NameP z := fun z h => RW.good z (List.mem_of_mem_drop h)
    have hna : wide.take 20 ≠ [] := fun e => by rw [e] at w20; cases w20
    have hnb : wide.drop 20 ≠ [] := fun e => by rw [e] at w20'; cases w20'
    have sp1 : (" " : Str).length ≤ 1 := by decide +kernel
    have ja : (Txt.join " " (wide.take 20)).length ≤ 400 := by
      have := join_len " " (wide.take 20) fun z h => (ga z h).2
      rw [show (" " : Str).length = 1 from by decide +kernel, w20] at this
      omega
    have jb : (Txt.join " " (wide.drop 20)).length ≤ 400 := by
      have := join_len " " (wide.drop 20) fun z h => (gb z h).2
      rw [show (" " : Str).length = 1 from by decide +kernel, w20'] at this
      omega
    have c20 : cutDs (wide.map PyData.str) none (some 20) = (wide.take 20).map PyData.str := cut_take (n := 20)
    have d20 : cutDs (wide.map PyData.str) (some 20) none = (wide.drop 20).map PyData.str := cut_drop (n := 20)
    have l1 : ("rooms " : Str).length = 6 ∧ ("\nrooms " : Str).length = 7 ∧ ("\n\n" : Str).length = 2 ∧ ("rooms q9\n" : Str).length = 9 ∧ (": E" : Str).length = 3 := by decide +kernel
    have hg3 := RW.good _ (getD_mem (z := Str.empty) (by omega : 3 < wide.length))
    have hx3 : ∀ {ρ : List Sl}, ρ[3]? = some (.fr (.list (wide.map PyData.str))) → EV K (tOp (rIx K) (tVar 3) (tC (.int 3))) ρ (.str (wide.getD 3 Str.empty)) := fun h => ev_op (ev_var h) ev_int (od_ixL (atI_strs (ys := wide) (i := 3) (by decide) (by omega)))
    generalize wide.getD 3 Str.empty = z3 at hg3 hx3
    have z3l := hg3.2
    refine q_asg (d := .str (("rooms " : Str) ++ Txt.join " " (wide.take 20) ++ "\nrooms " ++ Txt.join " " (wide.drop 20) ++ "\n\n")) (ev_op (ev_op (ev_op (ev_op ev_str (ev_joinL ev_str (ev_N (en_is (en_slL (ev_var (d := .list (wide.map PyData.str)) (by rfl)) eo_none (eo_some ev_int)) (congrArg PyData.list c20))) (join_fit (a := " ") (m := 8) (n := 20) (fun z h => (ga z h).2) (by omega) sp1 (by decide))) (od_addS (by rw [sizeLine_eq]; omega))) ev_str (od_addS (by rw [len_app, sizeLine_eq]; omega))) (ev_joinL ev_str (ev_N (en_is (en_slL (ev_var (d := .list (wide.map PyData.str)) (by rfl)) (eo_some ev_int) eo_none) (congrArg PyData.list d20))) (join_fit (a := " ") (m := 8) (n := 20) (fun z h => (gb z h).2) (by omega) sp1 (by decide))) (od_addS (by rw [len_app, len_app, sizeLine_eq]; omega))) ev_str (od_addS (by rw [len_app, len_app, len_app, sizeLine_eq]; omega))) ?_
    have hml : (("rooms " : Str) ++ Txt.join " " (wide.take 20) ++ "\nrooms " ++ Txt.join " " (wide.drop 20) ++ "\n\n").length ≤ 1000 := by
      rw [len_app, len_app, len_app, len_app]
      omega
    have line3 : LineP (z3 ++ ": E") := SM.line ((SM.name hg3).app (j := 1) ⟨by decide +kernel, by decide +kernel⟩) (by decide)
    have w3l : (wordsT (z3 ++ ": E")).length ≤ 61 := by
      have := words_len (z3 ++ ": E")
      have := line3.2
      omega
    have ok2 : okLit ["", z3 ++ ": E"] = true := by
      unfold okLit
      rw [Bool.and_eq_true, Bool.and_eq_true, Bool.and_eq_true, decide_eq_true_eq, decide_eq_true_eq]
      refine ⟨⟨⟨by rfl, by show 2 ≤ 100; decide⟩, ?_⟩, ?_⟩
      · rw [List.all_cons, List.all_cons, List.all_nil, decide_eq_true line3.1, decide_eq_true (by have := line3.2; omega : (z3 ++ ": E").length ≤ 100)]
        decide +kernel
      · simp only [List.map_cons, List.map_nil, List.sum_cons, List.sum_nil, words_nil, List.length_nil]
        omega
    have ok3 : okLit ["", "rooms q9", z3 ++ ": E"] = true := by
      unfold okLit
      rw [Bool.and_eq_true, Bool.and_eq_true, Bool.and_eq_true, decide_eq_true_eq, decide_eq_true_eq]
      have wq : (wordsT "rooms q9").length = 2 := by decide +kernel
      refine ⟨⟨⟨by rfl, by show 3 ≤ 100; decide⟩, ?_⟩, ?_⟩
      · rw [List.all_cons, List.all_cons, List.all_cons, List.all_nil, decide_eq_true line3.1, decide_eq_true (by have := line3.2; omega : (z3 ++ ": E").length ≤ 100)]
        decide +kernel
      · simp only [List.map_cons, List.map_nil, List.sum_cons, List.sum_nil, words_nil, List.length_nil, wq]
        omega
    have jn1 : ∀ z : Str, Txt.join "\n" [z] = z := fun z => by rw [TL.join_eq]; rfl
    have t3 : TP (("rooms " : Str) ++ Txt.join " " (wide.take 20) ++ "\nrooms " ++ Txt.join " " (wide.drop 20) ++ "\n\n" ++ "rooms q9\n" ++ z3 ++ ": E") := by
      have e : ("rooms q9\n" : Str) ++ (z3 ++ ": E") = Txt.join "\n" ["rooms q9", z3 ++ ": E"] := by
        rw [join_cons "\n" _ (List.cons_ne_nil _ _), jn1, show ("rooms q9\n" : Str) = "rooms q9" ++ "\n" from by decide +kernel]
      rw [app_assoc _ z3, app_assoc _ ("rooms q9\n" : Str), more_eq _ _ _ "" (wide.take 20) (wide.drop 20) hna hnb rfl rfl ["rooms q9", z3 ++ ": E"] e (List.cons_ne_nil _ _)]
      exact two_heads hna hnb ga gb (by omega) (by omega) ok3
    have t2 : TP (("rooms " : Str) ++ Txt.join " " (wide.take 20) ++ "\nrooms " ++ Txt.join " " (wide.drop 20) ++ "\n\n" ++ z3 ++ ": E") := by
      rw [app_assoc _ z3, more_eq _ _ _ "" (wide.take 20) (wide.drop 20) hna hnb rfl rfl [z3 ++ ": E"] (jn1 _).symm (List.cons_ne_nil _ _)]
      exact two_heads hna hnb ga gb (by omega) (by omega) ok2
    generalize (("rooms " : Str) ++ Txt.join " " (wide.take 20) ++ "\nrooms " ++ Txt.join " " (wide.drop 20) ++ "\n\n") = mo at hml t2 t3
    have rt : ∀ {ρ : List Sl} {te : TE} {z : Str}, EV K te ρ (.str z) → TP z → EV K (tCall (sp_u_law_right K) [] E0 (tCons te tNil)) ρ (.bool true) := fun h k => ev_call (ea_cons h ea_nil) ⟨_, rfl, k, rfl⟩
    refine q_no (et_is (et_or (a := false) (b := false) (et_is (et_not (et_trB (rt (ev_op (ev_op (ev_op (ev_var (d := .str mo) (by rfl)) ev_str (od_addS (by rw [sizeLine_eq]; omega))) (hx3 (by rfl)) (od_addS (by rw [len_app, sizeLine_eq]; omega))) ev_str (od_addS (by rw [len_app, len_app, sizeLine_eq]; omega))) t3))) (by rfl)) fun _ => et_is (et_not (et_trB (rt (ev_op (ev_op (ev_var (d := .str mo) (by rfl)) (hx3 (by rfl)) (od_addS (by rw [sizeLine_eq]; omega))) ev_str (od_addS (by rw [len_app, sizeLine_eq]; omega))) t2))) (by rfl)) (by rfl)) ?_
    -- small texts
    have h9 := md (pI ps 355) 9 (by decide)
    obtain ⟨n5, hn5⟩ : ∃ n : Nat, pI ps 355 % 9 = (n : Nat) := ⟨(pI ps 355 % 9).toNat, by omega⟩
    have hr5 := rep_small n5 (by omega)
    have tr := tp_lit (tp_reps n5 (by omega))
    have l3 : ("#a\n" : Str).length = 3 ∧ ("# E: N" : Str).length = 6 := by decide +kernel
    refine q_asgN (d := .list (([("" : Str), "#", "\n#a\n  ", " \n# rooms a", repS "#a\n" (n5 : Nat) ++ "# E: N", "E: N", "\na: b"] : List Str).map PyData.str)) (by exact en_lst (ds := ([("" : Str), "#", "\n#a\n  ", " \n# rooms a", repS "#a\n" (n5 : Nat) ++ "# E: N", "E: N", "\na: b"] : List Str).map PyData.str) (ea_cons ev_str (ea_cons ev_str (ea_cons ev_str (ea_cons ev_str (ea_cons (ev_op (ev_op ev_str (ev_is (ev_op (hat 355 (by decide) (by decide) (by rfl)) ev_int (od_mod (by decide))) (congrArg PyData.int hn5)) (od_mulS (by omega) (by omega) (by rw [l3.1, sizeLine_eq]; omega))) ev_str (od_addS (by rw [sizeLine_eq]; omega))) (ea_cons ev_str (ea_cons ev_str ea_nil))))))) (by rw [List.length_map, sizeLine_eq]; show 7 ≤ _; decide)) ?_
    refine q_augO (ds := ([("" : Str), "#", "\n#a\n  ", " \n# rooms a", repS "#a\n" (n5 : Nat) ++ "# E: N", "E: N", "\na: b"] : List Str).map PyData.str) (es := ([("a: N\nrooms a" : Str), "rooms a\na: b\nrooms b", "rooms a\na: N\nrooms b\nb: E", "rooms a\nN: b\n\nrooms b"] : List Str).map PyData.str) (by rfl) (ev_N (by exact en_lst (ds := ([("a: N\nrooms a" : Str), "rooms a\na: b\nrooms b", "rooms a\na: N\nrooms b\nb: E", "rooms a\nN: b\n\nrooms b"] : List Str).map PyData.str) (ea_cons ev_str (ea_cons ev_str (ea_cons ev_str (ea_cons ev_str ea_nil)))) (by rw [List.length_map, sizeLine_eq]; show 4 ≤ _; decide))) (by rw [List.length_map, List.length_map]; show 7 + 4 ≤ _; decide) ?_
    rw [← List.map_append]
    have hall : ∀ z ∈ ([("" : Str), "#", "\n#a\n  ", " \n# rooms a", repS "#a\n" (n5 : Nat) ++ "# E: N", "E: N", "\na: b"] ++ [("a: N\nrooms a" : Str), "rooms a\na: b\nrooms b", "rooms a\na: N\nrooms b\nb: E", "rooms a\nN: b\n\nrooms b"] : List Str), TP z := fun z hz => by
      simp only [List.mem_append, List.mem_cons, List.not_mem_nil, or_false] at hz
      rcases hz with (rfl | rfl | rfl | rfl | rfl | rfl | rfl) | (rfl | rfl | rfl | rfl)
      · exact tp_lit (ls := [""]) (by decide +kernel)
      · exact tp_lit (ls := ["#"]) (by decide +kernel)
      · exact tp_lit (ls := ["", "#a", "  "]) (by decide +kernel)
      · exact tp_lit (ls := [" ", "# rooms a"]) (by decide +kernel)
      · exact tr
      · exact tp_lit (ls := ["E: N"]) (by decide +kernel)
      · exact tp_lit (ls := ["", "a: b"]) (by decide +kernel)
      · exact tp_lit (ls := ["a: N", "rooms a"]) (by decide +kernel)
      · exact tp_lit (ls := ["rooms a", "a: b", "rooms b"]) (by decide +kernel)
      · exact tp_lit (ls := ["rooms a", "a: N", "rooms b", "b: E"]) (by decide +kernel)
      · exact tp_lit (ls := ["rooms a", "N: b", "", "rooms b"]) (by decide +kernel)
    generalize ([("" : Str), "#", "\n#a\n  ", " \n# rooms a", repS "#a\n" (n5 : Nat) ++ "# E: N", "E: N", "\na: b"] ++ [("a: N\nrooms a" : Str), "rooms a\na: b\nrooms b", "rooms a\na: N\nrooms b\nb: E", "rooms a\nN: b\n\nrooms b"] : List Str) = TS at hall
    refine q_frz (i := 14) rfl ?_
    refine q_for (ei_listS (zs := TS) (ev_var (by rfl))) (fun i ρ => ∃ s9 : Sl, ρ = [.fr (.dict [(.none, .list (ns.map PyData.int))]), .fr (.list (ps.map PyData.int)), .fr (.list (small.map PyData.str)), .fr (.list (wide.map PyData.str)), s4, s5, s6, s7, s8, s9, s10, s11, s12, .fr (.str mo), .fr (.list (TS.map PyData.str))]) ⟨_, rfl⟩ ?_ ?_
    · rintro i ρ hi ⟨s9, rfl⟩
      exact ⟨_, _, gt_name, DL.st_no (et_not (et_trB (rt (ev_var (by rfl)) (hall _ (getD_mem hi))))) (st_next ⟨_, rfl⟩)⟩
    rintro ρ ⟨s9', rfl⟩
    exact st_ret (ev_is (ev_andV (b := true) (rt ev_str (tp_lit (ls := ["rooms a", "a: c N", "rooms"]) (by decide +kernel))) fun _ => rt ev_str (tp_lit (ls := ["rooms rooms", "rooms: N E"]) (by decide +kernel))) (by rfl)) (by rfl)
theorem ok_is_side (T : Txt K mg) (hd : ∃ fd, FunD K "is_side" "is_side" (defArgs s_is_side) (defBody s_is_side) (defScope s_is_side) [] [] (He.ga K "is_side") fd) (hm : mg "is_side" = some (.ref (He.ga K "is_side")))  : Okd P w K mg base CX0 1 "is_side" ["thing"] (sp_is_side K) := by
  obtain ⟨fd, F⟩ := hd
  exact ⟨hm, fd, fk_is_side T  F, F.bindsN (fun _ _ _ _ _ _ us hl => match us, hl with | [_], _ => rfl), F.kp⟩
theorem ok_name_fault (T : Txt K mg) (hd : ∃ fd, FunD K "name_fault" "name_fault" (defArgs s_name_fault) (defBody s_name_fault) (defScope s_name_fault) [] [] (He.ga K "name_fault") fd) (hm : mg "name_fault" = some (.ref (He.ga K "name_fault")))  : Okd P w K mg base CX0 1 "name_fault" ["thing"] (sp_name_fault K) := by
  obtain ⟨fd, F⟩ := hd
  exact ⟨hm, fd, fk_name_fault T  F, F.bindsN (fun _ _ _ _ _ _ us hl => match us, hl with | [_], _ => rfl), F.kp⟩
theorem ok_is_name (T : Txt K mg) (hd : ∃ fd, FunD K "is_name" "is_name" (defArgs s_is_name) (defBody s_is_name) (defScope s_is_name) [] [] (He.ga K "is_name") fd) (hm : mg "is_name" = some (.ref (He.ga K "is_name"))) (O_name_fault : Okd P w K mg base CX0 1 "name_fault" ["thing"] (sp_name_fault K)) : Okd P w K mg base CX0 2 "is_name" ["thing"] (sp_is_name K) := by
  obtain ⟨fd, F⟩ := hd
  exact ⟨hm, fd, fk_is_name T O_name_fault F, F.bindsN (fun _ _ _ _ _ _ us hl => match us, hl with | [_], _ => rfl), F.kp⟩
theorem ok_ordered_pair (T : Txt K mg) (hd : ∃ fd, FunD K "ordered_pair" "ordered_pair" (defArgs s_ordered_pair) (defBody s_ordered_pair) (defScope s_ordered_pair) [] [] (He.ga K "ordered_pair") fd) (hm : mg "ordered_pair" = some (.ref (He.ga K "ordered_pair")))  : Okd P w K mg base CX0 1 "ordered_pair" ["one", "other"] (sp_ordered_pair K) := by
  obtain ⟨fd, F⟩ := hd
  exact ⟨hm, fd, fk_ordered_pair T  F, F.bindsN (fun _ _ _ _ _ _ us hl => match us, hl with | [_, _], _ => rfl), F.kp⟩
theorem ok_make_scheme (T : Txt K mg) (hd : ∃ fd, FunD K "make_scheme" "make_scheme" (defArgs s_make_scheme) (defBody s_make_scheme) (defScope s_make_scheme) [] [] (He.ga K "make_scheme") fd) (hm : mg "make_scheme" = some (.ref (He.ga K "make_scheme"))) (O_ordered_pair : Okd P w K mg base CX0 1 "ordered_pair" ["one", "other"] (sp_ordered_pair K)) : Okd P w K mg base CX0 2 "make_scheme" ["rooms", "touches"] (sp_make_scheme K) := by
  obtain ⟨fd, F⟩ := hd
  exact ⟨hm, fd, fk_make_scheme T O_ordered_pair F, F.bindsN (fun _ _ _ _ _ _ us hl => match us, hl with | [_, _], _ => rfl), F.kp⟩
theorem ok_text_lines (T : Txt K mg) (hd : ∃ fd, FunD K "text_lines" "text_lines" (defArgs s_text_lines) (defBody s_text_lines) (defScope s_text_lines) [] [] (He.ga K "text_lines") fd) (hm : mg "text_lines" = some (.ref (He.ga K "text_lines")))  : Okd P w K mg base CX0 1 "text_lines" ["text"] (sp_text_lines K) := by
  obtain ⟨fd, F⟩ := hd
  exact ⟨hm, fd, fk_text_lines T  F, F.bindsN (fun _ _ _ _ _ _ us hl => match us, hl with | [_], _ => rfl), F.kp⟩
theorem ok_words_of (T : Txt K mg) (hd : ∃ fd, FunD K "words_of" "words_of" (defArgs s_words_of) (defBody s_words_of) (defScope s_words_of) [] [] (He.ga K "words_of") fd) (hm : mg "words_of" = some (.ref (He.ga K "words_of")))  : Okd P w K mg base CX0 1 "words_of" ["line"] (sp_words_of K) := by
  obtain ⟨fd, F⟩ := hd
  exact ⟨hm, fd, fk_words_of T  F, F.bindsN (fun _ _ _ _ _ _ us hl => match us, hl with | [_], _ => rfl), F.kp⟩
theorem ok_passed_over (T : Txt K mg) (hd : ∃ fd, FunD K "passed_over" "passed_over" (defArgs s_passed_over) (defBody s_passed_over) (defScope s_passed_over) [] [] (He.ga K "passed_over") fd) (hm : mg "passed_over" = some (.ref (He.ga K "passed_over"))) (O_words_of : Okd P w K mg base CX0 1 "words_of" ["line"] (sp_words_of K)) : Okd P w K mg base CX0 2 "passed_over" ["line"] (sp_passed_over K) := by
  obtain ⟨fd, F⟩ := hd
  exact ⟨hm, fd, fk_passed_over T O_words_of F, F.bindsN (fun _ _ _ _ _ _ us hl => match us, hl with | [_], _ => rfl), F.kp⟩
theorem ok_told_lines (T : Txt K mg) (hd : ∃ fd, FunD K "told_lines" "told_lines" (defArgs s_told_lines) (defBody s_told_lines) (defScope s_told_lines) [] [] (He.ga K "told_lines") fd) (hm : mg "told_lines" = some (.ref (He.ga K "told_lines"))) (O_text_lines : Okd P w K mg base CX0 1 "text_lines" ["text"] (sp_text_lines K)) (O_passed_over : Okd P w K mg base CX0 2 "passed_over" ["line"] (sp_passed_over K)) (O_words_of : Okd P w K mg base CX0 1 "words_of" ["line"] (sp_words_of K)) : Okd P w K mg base CX0 3 "told_lines" ["text"] (sp_told_lines K) := by
  obtain ⟨fd, F⟩ := hd
  exact ⟨hm, fd, fk_told_lines T O_text_lines O_passed_over O_words_of F, F.bindsN (fun _ _ _ _ _ _ us hl => match us, hl with | [_], _ => rfl), F.kp⟩
theorem ok_line_behind (T : Txt K mg) (hd : ∃ fd, FunD K "line_behind" "line_behind" (defArgs s_line_behind) (defBody s_line_behind) (defScope s_line_behind) [] [] (He.ga K "line_behind") fd) (hm : mg "line_behind" = some (.ref (He.ga K "line_behind"))) (O_text_lines : Okd P w K mg base CX0 1 "text_lines" ["text"] (sp_text_lines K)) : Okd P w K mg base CX0 2 "line_behind" ["text"] (sp_line_behind K) := by
  obtain ⟨fd, F⟩ := hd
  exact ⟨hm, fd, fk_line_behind T O_text_lines F, F.bindsN (fun _ _ _ _ _ _ us hl => match us, hl with | [_], _ => rfl), F.kp⟩
theorem ok_scheme_touch_fault (T : Txt K mg) (hd : ∃ fd, FunD K "scheme_touch_fault" "scheme_touch_fault" (defArgs s_scheme_touch_fault) (defBody s_scheme_touch_fault) (defScope s_scheme_touch_fault) [] [] (He.ga K "scheme_touch_fault") fd) (hm : mg "scheme_touch_fault" = some (.ref (He.ga K "scheme_touch_fault"))) (O_is_side : Okd P w K mg base CX0 1 "is_side" ["thing"] (sp_is_side K)) (O_is_name : Okd P w K mg base CX0 2 "is_name" ["thing"] (sp_is_name K)) : Okd P w K mg base CX0 3 "scheme_touch_fault" ["first", "others", "known"] (sp_scheme_touch_fault K) := by
  obtain ⟨fd, F⟩ := hd
  exact ⟨hm, fd, fk_scheme_touch_fault T O_is_side O_is_name F, F.bindsN (fun _ _ _ _ _ _ us hl => match us, hl with | [_, _, _], _ => rfl), F.kp⟩
theorem ok_scheme_rooms_fault (T : Txt K mg) (hd : ∃ fd, FunD K "scheme_rooms_fault" "scheme_rooms_fault" (defArgs s_scheme_rooms_fault) (defBody s_scheme_rooms_fault) (defScope s_scheme_rooms_fault) [] [] (He.ga K "scheme_rooms_fault") fd) (hm : mg "scheme_rooms_fault" = some (.ref (He.ga K "scheme_rooms_fault"))) (O_is_name : Okd P w K mg base CX0 2 "is_name" ["thing"] (sp_is_name K)) : Okd P w K mg base CX0 3 "scheme_rooms_fault" ["rooms", "known"] (sp_scheme_rooms_fault K) := by
  obtain ⟨fd, F⟩ := hd
  exact ⟨hm, fd, fk_scheme_rooms_fault T O_is_name F, F.bindsN (fun _ _ _ _ _ _ us hl => match us, hl with | [_, _], _ => rfl), F.kp⟩
theorem ok_scheme_line_fault (T : Txt K mg) (hd : ∃ fd, FunD K "scheme_line_fault" "scheme_line_fault" (defArgs s_scheme_line_fault) (defBody s_scheme_line_fault) (defScope s_scheme_line_fault) [] [] (He.ga K "scheme_line_fault") fd) (hm : mg "scheme_line_fault" = some (.ref (He.ga K "scheme_line_fault"))) (O_scheme_touch_fault : Okd P w K mg base CX0 3 "scheme_touch_fault" ["first", "others", "known"] (sp_scheme_touch_fault K)) (O_scheme_rooms_fault : Okd P w K mg base CX0 3 "scheme_rooms_fault" ["rooms", "known"] (sp_scheme_rooms_fault K)) : Okd P w K mg base CX0 4 "scheme_line_fault" ["words", "known", "begun"] (sp_scheme_line_fault K) := by
  obtain ⟨fd, F⟩ := hd
  exact ⟨hm, fd, fk_scheme_line_fault T O_scheme_touch_fault O_scheme_rooms_fault F, F.bindsN (fun _ _ _ _ _ _ us hl => match us, hl with | [_, _, _], _ => rfl), F.kp⟩
theorem ok_read_scheme (T : Txt K mg) (hd : ∃ fd, FunD K "read_scheme" "read_scheme" (defArgs s_read_scheme) (defBody s_read_scheme) (defScope s_read_scheme) [] [] (He.ga K "read_scheme") fd) (hm : mg "read_scheme" = some (.ref (He.ga K "read_scheme"))) (O_told_lines : Okd P w K mg base CX0 3 "told_lines" ["text"] (sp_told_lines K)) (O_make_scheme : Okd P w K mg base CX0 2 "make_scheme" ["rooms", "touches"] (sp_make_scheme K)) (O_scheme_line_fault : Okd P w K mg base CX0 4 "scheme_line_fault" ["words", "known", "begun"] (sp_scheme_line_fault K)) (O_line_behind : Okd P w K mg base CX0 2 "line_behind" ["text"] (sp_line_behind K)) (X_BadText : ExOk P w K mg base 1 "BadText" ["line", "word"]) : Okd P w K mg base (L2N.CX P w) 5 "read_scheme" ["text"] (sp_read_scheme K) := by
  obtain ⟨fd, F⟩ := hd
  exact ⟨hm, fd, fk_read_scheme T O_told_lines O_make_scheme O_scheme_line_fault O_line_behind X_BadText F, F.bindsN (fun _ _ _ _ _ _ us hl => match us, hl with | [_], _ => rfl), F.kp⟩
theorem ok_scheme_text (T : Txt K mg) (hd : ∃ fd, FunD K "scheme_text" "scheme_text" (defArgs s_scheme_text) (defBody s_scheme_text) (defScope s_scheme_text) [] [] (He.ga K "scheme_text") fd) (hm : mg "scheme_text" = some (.ref (He.ga K "scheme_text")))  : Okd P w K mg base CX0 1 "scheme_text" ["scheme"] (sp_scheme_text K) := by
  obtain ⟨fd, F⟩ := hd
  exact ⟨hm, fd, fk_scheme_text T  F, F.bindsN (fun _ _ _ _ _ _ us hl => match us, hl with | [_], _ => rfl), F.kp⟩
theorem ok_u_law_pool (T : Txt K mg) (hd : ∃ fd, FunD K "_law_pool" "_law_pool" (defArgs s_u_law_pool) (defBody s_u_law_pool) (defScope s_u_law_pool) [] [] (He.ga K "_law_pool") fd) (hm : mg "_law_pool" = some (.ref (He.ga K "_law_pool")))  : Okd P w K mg base CX0 1 "_law_pool" ["script", "many"] (sp_u_law_pool K) := by
  obtain ⟨fd, F⟩ := hd
  exact ⟨hm, fd, fk_u_law_pool T  F, F.bindsN (fun _ _ _ _ _ _ us hl => match us, hl with | [_, _], _ => rfl), F.kp⟩
theorem ok_u_law_names (T : Txt K mg) (hd : ∃ fd, FunD K "_law_names" "_law_names" (defArgs s_u_law_names) (defBody s_u_law_names) (defScope s_u_law_names) [] [] (He.ga K "_law_names") fd) (hm : mg "_law_names" = some (.ref (He.ga K "_law_names")))  : Okd P w K mg base CX0 1 "_law_names" ["pool", "begin", "many"] (sp_u_law_names K) := by
  obtain ⟨fd, F⟩ := hd
  exact ⟨hm, fd, fk_u_law_names T  F, F.bindsN (fun _ _ _ _ _ _ us hl => match us, hl with | [_, _, _], _ => rfl), F.kp⟩
theorem ok_u_law_scheme (T : Txt K mg) (hd : ∃ fd, FunD K "_law_scheme" "_law_scheme" (defArgs s_u_law_scheme) (defBody s_u_law_scheme) (defScope s_u_law_scheme) [] [] (He.ga K "_law_scheme") fd) (hm : mg "_law_scheme" = some (.ref (He.ga K "_law_scheme")))  : Okd P w K mg base CX0 1 "_law_scheme" ["rooms", "touches"] (sp_u_law_scheme K) := by
  obtain ⟨fd, F⟩ := hd
  exact ⟨hm, fd, fk_u_law_scheme T  F, F.bindsN (fun _ _ _ _ _ _ us hl => match us, hl with | [_, _], _ => rfl), F.kp⟩
theorem ok_u_law_drawn (T : Txt K mg) (hd : ∃ fd, FunD K "_law_drawn" "_law_drawn" (defArgs s_u_law_drawn) (defBody s_u_law_drawn) (defScope s_u_law_drawn) [] [] (He.ga K "_law_drawn") fd) (hm : mg "_law_drawn" = some (.ref (He.ga K "_law_drawn"))) (O_u_law_scheme : Okd P w K mg base CX0 1 "_law_scheme" ["rooms", "touches"] (sp_u_law_scheme K)) : Okd P w K mg base CX0 2 "_law_drawn" ["rooms", "pool", "begin", "many"] (sp_u_law_drawn K) := by
  obtain ⟨fd, F⟩ := hd
  exact ⟨hm, fd, fk_u_law_drawn T O_u_law_scheme F, F.bindsN (fun _ _ _ _ _ _ us hl => match us, hl with | [_, _, _, _], _ => rfl), F.kp⟩
theorem ok_u_law_text (T : Txt K mg) (hd : ∃ fd, FunD K "_law_text" "_law_text" (defArgs s_u_law_text) (defBody s_u_law_text) (defScope s_u_law_text) [] [] (He.ga K "_law_text") fd) (hm : mg "_law_text" = some (.ref (He.ga K "_law_text")))  : Okd P w K mg base CX0 1 "_law_text" ["scheme"] (sp_u_law_text K) := by
  obtain ⟨fd, F⟩ := hd
  exact ⟨hm, fd, fk_u_law_text T  F, F.bindsN (fun _ _ _ _ _ _ us hl => match us, hl with | [_], _ => rfl), F.kp⟩
theorem ok_u_law_spaced (T : Txt K mg) (hd : ∃ fd, FunD K "_law_spaced" "_law_spaced" (defArgs s_u_law_spaced) (defBody s_u_law_spaced) (defScope s_u_law_spaced) [] [] (He.ga K "_law_spaced") fd) (hm : mg "_law_spaced" = some (.ref (He.ga K "_law_spaced")))  : Okd P w K mg base CX0 1 "_law_spaced" ["words", "pick"] (sp_u_law_spaced K) := by
  obtain ⟨fd, F⟩ := hd
  exact ⟨hm, fd, fk_u_law_spaced T  F, F.bindsN (fun _ _ _ _ _ _ us hl => match us, hl with | [_, _], _ => rfl), F.kp⟩
theorem ok_u_law_written (T : Txt K mg) (hd : ∃ fd, FunD K "_law_written" "_law_written" (defArgs s_u_law_written) (defBody s_u_law_written) (defScope s_u_law_written) [] [] (He.ga K "_law_written") fd) (hm : mg "_law_written" = some (.ref (He.ga K "_law_written"))) (O_u_law_spaced : Okd P w K mg base CX0 1 "_law_spaced" ["words", "pick"] (sp_u_law_spaced K)) : Okd P w K mg base CX0 2 "_law_written" ["scheme", "rooms", "pool", "begin"] (sp_u_law_written K) := by
  obtain ⟨fd, F⟩ := hd
  exact ⟨hm, fd, fk_u_law_written T O_u_law_spaced F, F.bindsN (fun _ _ _ _ _ _ us hl => match us, hl with | [_, _, _, _], _ => rfl), F.kp⟩
theorem ok_u_law_bare (T : Txt K mg) (hd : ∃ fd, FunD K "_law_bare" "_law_bare" (defArgs s_u_law_bare) (defBody s_u_law_bare) (defScope s_u_law_bare) [] [] (He.ga K "_law_bare") fd) (hm : mg "_law_bare" = some (.ref (He.ga K "_law_bare")))  : Okd P w K mg base CX0 1 "_law_bare" ["thing"] (sp_u_law_bare K) := by
  obtain ⟨fd, F⟩ := hd
  exact ⟨hm, fd, fk_u_law_bare T  F, F.bindsN (fun _ _ _ _ _ _ us hl => match us, hl with | [_], _ => rfl), F.kp⟩
theorem ok_u_law_rooms_word (T : Txt K mg) (hd : ∃ fd, FunD K "_law_rooms_word" "_law_rooms_word" (defArgs s_u_law_rooms_word) (defBody s_u_law_rooms_word) (defScope s_u_law_rooms_word) [] [] (He.ga K "_law_rooms_word") fd) (hm : mg "_law_rooms_word" = some (.ref (He.ga K "_law_rooms_word"))) (O_u_law_bare : Okd P w K mg base CX0 1 "_law_bare" ["thing"] (sp_u_law_bare K)) : Okd P w K mg base CX0 2 "_law_rooms_word" ["words", "rooms", "touched"] (sp_u_law_rooms_word K) := by
  obtain ⟨fd, F⟩ := hd
  exact ⟨hm, fd, fk_u_law_rooms_word T O_u_law_bare F, F.bindsN (fun _ _ _ _ _ _ us hl => match us, hl with | [_, _, _], _ => rfl), F.kp⟩
theorem ok_u_law_touch_word (T : Txt K mg) (hd : ∃ fd, FunD K "_law_touch_word" "_law_touch_word" (defArgs s_u_law_touch_word) (defBody s_u_law_touch_word) (defScope s_u_law_touch_word) [] [] (He.ga K "_law_touch_word") fd) (hm : mg "_law_touch_word" = some (.ref (He.ga K "_law_touch_word"))) (O_u_law_bare : Okd P w K mg base CX0 1 "_law_bare" ["thing"] (sp_u_law_bare K)) : Okd P w K mg base CX0 2 "_law_touch_word" ["words", "rooms"] (sp_u_law_touch_word K) := by
  obtain ⟨fd, F⟩ := hd
  exact ⟨hm, fd, fk_u_law_touch_word T O_u_law_bare F, F.bindsN (fun _ _ _ _ _ _ us hl => match us, hl with | [_, _], _ => rfl), F.kp⟩
theorem ok_u_law_read (T : Txt K mg) (hd : ∃ fd, FunD K "_law_read" "_law_read" (defArgs s_u_law_read) (defBody s_u_law_read) (defScope s_u_law_read) [] [] (He.ga K "_law_read") fd) (hm : mg "_law_read" = some (.ref (He.ga K "_law_read"))) (O_u_law_scheme : Okd P w K mg base CX0 1 "_law_scheme" ["rooms", "touches"] (sp_u_law_scheme K)) (O_u_law_rooms_word : Okd P w K mg base CX0 2 "_law_rooms_word" ["words", "rooms", "touched"] (sp_u_law_rooms_word K)) (O_u_law_touch_word : Okd P w K mg base CX0 2 "_law_touch_word" ["words", "rooms"] (sp_u_law_touch_word K)) : Okd P w K mg base CX0 3 "_law_read" ["text"] (sp_u_law_read K) := by
  obtain ⟨fd, F⟩ := hd
  exact ⟨hm, fd, fk_u_law_read T O_u_law_scheme O_u_law_rooms_word O_u_law_touch_word F, F.bindsN (fun _ _ _ _ _ _ us hl => match us, hl with | [_], _ => rfl), F.kp⟩
theorem ok_u_law_right (T : Txt K mg) (hd : ∃ fd, FunD K "_law_right" "_law_right" (defArgs s_u_law_right) (defBody s_u_law_right) (defScope s_u_law_right) [] [] (He.ga K "_law_right") fd) (hm : mg "_law_right" = some (.ref (He.ga K "_law_right"))) (O_u_law_read : Okd P w K mg base CX0 3 "_law_read" ["text"] (sp_u_law_read K)) (O_read_scheme : Okd P w K mg base (L2N.CX P w) 5 "read_scheme" ["text"] (sp_read_scheme K)) (O_u_law_same : Okd P w K mg base CX0 4 "_law_same" ["told", "due"] (sp_u_law_same K)) (X_BadText : ExOk P w K mg base 1 "BadText" ["line", "word"]) : Okd P w K mg base CX0 6 "_law_right" ["text"] (sp_u_law_right K) := by
  obtain ⟨fd, F⟩ := hd
  exact ⟨hm, fd, fk_u_law_right T O_u_law_read O_read_scheme O_u_law_same X_BadText F, F.bindsN (fun _ _ _ _ _ _ us hl => match us, hl with | [_], _ => rfl), F.kp⟩
theorem ok_u_law_wrong_lines (T : Txt K mg) (hd : ∃ fd, FunD K "_law_wrong_lines" "_law_wrong_lines" (defArgs s_u_law_wrong_lines) (defBody s_u_law_wrong_lines) (defScope s_u_law_wrong_lines) [] [] (He.ga K "_law_wrong_lines") fd) (hm : mg "_law_wrong_lines" = some (.ref (He.ga K "_law_wrong_lines")))  : Okd P w K mg base CX0 1 "_law_wrong_lines" ["rooms", "pick"] (sp_u_law_wrong_lines K) := by
  obtain ⟨fd, F⟩ := hd
  exact ⟨hm, fd, fk_u_law_wrong_lines T  F, F.bindsN (fun _ _ _ _ _ _ us hl => match us, hl with | [_, _], _ => rfl), F.kp⟩
theorem ok_u_law_wrong_heads (T : Txt K mg) (hd : ∃ fd, FunD K "_law_wrong_heads" "_law_wrong_heads" (defArgs s_u_law_wrong_heads) (defBody s_u_law_wrong_heads) (defScope s_u_law_wrong_heads) [] [] (He.ga K "_law_wrong_heads") fd) (hm : mg "_law_wrong_heads" = some (.ref (He.ga K "_law_wrong_heads")))  : Okd P w K mg base CX0 1 "_law_wrong_heads" ["rooms", "pick"] (sp_u_law_wrong_heads K) := by
  obtain ⟨fd, F⟩ := hd
  exact ⟨hm, fd, fk_u_law_wrong_heads T  F, F.bindsN (fun _ _ _ _ _ _ us hl => match us, hl with | [_, _], _ => rfl), F.kp⟩
theorem ok_u_law_put (T : Txt K mg) (hd : ∃ fd, FunD K "_law_put" "_law_put" (defArgs s_u_law_put) (defBody s_u_law_put) (defScope s_u_law_put) [] [] (He.ga K "_law_put") fd) (hm : mg "_law_put" = some (.ref (He.ga K "_law_put")))  : Okd P w K mg base CX0 1 "_law_put" ["lines", "at", "line"] (sp_u_law_put K) := by
  obtain ⟨fd, F⟩ := hd
  exact ⟨hm, fd, fk_u_law_put T  F, F.bindsN (fun _ _ _ _ _ _ us hl => match us, hl with | [_, _, _], _ => rfl), F.kp⟩
theorem ok_u_law_noted (T : Txt K mg) (hd : ∃ fd, FunD K "_law_noted" "_law_noted" (defArgs s_u_law_noted) (defBody s_u_law_noted) (defScope s_u_law_noted) [] [] (He.ga K "_law_noted") fd) (hm : mg "_law_noted" = some (.ref (He.ga K "_law_noted"))) (O_u_law_put : Okd P w K mg base CX0 1 "_law_put" ["lines", "at", "line"] (sp_u_law_put K)) : Okd P w K mg base CX0 2 "_law_noted" ["lines", "pool", "begin", "many"] (sp_u_law_noted K) := by
  obtain ⟨fd, F⟩ := hd
  exact ⟨hm, fd, fk_u_law_noted T O_u_law_put F, F.bindsN (fun _ _ _ _ _ _ us hl => match us, hl with | [_, _, _, _], _ => rfl), F.kp⟩
theorem ok_u_law_all_right (T : Txt K mg) (hd : ∃ fd, FunD K "_law_all_right" "_law_all_right" (defArgs s_u_law_all_right) (defBody s_u_law_all_right) (defScope s_u_law_all_right) [] [] (He.ga K "_law_all_right") fd) (hm : mg "_law_all_right" = some (.ref (He.ga K "_law_all_right"))) (O_u_law_wrong_lines : Okd P w K mg base CX0 1 "_law_wrong_lines" ["rooms", "pick"] (sp_u_law_wrong_lines K)) (O_u_law_wrong_heads : Okd P w K mg base CX0 1 "_law_wrong_heads" ["rooms", "pick"] (sp_u_law_wrong_heads K)) (O_u_law_right : Okd P w K mg base CX0 6 "_law_right" ["text"] (sp_u_law_right K)) (O_u_law_put : Okd P w K mg base CX0 1 "_law_put" ["lines", "at", "line"] (sp_u_law_put K)) : Okd P w K mg base CX0 7 "_law_all_right" ["rooms", "lines", "pool", "begin", "few"] (sp_u_law_all_right K) := by
  obtain ⟨fd, F⟩ := hd
  exact ⟨hm, fd, fk_u_law_all_right T O_u_law_wrong_lines O_u_law_wrong_heads O_u_law_right O_u_law_put F, F.bindsN (fun _ _ _ _ _ _ us hl => match us, hl with | [_, _, _, _, _], _ => rfl), F.kp⟩
end
set_option maxHeartbeats 0
theorem txt {K : PySem.W.Frag} {h : Heap} {mg : Str → Option Value} (X : K.In h) (G : h.Ns mainGlobals mg) (c : SaysB fa fn ex K) : Txt K mg where
  f_ValueError := He.free_ok X G (c.d.fact 40 (f := .free "ValueError") rfl)
  f_bool := He.free_ok X G (c.d.fact 41 (f := .free "bool") rfl)
  f_enumerate := He.free_ok X G (c.d.fact 42 (f := .free "enumerate") rfl)
  f_int := He.free_ok X G (c.d.fact 43 (f := .free "int") rfl)
  f_isinstance := He.free_ok X G (c.d.fact 44 (f := .free "isinstance") rfl)
  f_len := He.free_ok X G (c.d.fact 45 (f := .free "len") rfl)
  f_list := He.free_ok X G (c.d.fact 46 (f := .free "list") rfl)
  f_max := He.free_ok X G (c.d.fact 47 (f := .free "max") rfl)
  f_range := He.free_ok X G (c.d.fact 48 (f := .free "range") rfl)
  f_set := He.free_ok X G (c.d.fact 49 (f := .free "set") rfl)
  f_sorted := He.free_ok X G (c.d.fact 50 (f := .free "sorted") rfl)
  f_str := He.free_ok X G (c.d.fact 51 (f := .free "str") rfl)
  f_tuple := He.free_ok X G (c.d.fact 52 (f := .free "tuple") rfl)
  g_PlanError := He.glo_ok X G (c.d.fact 34 (f := .glo "PlanError") rfl)
  g_DataError := He.glo_ok X G (c.d.fact 35 (f := .glo "DataError") rfl)
  g_TextError := He.glo_ok X G (c.d.fact 36 (f := .glo "TextError") rfl)
  g_BadScheme := He.glo_ok X G (c.d.fact 37 (f := .glo "BadScheme") rfl)
  g_BadText := He.glo_ok X G (c.d.fact 38 (f := .glo "BadText") rfl)
  g_BadCommand := He.glo_ok X G (c.d.fact 39 (f := .glo "BadCommand") rfl)
  c_NAME_MOST := He.int_ok X G (c.d.fact 53 (f := .int "NAME_MOST" (8)) rfl)
  c_ROOMS_MOST := He.int_ok X G (c.d.fact 54 (f := .int "ROOMS_MOST" (40)) rfl)
  g_SIDES := He.glo_ok X G (c.d.fact 55 (f := .glo "SIDES") rfl)
  t_SIDES := He.tupB_ok (allB c.more 0 rfl)
  c_LETTERS := He.str_ok X G (c.d.fact 56 (f := .str "LETTERS" "abcdefghijklmnopqrstuvwxyz") rfl)
  c_FIGURES := He.str_ok X G (c.d.fact 57 (f := .str "FIGURES" "0123456789") rfl)
  n_BadScheme_at := He.noat_ok (c.d.fact 58 (f := .noat "BadScheme" "at") rfl)
  n_BadScheme_word := He.noat_ok (c.d.fact 59 (f := .noat "BadScheme" "word") rfl)
  n_BadText_line := He.noat_ok (c.d.fact 60 (f := .noat "BadText" "line") rfl)
  n_BadText_word := He.noat_ok (c.d.fact 61 (f := .noat "BadText" "word") rfl)
  n_BadCommand_line := He.noat_ok (c.d.fact 62 (f := .noat "BadCommand" "line") rfl)
  x_PlanError := exB_ok (allB c.more 1 rfl)
  x_DataError := exB_ok (allB c.more 2 rfl)
  x_TextError := exB_ok (allB c.more 3 rfl)
  x_BadScheme := exB_ok (allB c.more 4 rfl)
  x_BadText := exB_ok (allB c.more 5 rfl)
  x_BadCommand := exB_ok (allB c.more 6 rfl)
  i_BadScheme := exI_ok (allB c.more 7 rfl)
  i_BadText := exI_ok (allB c.more 8 rfl)
  i_BadCommand := exI_ok (allB c.more 9 rfl)
  k_BadText_BadText := kitR_ok (allB c.more 10 rfl)
  k_BadText_TextError := kitR_ok (allB c.more 11 rfl)
  k_BadText_ValueError := kitT_ok (allB c.more 12 rfl)
  k_BadText_DataError := kitR_ok (allB c.more 13 rfl)
  k_BadText_BadScheme := kitR_ok (allB c.more 14 rfl)
  k_BadText_BadCommand := kitR_ok (allB c.more 15 rfl)
  e_BadText_PlanError := He.exm_ok (c.d.fact 63 (f := .exm "BadText" "PlanError" true) rfl)
theorem oi_BadScheme {P : Program} {w : World} {K : PySem.W.Frag} {mg : Str → Option Value} {base : Heap} (T : Txt K mg) (F : ∃ fd, FunD K "__init__" "BadScheme.__init__" (defArgs s_i_BadScheme) (defBody s_i_BadScheme) (defScope s_i_BadScheme) [] [] (He.ma K (He.ga K "BadScheme") "__init__") fd) : ExOk P w K mg base 1 "BadScheme" ["at", "word"] := by
  obtain ⟨fd, F⟩ := F
  exact ⟨T.g_BadScheme, T.x_BadScheme, T.i_BadScheme, fd, fn_init2 F sc_i_BadScheme rfl T.x_BadScheme.oex T.n_BadScheme_at T.n_BadScheme_word (fun _ _ _ _ _ _ => pss_cons (ps_ost (pv 0) (pv 1)) (pss_one (ps_ost (pv 0) (pv 2)))), F.bindsN (fun _ _ _ _ _ _ us hl => match us, hl with | [_, _, _], _ => rfl)⟩
theorem oi_BadText {P : Program} {w : World} {K : PySem.W.Frag} {mg : Str → Option Value} {base : Heap} (T : Txt K mg) (F : ∃ fd, FunD K "__init__" "BadText.__init__" (defArgs s_i_BadText) (defBody s_i_BadText) (defScope s_i_BadText) [] [] (He.ma K (He.ga K "BadText") "__init__") fd) : ExOk P w K mg base 1 "BadText" ["line", "word"] := by
  obtain ⟨fd, F⟩ := F
  exact ⟨T.g_BadText, T.x_BadText, T.i_BadText, fd, fn_init2 F sc_i_BadText rfl T.x_BadText.oex T.n_BadText_line T.n_BadText_word (fun _ _ _ _ _ _ => pss_cons (ps_ost (pv 0) (pv 1)) (pss_one (ps_ost (pv 0) (pv 2)))), F.bindsN (fun _ _ _ _ _ _ us hl => match us, hl with | [_, _, _], _ => rfl)⟩
theorem oi_BadCommand {P : Program} {w : World} {K : PySem.W.Frag} {mg : Str → Option Value} {base : Heap} (T : Txt K mg) (F : ∃ fd, FunD K "__init__" "BadCommand.__init__" (defArgs s_i_BadCommand) (defBody s_i_BadCommand) (defScope s_i_BadCommand) [] [] (He.ma K (He.ga K "BadCommand") "__init__") fd) : ExOk P w K mg base 1 "BadCommand" ["line"] := by
  obtain ⟨fd, F⟩ := F
  exact ⟨T.g_BadCommand, T.x_BadCommand, T.i_BadCommand, fd, fn_init1 F sc_i_BadCommand rfl T.x_BadCommand.oex T.n_BadCommand_line (fun _ _ _ _ _ _ => pss_one (ps_ost (pv 0) (pv 1))), F.bindsN (fun _ _ _ _ _ _ us hl => match us, hl with | [_, _], _ => rfl)⟩
theorem facts {P : Program} {w : World} {K : PySem.W.Frag} {h : Heap} {mg : Str → Option Value} (X : K.In h) (G : h.Ns mainGlobals mg) (c : SaysB fa fn ex K) {fd : FuncData} (F : FunD K "law" "law" (defArgs s_law) (defBody s_law) (defScope s_law) [] [] (He.ga K "law") fd) (base : Heap) : FnOk P w K mg base CX0 8 (He.ga K "law") fd ["script"] (sp_law K) := by
  have T := txt X G c
  have X_BadScheme : ExOk P w K mg base 1 "BadScheme" ["at", "word"] := oi_BadScheme T (c.d.def_ 34 (d := d_i_BadScheme) rfl)
  have X_BadText : ExOk P w K mg base 1 "BadText" ["line", "word"] := oi_BadText T (c.d.def_ 35 (d := d_i_BadText) rfl)
  have X_BadCommand : ExOk P w K mg base 1 "BadCommand" ["line"] := oi_BadCommand T (c.d.def_ 36 (d := d_i_BadCommand) rfl)
  have O_is_side := ok_is_side (P := P) (w := w) (base := base) T (c.d.def_ 0 (d := d_is_side) rfl) (He.glo_ok X G (c.d.fact 0 (f := .glo "is_side") rfl)) 
  have O_name_fault := ok_name_fault (P := P) (w := w) (base := base) T (c.d.def_ 1 (d := d_name_fault) rfl) (He.glo_ok X G (c.d.fact 1 (f := .glo "name_fault") rfl)) 
  have O_is_name := ok_is_name (P := P) (w := w) (base := base) T (c.d.def_ 2 (d := d_is_name) rfl) (He.glo_ok X G (c.d.fact 2 (f := .glo "is_name") rfl)) ‹_›
  have O_ordered_pair := ok_ordered_pair (P := P) (w := w) (base := base) T (c.d.def_ 3 (d := d_ordered_pair) rfl) (He.glo_ok X G (c.d.fact 3 (f := .glo "ordered_pair") rfl)) 
  have O_make_scheme := ok_make_scheme (P := P) (w := w) (base := base) T (c.d.def_ 4 (d := d_make_scheme) rfl) (He.glo_ok X G (c.d.fact 4 (f := .glo "make_scheme") rfl)) ‹_›
  have O_text_lines := ok_text_lines (P := P) (w := w) (base := base) T (c.d.def_ 5 (d := d_text_lines) rfl) (He.glo_ok X G (c.d.fact 5 (f := .glo "text_lines") rfl)) 
  have O_words_of := ok_words_of (P := P) (w := w) (base := base) T (c.d.def_ 6 (d := d_words_of) rfl) (He.glo_ok X G (c.d.fact 6 (f := .glo "words_of") rfl)) 
  have O_passed_over := ok_passed_over (P := P) (w := w) (base := base) T (c.d.def_ 7 (d := d_passed_over) rfl) (He.glo_ok X G (c.d.fact 7 (f := .glo "passed_over") rfl)) ‹_›
  have O_told_lines := ok_told_lines (P := P) (w := w) (base := base) T (c.d.def_ 8 (d := d_told_lines) rfl) (He.glo_ok X G (c.d.fact 8 (f := .glo "told_lines") rfl)) ‹_› ‹_› ‹_›
  have O_line_behind := ok_line_behind (P := P) (w := w) (base := base) T (c.d.def_ 9 (d := d_line_behind) rfl) (He.glo_ok X G (c.d.fact 9 (f := .glo "line_behind") rfl)) ‹_›
  have O_scheme_touch_fault := ok_scheme_touch_fault (P := P) (w := w) (base := base) T (c.d.def_ 10 (d := d_scheme_touch_fault) rfl) (He.glo_ok X G (c.d.fact 10 (f := .glo "scheme_touch_fault") rfl)) ‹_› ‹_›
  have O_scheme_rooms_fault := ok_scheme_rooms_fault (P := P) (w := w) (base := base) T (c.d.def_ 11 (d := d_scheme_rooms_fault) rfl) (He.glo_ok X G (c.d.fact 11 (f := .glo "scheme_rooms_fault") rfl)) ‹_›
  have O_scheme_line_fault := ok_scheme_line_fault (P := P) (w := w) (base := base) T (c.d.def_ 12 (d := d_scheme_line_fault) rfl) (He.glo_ok X G (c.d.fact 12 (f := .glo "scheme_line_fault") rfl)) ‹_› ‹_›
  have O_read_scheme := ok_read_scheme (P := P) (w := w) (base := base) T (c.d.def_ 13 (d := d_read_scheme) rfl) (He.glo_ok X G (c.d.fact 13 (f := .glo "read_scheme") rfl)) ‹_› ‹_› ‹_› ‹_› ‹_›
  have O_scheme_text := ok_scheme_text (P := P) (w := w) (base := base) T (c.d.def_ 14 (d := d_scheme_text) rfl) (He.glo_ok X G (c.d.fact 14 (f := .glo "scheme_text") rfl)) 
  have O_u_law_pool := ok_u_law_pool (P := P) (w := w) (base := base) T (c.d.def_ 15 (d := d_u_law_pool) rfl) (He.glo_ok X G (c.d.fact 15 (f := .glo "_law_pool") rfl)) 
  have O_u_law_names := ok_u_law_names (P := P) (w := w) (base := base) T (c.d.def_ 16 (d := d_u_law_names) rfl) (He.glo_ok X G (c.d.fact 16 (f := .glo "_law_names") rfl)) 
  have O_u_law_scheme := ok_u_law_scheme (P := P) (w := w) (base := base) T (c.d.def_ 17 (d := d_u_law_scheme) rfl) (He.glo_ok X G (c.d.fact 17 (f := .glo "_law_scheme") rfl)) 
  have O_u_law_drawn := ok_u_law_drawn (P := P) (w := w) (base := base) T (c.d.def_ 18 (d := d_u_law_drawn) rfl) (He.glo_ok X G (c.d.fact 18 (f := .glo "_law_drawn") rfl)) ‹_›
  have O_u_law_text := ok_u_law_text (P := P) (w := w) (base := base) T (c.d.def_ 19 (d := d_u_law_text) rfl) (He.glo_ok X G (c.d.fact 19 (f := .glo "_law_text") rfl)) 
  have O_u_law_spaced := ok_u_law_spaced (P := P) (w := w) (base := base) T (c.d.def_ 20 (d := d_u_law_spaced) rfl) (He.glo_ok X G (c.d.fact 20 (f := .glo "_law_spaced") rfl)) 
  have O_u_law_written := ok_u_law_written (P := P) (w := w) (base := base) T (c.d.def_ 21 (d := d_u_law_written) rfl) (He.glo_ok X G (c.d.fact 21 (f := .glo "_law_written") rfl)) ‹_›
  have O_u_law_bare := ok_u_law_bare (P := P) (w := w) (base := base) T (c.d.def_ 22 (d := d_u_law_bare) rfl) (He.glo_ok X G (c.d.fact 22 (f := .glo "_law_bare") rfl)) 
  have O_u_law_rooms_word := ok_u_law_rooms_word (P := P) (w := w) (base := base) T (c.d.def_ 23 (d := d_u_law_rooms_word) rfl) (He.glo_ok X G (c.d.fact 23 (f := .glo "_law_rooms_word") rfl)) ‹_›
  have O_u_law_touch_word := ok_u_law_touch_word (P := P) (w := w) (base := base) T (c.d.def_ 24 (d := d_u_law_touch_word) rfl) (He.glo_ok X G (c.d.fact 24 (f := .glo "_law_touch_word") rfl)) ‹_›
  have O_u_law_read := ok_u_law_read (P := P) (w := w) (base := base) T (c.d.def_ 25 (d := d_u_law_read) rfl) (He.glo_ok X G (c.d.fact 25 (f := .glo "_law_read") rfl)) ‹_› ‹_› ‹_›
  have O_u_law_same := ok_u_law_same (P := P) (w := w) (base := base) T (c.d.def_ 26 (d := d_u_law_same) rfl) (He.glo_ok X G (c.d.fact 26 (f := .glo "_law_same") rfl)) 
  have O_u_law_right := ok_u_law_right (P := P) (w := w) (base := base) T (c.d.def_ 27 (d := d_u_law_right) rfl) (He.glo_ok X G (c.d.fact 27 (f := .glo "_law_right") rfl)) ‹_› ‹_› ‹_› ‹_›
  have O_u_law_wrong_lines := ok_u_law_wrong_lines (P := P) (w := w) (base := base) T (c.d.def_ 28 (d := d_u_law_wrong_lines) rfl) (He.glo_ok X G (c.d.fact 28 (f := .glo "_law_wrong_lines") rfl)) 
  have O_u_law_wrong_heads := ok_u_law_wrong_heads (P := P) (w := w) (base := base) T (c.d.def_ 29 (d := d_u_law_wrong_heads) rfl) (He.glo_ok X G (c.d.fact 29 (f := .glo "_law_wrong_heads") rfl)) 
  have O_u_law_put := ok_u_law_put (P := P) (w := w) (base := base) T (c.d.def_ 30 (d := d_u_law_put) rfl) (He.glo_ok X G (c.d.fact 30 (f := .glo "_law_put") rfl)) 
  have O_u_law_noted := ok_u_law_noted (P := P) (w := w) (base := base) T (c.d.def_ 31 (d := d_u_law_noted) rfl) (He.glo_ok X G (c.d.fact 31 (f := .glo "_law_noted") rfl)) ‹_›
  have O_u_law_all_right := ok_u_law_all_right (P := P) (w := w) (base := base) T (c.d.def_ 32 (d := d_u_law_all_right) rfl) (He.glo_ok X G (c.d.fact 32 (f := .glo "_law_all_right") rfl)) ‹_› ‹_› ‹_› ‹_›
  exact ok_law T F ‹_› ‹_› ‹_› ‹_› ‹_› ‹_› ‹_› ‹_› ‹_› ‹_› ‹_›
theorem fin {P : Program} {w : World} {K : PySem.W.Frag} {h : Heap} {mg : Str → Option Value} {f : Addr} (X : K.In h) (G : h.Ns mainGlobals mg) (c : SaysB fa fn ex K) (hm : mg ("law" : Str) = some (.ref f)) :
    ∃ (K : PySem.W.Frag) (fd : FuncData) (sp : Sp), K.In h ∧ (∀ (s : Shared) (u : Value), BindsTo s fd ⟨[u], []⟩ [(("script" : Str), u)]) ∧
      (∀ (H : Hp) (a : Addr) (ns : List Int), ns.length ≤ 63 → Only H → SqL K H a (ns.map V.int) → sp [.ref a] H (fun v _ => v = .bl true) fun _ _ _ => False) ∧
      ∀ base : Heap, K.In base → base.Ns mainGlobals mg → FnOk P w K mg base CX0 8 f fd ["script"] sp := by
  obtain ⟨fd, F⟩ := c.d.def_ 33 (d := d_law) rfl
  have e := hm.symm.trans (He.glo_ok X G (c.d.fact 33 (f := .glo "law") rfl))
  cases e
  have b := FunD.bindsA (ps := ["script"]) F fun _ _ _ _ _ _ us hl => match us, hl with | [_], _ => rfl
  refine ⟨K, fd, sp_law K, X, fun s v => b s [v] rfl, fun H a ns hl hO hS => ?_, fun base hK hG => facts X G c F base⟩
  exact ⟨H, _, _, GH.only hO, .cons (.scr hS) .nil, ⟨ns, rfl, hl, rfl⟩, fun v G' H' _ hv => by cases hv; rfl⟩
end K05
open PySem PySem.W PySem.Calls PyProof.Rows
theorem PySem.Challenge.cw_wallsaswished_k05_schemes_as_texts_holds : PySem.Challenge.rw_wallsaswished_k05_schemes_as_texts.Holds := by
  w_on
  o_law
  refine HandSHeadRun.head_any (r := K05.R) (q := view (OpenLaw.row PySem.Challenge.rw_wallsaswished_k05_schemes_as_texts).prog [51])
    (H := K05.hk) (ob := K05.ob) (M := 6000) (loose := K05.loose)
    (d := HandSHeadRun.topDef (OpenLaw.row PySem.Challenge.rw_wallsaswished_k05_schemes_as_texts).prog 51) (kwd := []) K05.ob_eq
    (by kernel_rfl) (fun s => by kernel_rfl) K05.run
    (by kernel_rfl) (by kernel_rfl) (by kernel_rfl) (by rfl) (by first | assumption | decide +kernel)
    (by decide +kernel) ⟨rfl, rfl, rfl, rfl, rfl, by decide +kernel⟩ ?hw ?hc
  case hw => w_witness2
  case hc =>
    refine L2.walk_ofE (l := PySem.Challenge.rw_wallsaswished_k05_schemes_as_texts) (n := 63) (k := 8) (x := "script") (CX := L2.CX0)
      rfl (by decide) (by kernel_rfl) ⟨rfl, by decide, by decide⟩ ?F (fun _ _ _ _ z => z)
    intro w mg fa h Y G hmg0
    obtain ⟨K, KX, c⟩ := Y
    have hn : (HandSHeadRun.topDef (OpenLaw.row PySem.Challenge.rw_wallsaswished_k05_schemes_as_texts).prog 51).name = ("law" : PySem.Str) := by kernel_rfl
    rw [hn] at hmg0
    exact K05.fin KX G c hmg0
