import PyProof.Rows.All
import Wide.All
import OpenK.AllK
import Wide.FinOn
import PySem.Challenge.RW_wallsaswished_k04_renamed_turned_mirrore
import HandS.Base
import HandS.Call
import HandS.List
import HandS.Comp
import HandS.Dict
import HandS.Iter
import HandS.Walk
import HandS.Words
import HandS.Text
import HandS.TupAny
import HandS.Style
import HandS.IsInst
import HandS.More
import HandS.Flow
import HandS.Replace
import PyProof.StrOps2
import KE.GoesMore
import KE.GoesEnum
import HandS.Defaults
import HandS.Exc
import HandS.ExcOwn
import HandS.ExcInit
import HandS.ExcIs
import HandS.ExcField
import HandS.WordsExc
import KE.KStateDown
import HandS.Head0
import HandS.Head1
import HandS.Head2
import HandS.HeadEnd
import HandS.HeadHook1
import HandS.HeadHook2
import HandS.EndBits
import HandS.DictComp
import HandS.Conv
import KE.KSortTupAny
import HandS.SortOrd
import HandS.TupLe
import PyProof.FString5
import HandS.Zip
import KE.KDictWalk
import HandS.ExcInitHot
import HandS.TupSets
import HandS.SetBool
import HandS.SetTxt0
import HandS.SetFor
import PyProof.Rows.SortShellAny
import KE.KDictList
set_option Elab.async false
set_option linter.all false
set_option maxRecDepth 100000
/-! DL1: data as values of the abstract heap: Dq, the frozen part G of a heap H, what a step may do (Ext), slots (En). -/
namespace DL
open PySem L2

abbrev D := PyData
def kD : Key → D
  | .inl i => .int i
  | .inr x => .str x

mutual
inductive Dq (K : PySem.W.Frag) (G : Hp) : V → D → Prop
  | non : Dq K G .non .none
  | bl (b : Bool) : Dq K G (.bl b) (.bool b)
  | int (i : Int) : Dq K G (.int i) (.int i)
  | str (x : Str) : Dq K G (.str x) (.str x)
  | lst {a : Addr} {xs : List V} {ds : List D} : G a = some (.lst xs) → DqA K G xs ds → Dq K G (.ref a) (.list ds)
  /-- the script: read alone -/
  | scr {a : Addr} {ns : List Int} : SqL K G a (ns.map V.int) → Dq K G (.ref a) (.dict [(.none, .list (ns.map PyData.int))])
  | tup {a : Addr} {xs : List V} {ds : List D} : SqT K G a xs → DqA K G xs ds → Dq K G (.ref a) (.tuple ds)
  | dK {a : Addr} {es : List (Key × V)} {kvs : List (D × D)} : Rd G a (.dK es) → DqK K G es kvs → Dq K G (.ref a) (.dict kvs)
  | dT {a : Addr} {es : List (List Key × V)} {kvs : List (D × D)} : Rd G a (.dT es) → DqT K G es kvs → Dq K G (.ref a) (.dict ((.none, .none) :: kvs))
  /-- a list [int, list of ints, int, int] that defs change; a list of ints that defs change: nobody tells what is in it -/
  | sta {l r : Addr} : G l = some (.own r) → G r = some (.rng 0 0) → Dq K G (.ref l) (.dict [(.bool true, .none)])
  | opq {a : Addr} {lo : Int} : G a = some (.rng lo 1) → Dq K G (.ref a) (.dict [(.bool false, .int ((a : Nat) : Int))])
  /-- an address, nothing is told of what stands there -/
  | raw (a : Addr) : Dq K G (.ref a) (.dict [(.bool true, .int ((a : Nat) : Int))])
inductive DqA (K : PySem.W.Frag) (G : Hp) : List V → List D → Prop
  | nil : DqA K G [] []
  | cons {v : V} {vs : List V} {d : D} {ds : List D} : Dq K G v d → DqA K G vs ds → DqA K G (v :: vs) (d :: ds)
inductive DqK (K : PySem.W.Frag) (G : Hp) : List (Key × V) → List (D × D) → Prop
  | nil : DqK K G [] []
  | cons {k : Key} {v : V} {es : List (Key × V)} {d : D} {kvs : List (D × D)} : Dq K G v d → DqK K G es kvs → DqK K G ((k, v) :: es) ((kD k, d) :: kvs)
inductive DqT (K : PySem.W.Frag) (G : Hp) : List (List Key × V) → List (D × D) → Prop
  | nil : DqT K G [] []
  | cons {k : List Key} {v : V} {es : List (List Key × V)} {d : D} {kvs : List (D × D)} : Dq K G v d → DqT K G es kvs → DqT K G ((k, v) :: es) ((.tuple (k.map kD), d) :: kvs)
end

/-- what stands in G stands in H (a dict may be locked there) -/
def isDic : HO → Bool
  | .dK _ => true
  | .dT _ => true
  | _ => false
/-- a list of ints, of which those from the place lo on are unlike and within 0 .. 10000 -/
def okL (lo : Int) (ns : List Int) : Prop := 0 ≤ lo ∧ lo ≤ 5000000 ∧ (ns.drop lo.toNat).Nodup ∧ ∀ n ∈ ns.drop lo.toNat, 0 ≤ n ∧ n ≤ 10000
/-- what a mark in the frozen part says of the heap -/
def stH (u : HO) (H : Hp) (a : Addr) : Prop := match u with
  | .own r => ∃ x y z : Int, H a = some (.lst [.int x, .ref r, .int y, .int z])
  | .rng lo hi => ∃ ns : List Int, H a = some (.lst (ns.map V.int)) ∧ (hi = 1 → okL lo ns)
  | _ => False
def isMk : HO → Bool
  | .own _ => true
  | .rng _ _ => true
  | _ => false
theorem stH.mk {u : HO} {H : Hp} {a : Addr} (h : stH u H a) : isMk u = true ∧ ∃ xs, H a = some (.lst xs) := by
  unfold stH at h
  split at h
  · obtain ⟨x, y, z, h⟩ := h
    exact ⟨rfl, _, h⟩
  · obtain ⟨ns, h, _⟩ := h
    exact ⟨rfl, _, h⟩
  · exact h.elim
theorem stH.eq {u : HO} {H H' : Hp} {a b : Addr} (e : H' b = H a) (h : stH u H a) : stH u H' b := by
  unfold stH at h ⊢
  split at h
  · obtain ⟨x, y, z, h⟩ := h
    exact ⟨x, y, z, e.trans h⟩
  · obtain ⟨ns, h, k⟩ := h
    exact ⟨ns, e.trans h, k⟩
  · exact h.elim
def GHat (u : HO) (H : Hp) (a : Addr) : Prop := (H a = some u ∧ isMk u = false) ∨ (isDic u = true ∧ ∃ o, H a = some (.frz o u)) ∨ stH u H a
theorem GHat.eq {u : HO} {H H' : Hp} {a : Addr} (h : GHat u H a) (e : H' a = H a) : GHat u H' a := by
  rcases h with h | ⟨d, o, h⟩ | h
  · exact .inl ⟨e.trans h.1, h.2⟩
  · exact .inr (.inl ⟨d, o, e.trans h⟩)
  · exact .inr (.inr (h.eq e))
def GH (G H : Hp) : Prop := ∀ a u, G a = some u → GHat u H a
theorem GHat.of {u : HO} {H : Hp} {a : Addr} (h : H a = some u) (nm : isMk u = false := by rfl) : GHat u H a := .inl ⟨h, nm⟩
theorem GH.refl {H : Hp} (nm : ∀ a u, H a = some u → isMk u = false) : GH H H := fun a u h => .of h (nm a u h)
/-- the frozen part grows -/
def Sub (A B : Hp) : Prop := ∀ a u, A a = some u → B a = some u
theorem Sub.of {A B : Hp} (x : ∀ a o, A a = some o → B a = some o) : Sub A B := x
theorem Sub.refl (A : Hp) : Sub A A := fun _ _ h => h
theorem Sub.trans {A B C : Hp} (x : Sub A B) (y : Sub B C) : Sub A C := fun a u h => y a u (x a u h)
theorem Sub.rd {A B : Hp} (x : Sub A B) {a : Addr} {u : HO} (h : Rd A a u) : Rd B a u := by
  rcases h with h | ⟨o, h⟩
  · exact .inl (x a u h)
  · exact .inr ⟨o, x a _ h⟩
theorem Sub.l {K : PySem.W.Frag} {A B : Hp} {a : Addr} {xs : List V} (x : Sub A B) (h : SqL K A a xs) : SqL K B a xs := by
  rcases h with h | h
  · exact .inl (x.rd h)
  · exact .inr h
theorem Sub.t {K : PySem.W.Frag} {A B : Hp} {a : Addr} {xs : List V} (x : Sub A B) (h : SqT K A a xs) : SqT K B a xs := by
  rcases h with h | h
  · exact .inl (x.rd h)
  · exact .inr h
theorem Sub.gh {A B C : Hp} (x : Sub A B) (y : GH B C) : GH A C := fun a u h => y a u (x a u h)
theorem GH.rd {A B : Hp} (x : GH A B) {a : Addr} {u : HO} (h : Rd A a u) (nm : isMk u = false := by rfl) : Rd B a u := by
  rcases h with h | ⟨o, h⟩
  · rcases x a u h with h | ⟨_, o, h⟩ | h
    · exact .inl h.1
    · exact .inr ⟨o, h⟩
    · rw [h.mk.1] at nm
      cases nm
  · rcases x a _ h with h | ⟨d, _⟩ | h
    · exact .inr ⟨o, h.1⟩
    · cases d
    · cases h.mk.1
theorem GH.lst {A B : Hp} (x : GH A B) {a : Addr} {xs : List V} (h : A a = some (.lst xs)) : B a = some (.lst xs) := by
  rcases x a _ h with h | ⟨d, _⟩ | h
  · exact h.1
  · cases d
  · cases h.mk.1
theorem GH.l {K : PySem.W.Frag} {A B : Hp} {a : Addr} {xs : List V} (x : GH A B) (h : SqL K A a xs) : SqL K B a xs := by
  rcases h with h | h
  · exact .inl (x.rd h)
  · exact .inr h
theorem GH.t {K : PySem.W.Frag} {A B : Hp} {a : Addr} {xs : List V} (x : GH A B) (h : SqT K A a xs) : SqT K B a xs := by
  rcases h with h | h
  · exact .inl (x.rd h)
  · exact .inr h
theorem GH.none {A B : Hp} {a : Addr} (x : GH A B) (h : B a = none) : A a = none := by
  cases e : A a with
  | none => rfl
  | some o =>
    rcases x a o e with ⟨q, _⟩ | ⟨_, _, q⟩ | q
    · rw [h] at q; cases q
    · rw [h] at q; cases q
    · obtain ⟨_, xs, q⟩ := q.mk
      rw [h] at q; cases q

mutual
theorem Dq.mono {K : PySem.W.Frag} {A B : Hp} (x : Sub A B) : ∀ {v : V} {d : D}, Dq K A v d → Dq K B v d
  | _, _, .non => .non
  | _, _, .bl b => .bl b
  | _, _, .int i => .int i
  | _, _, .str z => .str z
  | _, _, .lst h t => .lst (x _ _ h) (DqA.mono x t)
  | _, _, .scr h => .scr (x.l h)
  | _, _, .tup h t => .tup (x.t h) (DqA.mono x t)
  | _, _, .dK h t => .dK (x.rd h) (DqK.mono x t)
  | _, _, .dT h t => .dT (x.rd h) (DqT.mono x t)
  | _, _, .sta h t => .sta (x _ _ h) (x _ _ t)
  | _, _, .opq h => .opq (x _ _ h)
  | _, _, .raw a => .raw a
theorem DqA.mono {K : PySem.W.Frag} {A B : Hp} (x : Sub A B) : ∀ {vs : List V} {ds : List D}, DqA K A vs ds → DqA K B vs ds
  | _, _, .nil => .nil
  | _, _, .cons h t => .cons (Dq.mono x h) (DqA.mono x t)
theorem DqK.mono {K : PySem.W.Frag} {A B : Hp} (x : Sub A B) : ∀ {vs : List (Key × V)} {ds : List (D × D)}, DqK K A vs ds → DqK K B vs ds
  | _, _, .nil => .nil
  | _, _, .cons h t => .cons (Dq.mono x h) (DqK.mono x t)
theorem DqT.mono {K : PySem.W.Frag} {A B : Hp} (x : Sub A B) : ∀ {vs : List (List Key × V)} {ds : List (D × D)}, DqT K A vs ds → DqT K B vs ds
  | _, _, .nil => .nil
  | _, _, .cons h t => .cons (Dq.mono x h) (DqT.mono x t)
end

section
variable {K : PySem.W.Frag} {G : Hp}
theorem DqA.length : ∀ {ds : List D} {vs : List V}, DqA K G vs ds → vs.length = ds.length
  | [], _, h => by cases h; rfl
  | _ :: ds, _, h => by
    cases h with
    | cons _ t => exact congrArg Nat.succ (DqA.length t)
theorem DqA.get : ∀ {ds : List D} {vs : List V} {i : Nat} {d : D}, DqA K G vs ds → ds[i]? = some d → ∃ v, vs[i]? = some v ∧ Dq K G v d
  | [], _, _, _, _, e => by simp at e
  | _ :: ds, _, i, d, h, e => by
    cases h with
    | cons x t =>
      cases i with
      | zero => simp at e; subst e; exact ⟨_, rfl, x⟩
      | succ i =>
        obtain ⟨v, h1, h2⟩ := DqA.get (i := i) (d := d) t (by simpa using e)
        exact ⟨v, by simpa using h1, h2⟩
theorem DqA.got {ds : List D} {vs : List V} {i : Nat} {v : V} (h : DqA K G vs ds) (e : vs[i]? = some v) : ∃ d, ds[i]? = some d ∧ Dq K G v d := by
  have hl := h.length
  have hi : i < vs.length := (List.getElem?_eq_some_iff.mp e).1
  obtain ⟨u, h1, h2⟩ := h.get (i := i) (d := ds[i]'(by omega)) (by simp [show i < ds.length by omega])
  rw [e] at h1
  cases h1
  exact ⟨_, by simp [show i < ds.length by omega], h2⟩
theorem DqA.append : ∀ {ds es : List D} {vs us : List V}, DqA K G vs ds → DqA K G us es → DqA K G (vs ++ us) (ds ++ es)
  | [], _, _, _, h, t => by cases h; exact t
  | _ :: ds, _, _, _, h, t => by
    cases h with
    | cons x r => exact .cons x (DqA.append r t)
theorem DqA.take : ∀ {ds : List D} {vs : List V} (n : Nat), DqA K G vs ds → DqA K G (vs.take n) (ds.take n)
  | [], _, n, h => by cases h; simpa using DqA.nil
  | _ :: ds, _, 0, h => by simpa using DqA.nil
  | _ :: ds, _, n + 1, h => by
    cases h with
    | cons x r => exact .cons x (DqA.take n r)
theorem DqA.drop : ∀ {ds : List D} {vs : List V} (n : Nat), DqA K G vs ds → DqA K G (vs.drop n) (ds.drop n)
  | [], _, n, h => by cases h; simpa using DqA.nil
  | _ :: ds, _, 0, h => h
  | _ :: ds, _, n + 1, h => by
    cases h with
    | cons x r => exact DqA.drop n r
theorem DqA.set : ∀ {ds : List D} {vs : List V} (i : Nat) {v : V} {d : D}, DqA K G vs ds → Dq K G v d → DqA K G (vs.set i v) (ds.set i d)
  | [], _, i, _, _, h, _ => by cases h; simpa using DqA.nil
  | _ :: ds, _, 0, _, _, h, x => by
    cases h with
    | cons _ r => exact .cons x r
  | _ :: ds, _, i + 1, _, _, h, x => by
    cases h with
    | cons y r => exact .cons y (DqA.set i r x)
theorem DqA.one {v : V} {d : D} (h : Dq K G v d) : DqA K G [v] [d] := .cons h .nil
theorem DqA.rev : ∀ {ds : List D} {vs : List V}, DqA K G vs ds → DqA K G vs.reverse ds.reverse
  | [], _, h => by cases h; exact .nil
  | _ :: ds, _, h => by
    cases h with
    | cons x r =>
      rw [List.reverse_cons, List.reverse_cons]
      exact (DqA.rev r).append (.one x)
end

def noTup : HO → Bool
  | .tup _ => false
  | _ => true
/-- a is one of the lists that defs change -/
def mkd (G : Hp) (a : Addr) : Prop := ∃ u, G a = some u ∧ isMk u = true
/-- from (G, H) to (G', H'): nothing that stood was changed, but what is marked; what was owned stays out of the frozen part -/
structure Ext (G H G' H' : Hp) : Prop where
  gg : ∀ a o, G a = some o → G' a = some o
  hh : ∀ a o, H a = some o → H' a = some o ∨ mkd G a
  gh : GH G' H'
  own : ∀ a o, H a = some o → noTup o = true → G a = none → G' a = none
theorem Ext.refl {G H : Hp} (g : GH G H) : Ext G H G H := ⟨fun _ _ h => h, fun _ _ h => .inl h, g, fun _ _ _ _ h => h⟩
theorem Ext.at {G H G' H' : Hp} (x : Ext G H G' H') {a : Addr} {o : HO} (hG : G a = none) (h : H a = some o) : H' a = some o := by
  rcases x.hh a o h with h | ⟨u, h, _⟩
  · exact h
  · rw [hG] at h
    cases h
/-- a thing of the frozen part that is no mark -/
theorem Ext.atF {G H G' H' : Hp} (x : Ext G H G' H') {a : Addr} {o u : HO} (hG : G a = some u) (hm : isMk u = false) (h : H a = some o) : H' a = some o := by
  rcases x.hh a o h with h | ⟨v, h, m⟩
  · exact h
  · rw [hG] at h
    cases h
    rw [hm] at m
    cases m
theorem Ext.gone {G H G' H' : Hp} (x : Ext G H G' H') {a : Addr} (h : H' a = none) : H a = none := by
  cases e : H a with
  | none => rfl
  | some o =>
    rcases x.hh a o e with q | ⟨u, q, _⟩
    · rw [h] at q
      cases q
    · have := x.gh.none h
      rw [x.gg a u q] at this
      cases this
theorem Ext.ownT {G H G1 H1 G2 H2 : Hp} (x : Ext G H G1 H1) (y : Ext G1 H1 G2 H2) {a : Addr} {o : HO} (h : H a = some o) (t : noTup o = true) (n : G a = none) : G2 a = none :=
  y.own a o (x.at n h) t (x.own a o h t n)
theorem mkd.mono {G G' : Hp} (g : ∀ a o, G a = some o → G' a = some o) {a : Addr} (m : mkd G a) : mkd G' a := m.imp fun u h => ⟨g a u h.1, h.2⟩
theorem Ext.mark {G H G1 H1 : Hp} (x : Ext G H G1 H1) {a : Addr} {o : HO} (h : H a = some o) (m : mkd G1 a) : mkd G a := by
  rcases x.hh a o h with h1 | m'
  · obtain ⟨u, m, mu⟩ := m
    cases e : G a with
    | some v =>
      have := x.gg a v e
      rw [m] at this
      cases this
      exact ⟨u, e, mu⟩
    | none =>
      cases t : noTup o with
      | true =>
        rw [x.own a o h t e] at m
        cases m
      | false =>
        rcases x.gh a u m with ⟨_, q⟩ | ⟨d, _⟩ | q
        · rw [mu] at q
          cases q
        · cases u <;> first | (cases mu; done) | (cases d; done)
        · obtain ⟨_, xs, q⟩ := q.mk
          rw [h1] at q
          cases q
          cases t
  · exact m'
theorem Ext.trans {G H G1 H1 G2 H2 : Hp} (x : Ext G H G1 H1) (y : Ext G1 H1 G2 H2) : Ext G H G2 H2 := by
  refine ⟨fun a o h => y.gg a o (x.gg a o h), fun a o h => ?_, y.gh, fun a o h t n => x.ownT y h t n⟩
  rcases x.hh a o h with h1 | m
  · exact (y.hh a o h1).imp id (x.mark h)
  · exact .inr m
theorem Ext.g {G H G' H' : Hp} (x : Ext G H G' H') : Sub G G' := x.gg
/-- a new object is laid and frozen -/
theorem Ext.new {G H : Hp} {p : Addr} {o : HO} (g : GH G H) (h : H p = none) (nm : isMk o = false := by rfl) : Ext G H (upd G p o) (upd H p o) := by
  refine ⟨fun a u e => ?_, fun a u e => .inl ?_, fun a u r => ?_, fun a u e _ n => ?_⟩
  · rw [upd_ne (ne_of_none e (g.none h))]; exact e
  · rw [upd_ne (ne_of_none e h)]; exact e
  · by_cases ha : a = p
    · subst ha
      rw [upd_same] at r
      cases r
      exact .of upd_same nm
    · rw [upd_ne ha] at r
      exact (g a u r).eq (upd_ne ha)
  · rw [upd_ne (ne_of_none e h)]; exact n
/-- a new object is laid and owned -/
theorem Ext.fresh {G H : Hp} {p : Addr} {o : HO} (g : GH G H) (h : H p = none) : Ext G H G (upd H p o) := by
  refine ⟨fun a u e => e, fun a u e => .inl ?_, fun a u r => ?_, fun a u e _ n => n⟩
  · rw [upd_ne (ne_of_none e h)]; exact e
  · have hp : a ≠ p := by
      rintro rfl
      rw [g.none h] at r; cases r
    exact (g a u r).eq (upd_ne hp)

/-- a slot: not told, a frozen datum, an owned one -/
inductive Sl where
  | no
  | fr (d : D)
  | ow (d : D)
  /-- a caught exception at a, its dict at dd -/
  | ex (a dd : Addr) (fl : List (Str × D))
  /-- a dict of owned lists -/
  | ne (kls : List (Key × List D))
/-- the fields of an exception -/
def DqF (K : PySem.W.Frag) (G : Hp) (fs : List (Str × V)) (fl : List (Str × D)) : Prop := fs.map (·.1) = fl.map (·.1) ∧ DqA K G (fs.map (·.2)) (fl.map (·.2))
theorem DqF.mono {K : PySem.W.Frag} {A B : Hp} (x : Sub A B) {fs : List (Str × V)} {fl : List (Str × D)} (h : DqF K A fs fl) : DqF K B fs fl := ⟨h.1, h.2.mono x⟩
theorem DqF.get {K : PySem.W.Frag} {G : Hp} {f : Str} {d : D} : ∀ {fl : List (Str × D)} {fs : List (Str × V)}, DqF K G fs fl → fl.lookup f = some d → ∃ v, fs.lookup f = some v ∧ Dq K G v d
  | [], _, _, e => by simp at e
  | (g, d') :: fl, [], h, _ => by
    have := h.1
    simp at this
  | (g, d') :: fl, (g', v') :: fs, h, e => by
    obtain ⟨h1, h2⟩ := h
    simp only [List.map_cons] at h1 h2
    injection h1 with e1 h1
    cases h2 with
    | cons a b =>
      subst e1
      by_cases q : f = g'
      · subst q
        rw [List.lookup_cons_self] at e
        cases e
        exact ⟨v', List.lookup_cons_self, a⟩
      · have q2 : (f == g') = false := by simpa using q
        rw [List.lookup_cons, q2] at e
        rw [List.lookup_cons, q2]
        exact DqF.get ⟨h1, b⟩ e
/-- what stands at an owned address -/
inductive OwnC (K : PySem.W.Frag) (G H : Hp) (l : Addr) : D → Prop
  | lst {vs : List V} {ds : List D} : H l = some (.lst vs) → DqA K G vs ds → OwnC K G H l (.list ds)
  | dK {es : List (Key × V)} {kvs : List (D × D)} : H l = some (.dK es) → DqK K G es kvs → OwnC K G H l (.dict kvs)
  | dT {es : List (List Key × V)} {kvs : List (D × D)} : H l = some (.dT es) → DqT K G es kvs → OwnC K G H l (.dict ((.none, .none) :: kvs))
theorem OwnC.there {K : PySem.W.Frag} {G H : Hp} {l : Addr} {d : D} (x : OwnC K G H l d) : ∃ o, H l = some o ∧ noTup o = true := by
  cases x with
  | lst h _ => exact ⟨_, h, rfl⟩
  | dK h _ => exact ⟨_, h, rfl⟩
  | dT h _ => exact ⟨_, h, rfl⟩
theorem OwnC.there2 {K : PySem.W.Frag} {G H : Hp} {l : Addr} {d : D} (x : OwnC K G H l d) : ∃ o, H l = some o ∧ noTup o = true ∧ isMk o = false := by
  cases x with
  | lst h _ => exact ⟨_, h, rfl, rfl⟩
  | dK h _ => exact ⟨_, h, rfl, rfl⟩
  | dT h _ => exact ⟨_, h, rfl, rfl⟩
theorem OwnC.ext {K : PySem.W.Frag} {G H G' H' : Hp} {l : Addr} {d : D} (x : OwnC K G H l d) (g : Sub G G') (h : H' l = H l) : OwnC K G' H' l d := by
  cases x with
  | lst e r => exact .lst (h.trans e) (r.mono g)
  | dK e r => exact .dK (h.trans e) (r.mono g)
  | dT e r => exact .dT (h.trans e) (r.mono g)
/-- an owned object read as a frozen one, over the whole heap -/
theorem OwnC.dq {K : PySem.W.Frag} {G H B : Hp} {l : Addr} {d : D} (x : OwnC K G H l d) (g : Sub G B) (h : ∀ o, H l = some o → B l = some o) : Dq K B (.ref l) d := by
  cases x with
  | lst e r => exact .lst (h _ e) (r.mono g)
  | dK e r => exact .dK (.inl (h _ e)) (r.mono g)
  | dT e r => exact .dT (.inl (h _ e)) (r.mono g)

/-- the lists at these addresses -/
inductive NeL (K : PySem.W.Frag) (G H : Hp) : List (Key × V) → List Addr → List (Key × List D) → Prop
  | nil : NeL K G H [] [] []
  | cons {k : Key} {a : Addr} {vs : List V} {ds : List D} {es : List (Key × V)} {as : List Addr} {kls : List (Key × List D)} : H a = some (.lst vs) → DqA K G vs ds → NeL K G H es as kls → NeL K G H ((k, .ref a) :: es) (a :: as) ((k, ds) :: kls)
theorem NeL.go {K : PySem.W.Frag} {G H G' H' : Hp} (g : Sub G G') : ∀ {es : List (Key × V)} {as : List Addr} {kls : List (Key × List D)}, NeL K G H es as kls → (∀ a ∈ as, H' a = H a) → NeL K G' H' es as kls
  | _, _, _, .nil, _ => .nil
  | _, _, _, .cons h r t, e => .cons ((e _ (List.mem_cons_self ..)).trans h) (r.mono g) (NeL.go g t fun a ha => e a (List.mem_cons_of_mem _ ha))
theorem NeL.there {K : PySem.W.Frag} {G H : Hp} {es : List (Key × V)} {as : List Addr} {kls : List (Key × List D)} (x : NeL K G H es as kls) : ∀ a ∈ as, ∃ vs, H a = some (.lst vs) := by
  induction x with
  | nil =>
    intro a ha
    cases ha
  | cons h _ _ ih =>
    intro a ha
    rcases List.mem_cons.mp ha with rfl | ha
    · exact ⟨_, h⟩
    · exact ih a ha
theorem NeL.det {K : PySem.W.Frag} {G H G' H' : Hp} : ∀ {es : List (Key × V)} {as bs : List Addr} {kls lls : List (Key × List D)}, NeL K G H es as kls → NeL K G' H' es bs lls → as = bs
  | _, _, _, _, _, .nil, .nil => rfl
  | _, _, _, _, _, .cons _ _ t, .cons _ _ u => congrArg _ (NeL.det t u)
def NeC (K : PySem.W.Frag) (G H : Hp) (l : Addr) (as : List Addr) (kls : List (Key × List D)) : Prop := (∃ es, H l = some (.dK es) ∧ NeL K G H es as kls) ∧ (l :: as).Nodup
theorem NeC.there {K : PySem.W.Frag} {G H : Hp} {l : Addr} {as : List Addr} {kls : List (Key × List D)} (x : NeC K G H l as kls) : ∀ a ∈ l :: as, ∃ o, H a = some o ∧ noTup o = true := fun a ha => by
  obtain ⟨⟨es, h1, h2⟩, _⟩ := x
  rcases List.mem_cons.mp ha with rfl | ha
  · exact ⟨_, h1, rfl⟩
  · obtain ⟨vs, h⟩ := h2.there a ha
    exact ⟨_, h, rfl⟩
theorem NeC.there2 {K : PySem.W.Frag} {G H : Hp} {l : Addr} {as : List Addr} {kls : List (Key × List D)} (x : NeC K G H l as kls) {a : Addr} {u : HO} (ha : a ∈ l :: as) (r : H a = some u) : isMk u = false := by
  obtain ⟨⟨es, h1, h2⟩, _⟩ := x
  rcases List.mem_cons.mp ha with rfl | ha
  · rw [h1] at r
    cases r
    rfl
  · obtain ⟨vs, h⟩ := h2.there a ha
    rw [h] at r
    cases r
    rfl
theorem NeC.go {K : PySem.W.Frag} {G H G' H' : Hp} {l : Addr} {as : List Addr} {kls : List (Key × List D)} (x : NeC K G H l as kls) (g : Sub G G') (e : ∀ a ∈ l :: as, H' a = H a) : NeC K G' H' l as kls := by
  obtain ⟨⟨es, h1, h2⟩, n⟩ := x
  exact ⟨⟨es, (e l (List.mem_cons_self ..)).trans h1, h2.go g fun a ha => e a (List.mem_cons_of_mem _ ha)⟩, n⟩
structure En (K : PySem.W.Frag) (G0 H0 G H : Hp) (σ : St) (ρ : List Sl) : Prop where
  len : σ.length = ρ.length
  ext : Ext G0 H0 G H
  fr : ∀ (i : Nat) (d : D), ρ[i]? = some (Sl.fr d) → ∃ v, σ[i]? = some (some v) ∧ Dq K G v d
  ow : ∀ (i : Nat) (d : D), ρ[i]? = some (Sl.ow d) → ∃ l, σ[i]? = some (some (V.ref l)) ∧ H0 l = none ∧ G l = none ∧ OwnC K G H l d
  ex : ∀ (i : Nat) (a dd : Addr) (fl : List (Str × D)), ρ[i]? = some (Sl.ex a dd fl) → σ[i]? = some (some (V.ref a)) ∧ ∃ fs, G dd = some (.xd fs) ∧ DqF K G fs fl
  dis : ∀ (i j : Nat) (d e : D) (l : Addr), ρ[i]? = some (Sl.ow d) → ρ[j]? = some (Sl.ow e) → σ[i]? = some (some (V.ref l)) → σ[j]? = some (some (V.ref l)) → i = j
  ne : ∀ (i : Nat) (kls : List (Key × List D)), ρ[i]? = some (Sl.ne kls) → ∃ l as, σ[i]? = some (some (V.ref l)) ∧ NeC K G H l as kls ∧ ∀ a ∈ l :: as, H0 a = none ∧ G a = none ∧ ∀ (j : Nat) (e : D), ρ[j]? = some (Sl.ow e) → σ[j]? ≠ some (some (V.ref a))
  ned : ∀ (i j : Nat) (x y : List (Key × List D)), ρ[i]? = some (Sl.ne x) → ρ[j]? = some (Sl.ne y) → i = j
section
variable {K : PySem.W.Frag} {G0 H0 G H G' H' : Hp} {σ : St} {ρ : List Sl}
theorem En.go (E : En K G0 H0 G H σ ρ) (x : Ext G H G' H') : En K G0 H0 G' H' σ ρ := by
  refine ⟨E.len, E.ext.trans x, fun i d e => ?_, fun i d e => ?_, fun i a dd fl e => ?_, E.dis, fun i kls e => ?_, E.ned⟩
  · obtain ⟨v, h1, h2⟩ := E.fr i d e
    exact ⟨v, h1, h2.mono x.g⟩
  · obtain ⟨l, h1, h2, h3, h4⟩ := E.ow i d e
    obtain ⟨o, ho, ht⟩ := h4.there
    exact ⟨l, h1, h2, x.own l o ho ht h3, h4.ext x.g ((x.at h3 ho).trans ho.symm)⟩
  · obtain ⟨h1, fs, h2, h3⟩ := E.ex i a dd fl e
    exact ⟨h1, fs, x.gg _ _ h2, h3.mono x.g⟩
  · obtain ⟨l, as, h1, h2, h3⟩ := E.ne i kls e
    refine ⟨l, as, h1, h2.go x.g fun a ha => ?_, fun a ha => ?_⟩
    · obtain ⟨o, ho, _⟩ := h2.there a ha
      exact (x.at (h3 a ha).2.1 ho).trans ho.symm
    · obtain ⟨o, ho, ht⟩ := h2.there a ha
      obtain ⟨b1, b2, b3⟩ := h3 a ha
      exact ⟨b1, x.own a o ho ht b2, b3⟩
theorem En.gh (E : En K G0 H0 G H σ ρ) : GH G H := E.ext.gh
theorem set_get? {α : Type} {xs : List α} {i j : Nat} {a b : α} (h : (xs.set i a)[j]? = some b) : (j = i ∧ i < xs.length ∧ a = b) ∨ (j ≠ i ∧ xs[j]? = some b) := by
  by_cases e : j = i
  · subst e
    have hi : j < (xs.set j a).length := (List.getElem?_eq_some_iff.mp h).1
    rw [List.length_set] at hi
    rw [List.getElem?_set_self hi] at h
    exact .inl ⟨rfl, hi, Option.some.inj h⟩
  · rw [List.getElem?_set_ne (Ne.symm e)] at h
    exact .inr ⟨e, h⟩
theorem En.ne_set (E : En K G0 H0 G H σ ρ) {i : Nat} {v : Option V} {s : Sl} (hs : ∀ kls, s ≠ Sl.ne kls) (ho : ∀ d, s ≠ Sl.ow d) (j : Nat) (kls : List (Key × List D)) (q : (ρ.set i s)[j]? = some (Sl.ne kls)) :
    ∃ l as, (σ.set i v)[j]? = some (some (V.ref l)) ∧ NeC K G H l as kls ∧ ∀ a ∈ l :: as, H0 a = none ∧ G a = none ∧ ∀ (k : Nat) (e : D), (ρ.set i s)[k]? = some (Sl.ow e) → (σ.set i v)[k]? ≠ some (some (V.ref a)) := by
  rcases set_get? q with ⟨_, _, x⟩ | ⟨nj, q⟩
  · exact absurd x (hs _)
  · obtain ⟨l, as, h1, h2, h3⟩ := E.ne j kls q
    refine ⟨l, as, by rw [List.getElem?_set_ne (Ne.symm nj)]; exact h1, h2, fun a ha => ?_⟩
    obtain ⟨b1, b2, b3⟩ := h3 a ha
    refine ⟨b1, b2, fun k e z => ?_⟩
    rcases set_get? z with ⟨_, _, x⟩ | ⟨nk, z⟩
    · exact absurd x (ho _)
    · rw [List.getElem?_set_ne (Ne.symm nk)]
      exact b3 k e z
theorem En.ned_set (E : En K G0 H0 G H σ ρ) {i : Nat} {s : Sl} (hs : ∀ kls, s ≠ Sl.ne kls) (j k : Nat) (x y : List (Key × List D)) (q : (ρ.set i s)[j]? = some (Sl.ne x)) (q' : (ρ.set i s)[k]? = some (Sl.ne y)) : j = k := by
  rcases set_get? q with ⟨_, _, z⟩ | ⟨_, q⟩
  · exact absurd z (hs _)
  · rcases set_get? q' with ⟨_, _, z⟩ | ⟨_, q'⟩
    · exact absurd z (hs _)
    · exact E.ned j k x y q q'
theorem En.setF (E : En K G0 H0 G H σ ρ) {v : V} {d : D} (i : Nat) (h : Dq K G v d) : En K G0 H0 G H (σ.set i (some v)) (ρ.set i (Sl.fr d)) := by
  refine ⟨by rw [List.length_set, List.length_set, E.len], E.ext, fun j e q => ?_, fun j e q => ?_, fun j a dd fl q => ?_, fun j k e e' l q q' r r' => ?_, E.ne_set (fun _ z => nomatch z) (fun _ z => nomatch z), E.ned_set (fun _ z => nomatch z)⟩
  · rcases set_get? q with ⟨rfl, hi, x⟩ | ⟨ne, q⟩
    · cases x
      exact ⟨v, by rw [List.getElem?_set_self (by rw [E.len]; exact hi)], h⟩
    · obtain ⟨u, h1, h2⟩ := E.fr j e q
      exact ⟨u, by rw [List.getElem?_set_ne (Ne.symm ne)]; exact h1, h2⟩
  · rcases set_get? q with ⟨_, _, x⟩ | ⟨ne, q⟩
    · cases x
    · obtain ⟨l, h1, h2⟩ := E.ow j e q
      exact ⟨l, by rw [List.getElem?_set_ne (Ne.symm ne)]; exact h1, h2⟩
  · rcases set_get? q with ⟨_, _, x⟩ | ⟨ne, q⟩
    · cases x
    · obtain ⟨h1, h2⟩ := E.ex j a dd fl q
      exact ⟨by rw [List.getElem?_set_ne (Ne.symm ne)]; exact h1, h2⟩
  · rcases set_get? q with ⟨_, _, x⟩ | ⟨ne, q⟩
    · cases x
    · rcases set_get? q' with ⟨_, _, x⟩ | ⟨ne', q'⟩
      · cases x
      · rw [List.getElem?_set_ne (Ne.symm ne)] at r
        rw [List.getElem?_set_ne (Ne.symm ne')] at r'
        exact E.dis j k e e' l q q' r r'
/-- an owned object comes into slot i -/
theorem En.setO (E : En K G0 H0 G H σ ρ) {l : Addr} {d : D} (i : Nat) (h0 : H0 l = none) (hG : G l = none) (h : OwnC K G H l d) (hd : ∀ (j : Nat) (e : D), j ≠ i → ρ[j]? = some (Sl.ow e) → σ[j]? ≠ some (some (V.ref l))) (hn : ∀ (j : Nat) (kls : List (Key × List D)) (l' : Addr) (as : List Addr), ρ[j]? = some (Sl.ne kls) → σ[j]? = some (some (V.ref l')) → NeC K G H l' as kls → l ∉ l' :: as) :
    En K G0 H0 G H (σ.set i (some (.ref l))) (ρ.set i (Sl.ow d)) := by
  refine ⟨by rw [List.length_set, List.length_set, E.len], E.ext, fun j e q => ?_, fun j e q => ?_, fun j a dd fl q => ?_, fun j k e e' a q q' r r' => ?_, fun j kls q => ?_, E.ned_set (fun _ z => nomatch z)⟩
  · rcases set_get? q with ⟨_, _, x⟩ | ⟨ne, q⟩
    · cases x
    · obtain ⟨u, h1, h2⟩ := E.fr j e q
      exact ⟨u, by rw [List.getElem?_set_ne (Ne.symm ne)]; exact h1, h2⟩
  · rcases set_get? q with ⟨rfl, hi, x⟩ | ⟨ne, q⟩
    · cases x
      exact ⟨l, by rw [List.getElem?_set_self (by rw [E.len]; exact hi)], h0, hG, h⟩
    · obtain ⟨l, h1, h2⟩ := E.ow j e q
      exact ⟨l, by rw [List.getElem?_set_ne (Ne.symm ne)]; exact h1, h2⟩
  · rcases set_get? q with ⟨_, _, x⟩ | ⟨ne, q⟩
    · cases x
    · obtain ⟨h1, h2⟩ := E.ex j a dd fl q
      exact ⟨by rw [List.getElem?_set_ne (Ne.symm ne)]; exact h1, h2⟩
  · rcases set_get? q with ⟨rfl, hi, x⟩ | ⟨ne, q⟩
    · rcases set_get? q' with ⟨rfl, _, x⟩ | ⟨ne', q'⟩
      · rfl
      · rw [List.getElem?_set_self (by rw [E.len]; exact hi)] at r
        rw [List.getElem?_set_ne (Ne.symm ne')] at r'
        cases r
        exact absurd r' (hd k e' ne' q')
    · rcases set_get? q' with ⟨rfl, hi, x⟩ | ⟨ne', q'⟩
      · rw [List.getElem?_set_self (by rw [E.len]; exact hi)] at r'
        rw [List.getElem?_set_ne (Ne.symm ne)] at r
        cases r'
        exact absurd r (hd j e ne (by assumption))
      · rw [List.getElem?_set_ne (Ne.symm ne)] at r
        rw [List.getElem?_set_ne (Ne.symm ne')] at r'
        exact E.dis j k e e' a q q' r r'
  · rcases set_get? q with ⟨_, _, x⟩ | ⟨nj, q⟩
    · cases x
    · obtain ⟨l', as, h1, h2, h3⟩ := E.ne j kls q
      have hln := hn j kls l' as q h1 h2
      refine ⟨l', as, by rw [List.getElem?_set_ne (Ne.symm nj)]; exact h1, h2, fun a ha => ?_⟩
      obtain ⟨b1, b2, b3⟩ := h3 a ha
      refine ⟨b1, b2, fun k e z => ?_⟩
      rcases set_get? z with ⟨rfl, hi, _⟩ | ⟨nk, z⟩
      · rw [List.getElem?_set_self (by rw [E.len]; exact hi)]
        intro y
        injection y with y
        injection y with y
        injection y with y
        subst y
        exact hln ha
      · rw [List.getElem?_set_ne (Ne.symm nk)]
        exact b3 k e z
/-- a new owned object -/
theorem En.setN (E : En K G0 H0 G H σ ρ) {l : Addr} {d : D} (i : Nat) (x : Ext G H G' H') (hH : H l = none) (hG : G' l = none) (h : OwnC K G' H' l d) : En K G0 H0 G' H' (σ.set i (some (.ref l))) (ρ.set i (Sl.ow d)) := by
  refine (E.go x).setO i ?_ hG h (fun j e ne q r => ?_) fun j kls l' as q r c hm => ?_
  · exact E.ext.gone hH
  · obtain ⟨l', h1, _, _, h4⟩ := E.ow j e q
    obtain ⟨o, ho, ht⟩ := h4.there
    rw [h1] at r
    cases r
    rw [hH] at ho; cases ho
  · obtain ⟨l0, as0, h1, h2, h2'⟩ := E.ne j kls q
    rw [h1] at r
    cases r
    obtain ⟨⟨es, e1, e2⟩, nd⟩ := h2
    obtain ⟨⟨es', e3, e4⟩, _⟩ := c
    have e5 := x.at (h2' _ (List.mem_cons_self ..)).2.1 e1
    rw [e5] at e3
    cases e3
    have e6 := e2.det e4
    subst e6
    obtain ⟨o, ho, _⟩ := (show NeC K G H l' as0 kls from ⟨⟨es, e1, e2⟩, nd⟩).there l hm
    rw [hH] at ho
    cases ho
/-- an owned object is frozen from now on -/
theorem En.frzAs (E : En K G0 H0 G H σ ρ) {i : Nat} {d d' : D} {l : Addr} {o : HO} (hi : ρ[i]? = some (Sl.ow d)) (h1 : σ[i]? = some (some (V.ref l))) (ho : GHat o H l) (hd : (∀ a u, G a = some u → upd G l o a = some u) → Dq K (upd G l o) (.ref l) d') : En K G0 H0 (upd G l o) H σ (ρ.set i (Sl.fr d')) := by
  obtain ⟨l', h1', h2, h3, h4⟩ := E.ow i d hi
  rw [h1] at h1'
  injection h1' with h1'
  injection h1' with h1'
  injection h1' with h1'
  subst h1'
  have gg : ∀ a u, G a = some u → upd G l o a = some u := fun a u e => by
    rw [upd_ne (ne_of_none e h3)]; exact e
  have gh' : GH (upd G l o) H := fun a u r => by
    by_cases ha : a = l
    · subst ha
      rw [upd_same] at r
      cases r
      exact ho
    · rw [upd_ne ha] at r
      exact E.gh a u r
  have hil : i < ρ.length := (List.getElem?_eq_some_iff.mp hi).1
  refine ⟨by rw [List.length_set, E.len], ⟨fun a u e => gg a u (E.ext.gg a u e), E.ext.hh, gh', fun a u e t n => ?_⟩, fun j e q => ?_, fun j e q => ?_, fun j a dd fl q => ?_, fun j k e e' a q q' r r' => ?_, fun j kls q => ?_, E.ned_set (fun _ z => nomatch z)⟩
  · rw [upd_ne (ne_of_none e h2)]; exact E.ext.own a u e t n
  · rcases set_get? q with ⟨rfl, _, x⟩ | ⟨ne, q⟩
    · cases x
      exact ⟨_, h1, hd gg⟩
    · obtain ⟨v, a1, a2⟩ := E.fr j e q
      exact ⟨v, a1, a2.mono (Sub.of gg)⟩
  · rcases set_get? q with ⟨_, _, x⟩ | ⟨ne, q⟩
    · cases x
    · obtain ⟨b, a1, a2, a3, a4⟩ := E.ow j e q
      have hb : b ≠ l := by
        rintro rfl
        exact ne (E.dis j i e d b q hi a1 h1)
      exact ⟨b, a1, a2, by rw [upd_ne hb]; exact a3, a4.ext (Sub.of gg) rfl⟩
  · rcases set_get? q with ⟨_, _, x⟩ | ⟨ne, q⟩
    · cases x
    · obtain ⟨a1, fs, a2, a3⟩ := E.ex j a dd fl q
      exact ⟨a1, fs, gg _ _ a2, a3.mono (Sub.of gg)⟩
  · rcases set_get? q with ⟨_, _, x⟩ | ⟨ne, q⟩
    · cases x
    · rcases set_get? q' with ⟨_, _, x⟩ | ⟨ne', q'⟩
      · cases x
      · exact E.dis j k e e' a q q' r r'
  · rcases set_get? q with ⟨_, _, x⟩ | ⟨nj, q⟩
    · cases x
    · obtain ⟨l', as, c1, c2, c3⟩ := E.ne j kls q
      refine ⟨l', as, c1, c2.go (Sub.of gg) fun _ _ => rfl, fun a ha => ?_⟩
      obtain ⟨b1, b2, b3⟩ := c3 a ha
      have hal : a ≠ l := fun z => b3 i d hi (by rw [z]; exact h1)
      refine ⟨b1, by rw [upd_ne hal]; exact b2, fun k e z => ?_⟩
      rcases set_get? z with ⟨_, _, x⟩ | ⟨_, z⟩
      · cases x
      · exact b3 k e z
theorem En.freeze (E : En K G0 H0 G H σ ρ) {i : Nat} {d : D} (hi : ρ[i]? = some (Sl.ow d)) : ∃ G', En K G0 H0 G' H σ (ρ.set i (Sl.fr d)) := by
  obtain ⟨l, h1, h2, h3, h4⟩ := E.ow i d hi
  obtain ⟨o, ho, ht, hm⟩ := h4.there2
  exact ⟨_, E.frzAs hi h1 (.of ho hm) fun gg => h4.dq (Sub.of gg) fun u hu => by rw [upd_same]; rw [ho] at hu; exact hu⟩
/-- the owned object of slot i is changed -/
theorem En.write (E : En K G0 H0 G H σ ρ) {i : Nat} {d d' : D} {l : Addr} {o : HO} (hi : ρ[i]? = some (Sl.ow d)) (hl : σ[i]? = some (some (V.ref l))) (h : OwnC K G (upd H l o) l d') : En K G0 H0 G (upd H l o) σ (ρ.set i (Sl.ow d')) := by
  obtain ⟨l', h1, h2, h3, h4⟩ := E.ow i d hi
  rw [hl] at h1
  cases h1
  have hil : i < ρ.length := (List.getElem?_eq_some_iff.mp hi).1
  have ghn : GH G (upd H l o) := fun a u r => by
    have ne : a ≠ l := by
      rintro rfl
      rw [h3] at r; cases r
    exact (E.gh a u r).eq (upd_ne ne)
  refine ⟨by rw [List.length_set, E.len], ⟨E.ext.gg, fun a u e => by rw [upd_ne (ne_of_none e h2)]; exact E.ext.hh a u e, ghn, E.ext.own⟩, fun j e q => ?_, fun j e q => ?_, fun j a dd fl q => ?_, fun j k e e' a q q' r r' => ?_, fun j kls q => ?_, E.ned_set (fun _ z => nomatch z)⟩
  · rcases set_get? q with ⟨_, _, x⟩ | ⟨ne, q⟩
    · cases x
    · exact E.fr j e q
  · rcases set_get? q with ⟨rfl, _, x⟩ | ⟨ne, q⟩
    · cases x
      exact ⟨l, hl, h2, h3, h⟩
    · obtain ⟨b, a1, a2, a3, a4⟩ := E.ow j e q
      have hb : b ≠ l := by
        rintro rfl
        exact ne (E.dis j i e d b q hi a1 hl)
      exact ⟨b, a1, a2, a3, a4.ext (Sub.refl G) (upd_ne hb)⟩
  · rcases set_get? q with ⟨_, _, x⟩ | ⟨ne, q⟩
    · cases x
    · exact E.ex j a dd fl q
  · have hx : ∀ {j : Nat} {e : D}, (ρ.set i (Sl.ow d'))[j]? = some (Sl.ow e) → ∃ e', ρ[j]? = some (Sl.ow e') := fun {j e} z => by
      rcases set_get? z with ⟨rfl, _, x⟩ | ⟨ne, z⟩
      · exact ⟨d, hi⟩
      · exact ⟨e, z⟩
    obtain ⟨f, q⟩ := hx q
    obtain ⟨f', q'⟩ := hx q'
    exact E.dis j k f f' a q q' r r'
  · rcases set_get? q with ⟨_, _, x⟩ | ⟨nj, q⟩
    · cases x
    · obtain ⟨l', as, c1, c2, c3⟩ := E.ne j kls q
      refine ⟨l', as, c1, c2.go (Sub.refl G) fun a ha => ?_, fun a ha => ?_⟩
      · have hal : a ≠ l := fun z => (c3 a ha).2.2 i d hi (by rw [z]; exact hl)
        exact upd_ne hal
      · obtain ⟨b1, b2, b3⟩ := c3 a ha
        refine ⟨b1, b2, fun k e z => ?_⟩
        rcases set_get? z with ⟨rfl, _, _⟩ | ⟨_, z⟩
        · exact b3 k d hi
        · exact b3 k e z
/-- a slot is forgotten -/
theorem En.drop (E : En K G0 H0 G H σ ρ) {ρ' : List Sl} (hl : ρ'.length = ρ.length) (h : ∀ (i : Nat) (s : Sl), ρ'[i]? = some s → s = Sl.no ∨ ρ[i]? = some s) : En K G0 H0 G H σ ρ' := by
  have hf : ∀ i d, ρ'[i]? = some (Sl.fr d) → ρ[i]? = some (Sl.fr d) := fun i d e => (h i _ e).elim (fun z => nomatch z) id
  have ho : ∀ i d, ρ'[i]? = some (Sl.ow d) → ρ[i]? = some (Sl.ow d) := fun i d e => (h i _ e).elim (fun z => nomatch z) id
  have hx : ∀ (i : Nat) (a dd : Addr) (fl : List (Str × D)), ρ'[i]? = some (Sl.ex a dd fl) → ρ[i]? = some (Sl.ex a dd fl) := fun i a dd fl e => (h i _ e).elim (fun z => nomatch z) id
  have hk : ∀ (i : Nat) (kls : List (Key × List D)), ρ'[i]? = some (Sl.ne kls) → ρ[i]? = some (Sl.ne kls) := fun i kls e => (h i _ e).elim (fun z => nomatch z) id
  exact ⟨E.len.trans hl.symm, E.ext, fun i d e => E.fr i d (hf i d e), fun i d e => E.ow i d (ho i d e), fun i a dd fl e => E.ex i a dd fl (hx i a dd fl e), fun i j d e l q q' => E.dis i j d e l (ho i d q) (ho j e q'), fun i kls e => (E.ne i kls (hk i kls e)).imp fun l z => z.imp fun as z => ⟨z.1, z.2.1, fun a ha => ⟨(z.2.2 a ha).1, (z.2.2 a ha).2.1, fun j e q => (z.2.2 a ha).2.2 j e (ho j e q)⟩⟩, fun i j x y q q' => E.ned i j x y (hk i x q) (hk j y q')⟩
/-- a slot that is written over without a word -/
theorem En.setX (E : En K G0 H0 G H σ ρ) (i : Nat) (v : Option V) : En K G0 H0 G H (σ.set i v) (ρ.set i Sl.no) := by
  refine ⟨by rw [List.length_set, List.length_set, E.len], E.ext, fun j e q => ?_, fun j e q => ?_, fun j a dd fl q => ?_, fun j k e e' l q q' r r' => ?_, E.ne_set (fun _ z => nomatch z) (fun _ z => nomatch z), E.ned_set (fun _ z => nomatch z)⟩
  · rcases set_get? q with ⟨_, _, x⟩ | ⟨ne, q⟩
    · cases x
    · obtain ⟨u, h1, h2⟩ := E.fr j e q
      exact ⟨u, by rw [List.getElem?_set_ne (Ne.symm ne)]; exact h1, h2⟩
  · rcases set_get? q with ⟨_, _, x⟩ | ⟨ne, q⟩
    · cases x
    · obtain ⟨l, h1, h2⟩ := E.ow j e q
      exact ⟨l, by rw [List.getElem?_set_ne (Ne.symm ne)]; exact h1, h2⟩
  · rcases set_get? q with ⟨_, _, x⟩ | ⟨ne, q⟩
    · cases x
    · obtain ⟨h1, h2⟩ := E.ex j a dd fl q
      exact ⟨by rw [List.getElem?_set_ne (Ne.symm ne)]; exact h1, h2⟩
  · rcases set_get? q with ⟨_, _, x⟩ | ⟨ne, q⟩
    · cases x
    · rcases set_get? q' with ⟨_, _, x⟩ | ⟨ne', q'⟩
      · cases x
      · rw [List.getElem?_set_ne (Ne.symm ne)] at r
        rw [List.getElem?_set_ne (Ne.symm ne')] at r'
        exact E.dis j k e e' l q q' r r'
/-- a caught exception comes into slot i -/
theorem En.setE (E : En K G0 H0 G H σ ρ) {a dd : Addr} {fs : List (Str × V)} {fl : List (Str × D)} (i : Nat) (h : G dd = some (.xd fs)) (hf : DqF K G fs fl) : En K G0 H0 G H (σ.set i (some (.ref a))) (ρ.set i (Sl.ex a dd fl)) := by
  have X := E.setX i (some (.ref a))
  refine ⟨by rw [List.length_set, List.length_set, E.len], E.ext, fun j e q => ?_, fun j e q => ?_, fun j b db gl q => ?_, fun j k e e' l q q' r r' => ?_, E.ne_set (fun _ z => nomatch z) (fun _ z => nomatch z), E.ned_set (fun _ z => nomatch z)⟩
  · rcases set_get? q with ⟨_, _, x⟩ | ⟨ne, q⟩
    · cases x
    · exact X.fr j e (by rw [List.getElem?_set_ne (Ne.symm ne)]; exact q)
  · rcases set_get? q with ⟨_, _, x⟩ | ⟨ne, q⟩
    · cases x
    · exact X.ow j e (by rw [List.getElem?_set_ne (Ne.symm ne)]; exact q)
  · rcases set_get? q with ⟨rfl, hi, x⟩ | ⟨ne, q⟩
    · cases x
      exact ⟨by rw [List.getElem?_set_self (by rw [E.len]; exact hi)], fs, h, hf⟩
    · exact X.ex j b db gl (by rw [List.getElem?_set_ne (Ne.symm ne)]; exact q)
  · rcases set_get? q with ⟨_, _, x⟩ | ⟨ne, q⟩
    · cases x
    · rcases set_get? q' with ⟨_, _, x⟩ | ⟨ne', q'⟩
      · cases x
      · exact X.dis j k e e' l (by rw [List.getElem?_set_ne (Ne.symm ne)]; exact q) (by rw [List.getElem?_set_ne (Ne.symm ne')]; exact q') r r'
end
end DL

/-! DL2: what a reading evaluates to, by data (EV, EVN, ET, EA), what a statement does by data (ST), loops, comprehensions, calls. -/
namespace DL
open PySem L2

theorem En.re {K : PySem.W.Frag} {G0 H0 G H : Hp} {σ : St} {ρ : List Sl} (E : En K G0 H0 G H σ ρ) : En K G H0 G H σ ρ :=
  ⟨E.len, ⟨fun _ _ h => h, fun a o h => (E.ext.hh a o h).imp id (mkd.mono E.ext.gg), E.ext.gh, fun _ _ _ _ h => h⟩, E.fr, E.ow, E.ex, E.dis, E.ne, E.ned⟩
theorem Ext.back {G0 H0 G1 H1 G2 H2 : Hp} (x : Ext G0 H0 G1 H1) (y : Ext G1 H0 G2 H2) : Ext G0 H0 G2 H2 :=
  ⟨fun a o h => y.gg a o (x.gg a o h), fun a o h => (y.hh a o h).imp id (x.mark h), y.gh, fun a o h t n => y.own a o h t (x.own a o h t n)⟩
theorem En.back {K : PySem.W.Frag} {G0 H0 G1 H1 G H : Hp} {σ : St} {ρ : List Sl} (x : Ext G0 H0 G1 H1) (E : En K G1 H0 G H σ ρ) : En K G0 H0 G H σ ρ :=
  ⟨E.len, x.back E.ext, E.fr, E.ow, E.ex, E.dis, E.ne, E.ned⟩

section
variable (K : PySem.W.Frag)
def EV (te : TE) (ρ : List Sl) (d : D) : Prop := ∀ (G0 H0 G H : Hp) (σ : St) (Q : VK), En K G0 H0 G H σ ρ → (∀ v G' H', Ext G H G' H' → Dq K G' v d → Q v H') → te σ H Q
def EVN (te : TE) (ρ : List Sl) (d : D) : Prop := ∀ (G0 H0 G H : Hp) (σ : St) (Q : VK), En K G0 H0 G H σ ρ → (∀ l G' H', Ext G H G' H' → H l = none → G' l = none → OwnC K G' H' l d → Q (.ref l) H') → te σ H Q
def ET (tt : TT) (ρ : List Sl) (b : Bool) : Prop := ∀ (G0 H0 G H : Hp) (σ : St) (Q : Bool → Hp → Prop), En K G0 H0 G H σ ρ → (∀ G' H', Ext G H G' H' → Q b H') → tt σ H Q
def EA (ta : TA) (ρ : List Sl) (ds : List D) : Prop := ∀ (G0 H0 G H : Hp) (σ : St) (Q : List V → Hp → Prop), En K G0 H0 G H σ ρ → (∀ vs G' H', Ext G H G' H' → DqA K G' vs ds → Q vs H') → ta σ H Q
def EO (to : TO) (ρ : List Sl) (o : Option Int) : Prop := ∀ (G0 H0 G H : Hp) (σ : St) (Q : Option Int → Hp → Prop), En K G0 H0 G H σ ρ → (∀ G' H', Ext G H G' H' → Q o H') → to σ H Q
/-- a two-place operation on data; its answer an old or frozen thing | a new object -/
def OD (r : R2) (a b d : D) : Prop := ∀ (x y : V) (G H : Hp) (Q : VK), GH G H → Dq K G x a → Dq K G y b → (∀ v G' H', Ext G H G' H' → Dq K G' v d → Q v H') → r x y H Q
def ON (r : R2) (a b d : D) : Prop := ∀ (x y : V) (G H : Hp) (Q : VK), GH G H → Dq K G x a → Dq K G y b → (∀ l G' H', Ext G H G' H' → H l = none → G' l = none → OwnC K G' H' l d → Q (.ref l) H') → r x y H Q
/-- a call by values -/
def CD (r : List V → Hp → VK → Prop) (ds : List D) (d : D) : Prop := ∀ (xs : List V) (G H : Hp) (Q : VK), GH G H → DqA K G xs ds → (∀ v G' H', Ext G H G' H' → Dq K G' v d → Q v H') → r xs H Q
def CN (r : List V → Hp → VK → Prop) (ds : List D) (d : D) : Prop := ∀ (xs : List V) (G H : Hp) (Q : VK), GH G H → DqA K G xs ds → (∀ l G' H', Ext G H G' H' → H l = none → G' l = none → OwnC K G' H' l d → Q (.ref l) H') → r xs H Q
end

section
variable {K : PySem.W.Frag} {ρ : List Sl} {ta tb te : TE} {tt tu : TT} {d d1 d2 : D}
/-- a new object is frozen at once -/
theorem own_frz {G H G' H' : Hp} {l : Addr} (x : Ext G H G' H') (hH : H l = none) (hG : G' l = none) (h : OwnC K G' H' l d) : ∃ G'', Ext G H G'' H' ∧ Dq K G'' (.ref l) d := by
  obtain ⟨o, ho, ht, hm⟩ := h.there2
  have gg : ∀ a u, G' a = some u → upd G' l o a = some u := fun a u e => by rw [upd_ne (ne_of_none e hG)]; exact e
  refine ⟨upd G' l o, ⟨fun a u e => gg a u (x.gg a u e), x.hh, fun a u r => ?_, fun a u e t n => ?_⟩, h.dq (Sub.of gg) fun u hu => by rw [upd_same]; rw [ho] at hu; exact hu⟩
  · by_cases ha : a = l
    · subst ha
      rw [upd_same] at r
      cases r
      exact .of ho hm
    · rw [upd_ne ha] at r
      exact x.gh a u r
  · rw [upd_ne (ne_of_none e hH)]; exact x.own a u e t n
theorem ev_N (h : EVN K te ρ d) : EV K te ρ d := fun G0 H0 G H σ Q E q => h G0 H0 G H σ Q E fun l G' H' x hH hG ho => by
  obtain ⟨G'', x', hd⟩ := own_frz x hH hG ho
  exact q _ _ _ x' hd
theorem ev_var {i : Nat} (h : ρ[i]? = some (.fr d)) : EV K (tVar i) ρ d := fun G0 H0 G H σ Q E q => by
  obtain ⟨v, h1, h2⟩ := E.fr i d h
  exact ⟨v, h1, q v G H (.refl E.gh) h2⟩
theorem ev_int {i : Int} : EV K (tC (.int i)) ρ (.int i) := fun _ _ G H _ _ E q => q _ G H (.refl E.gh) (.int i)
theorem ev_str {x : Str} : EV K (tC (.str x)) ρ (.str x) := fun _ _ G H _ _ E q => q _ G H (.refl E.gh) (.str x)
theorem ev_bl {b : Bool} : EV K (tC (.bl b)) ρ (.bool b) := fun _ _ G H _ _ E q => q _ G H (.refl E.gh) (.bl b)
theorem ev_non : EV K (tC .non) ρ .none := fun _ _ G H _ _ E q => q _ G H (.refl E.gh) .non
/-- a constant of the module -/
theorem ev_glob {v : V} (h : ∀ G, Dq K G v d) : EV K (tC v) ρ d := fun _ _ G H _ _ E q => q _ G H (.refl E.gh) (h G)
theorem ev_op {r : R2} (ha : EV K ta ρ d1) (hb : EV K tb ρ d2) (ho : OD K r d1 d2 d) : EV K (tOp r ta tb) ρ d := fun G0 H0 G H σ Q E q =>
  ha G0 H0 G H σ _ E fun x G1 H1 e1 h1 => hb G0 H0 G1 H1 σ _ (E.go e1) fun y G2 H2 e2 h2 => ho x y G2 H2 Q e2.gh (h1.mono e2.g) h2 fun v G3 H3 e3 h3 => q v G3 H3 ((e1.trans e2).trans e3) h3
theorem en_op {r : R2} (ha : EV K ta ρ d1) (hb : EV K tb ρ d2) (ho : ON K r d1 d2 d) : EVN K (tOp r ta tb) ρ d := fun G0 H0 G H σ Q E q =>
  ha G0 H0 G H σ _ E fun x G1 H1 e1 h1 => hb G0 H0 G1 H1 σ _ (E.go e1) fun y G2 H2 e2 h2 => ho x y G2 H2 Q e2.gh (h1.mono e2.g) h2 fun l G3 H3 e3 hH hG h3 => by
    refine q l G3 H3 ((e1.trans e2).trans e3) ?_ hG h3
    exact e1.gone (e2.gone hH)
theorem ev_un {r : V → Hp → VK → Prop} (ha : EV K ta ρ d1) (ho : ∀ (x : V) (G H : Hp) (Q : VK), GH G H → Dq K G x d1 → (∀ v G' H', Ext G H G' H' → Dq K G' v d → Q v H') → r x H Q) : EV K (tUn r ta) ρ d := fun G0 H0 G H σ Q E q =>
  ha G0 H0 G H σ _ E fun x G1 H1 e1 h1 => ho x G1 H1 Q e1.gh h1 fun v G3 H3 e3 h3 => q v G3 H3 (e1.trans e3) h3
theorem ev_neg {i : Int} (ha : EV K ta ρ (.int i)) : EV K (tUn (rU fun i => .int (-i)) ta) ρ (.int (-i)) := ev_un ha fun x G H Q g hx q => by
  cases hx
  exact ⟨i, rfl, q _ G H (.refl g) (.int _)⟩
theorem ea_nil : EA K tNil ρ [] := fun _ _ G H _ _ E q => q [] G H (.refl E.gh) .nil
theorem ea_cons {tr : TA} {ds : List D} (h : EV K ta ρ d) (hr : EA K tr ρ ds) : EA K (tCons ta tr) ρ (d :: ds) := fun G0 H0 G H σ Q E q =>
  h G0 H0 G H σ _ E fun x G1 H1 e1 h1 => hr G0 H0 G1 H1 σ _ (E.go e1) fun xs G2 H2 e2 h2 => q _ G2 H2 (e1.trans e2) (.cons (h1.mono e2.g) h2)
theorem ev_cb {r : List V → Hp → VK → Prop} {t : TA} {ds : List D} (h : EA K t ρ ds) (hc : CD K r ds d) : EV K (tCB r t) ρ d := fun G0 H0 G H σ Q E q =>
  h G0 H0 G H σ _ E fun xs G1 H1 e1 h1 => hc xs G1 H1 Q e1.gh h1 fun v G2 H2 e2 h2 => q v G2 H2 (e1.trans e2) h2
theorem en_cb {r : List V → Hp → VK → Prop} {t : TA} {ds : List D} (h : EA K t ρ ds) (hc : CN K r ds d) : EVN K (tCB r t) ρ d := fun G0 H0 G H σ Q E q =>
  h G0 H0 G H σ _ E fun xs G1 H1 e1 h1 => hc xs G1 H1 Q e1.gh h1 fun l G2 H2 e2 hH hG h2 => by
    refine q l G2 H2 (e1.trans e2) ?_ hG h2
    exact e1.gone hH
theorem ev_tup {t : TA} {ds : List D} (h : EA K t ρ ds) (hl : ds.length ≤ sizeLine) : EV K (tTup t) ρ (.tuple ds) := fun G0 H0 G H σ Q E q =>
  h G0 H0 G H σ _ E fun xs G1 H1 e1 h1 => ⟨by rw [h1.length]; exact hl, fun p hp => by
    have x := Ext.new (o := .tup xs) e1.gh hp
    exact q _ _ _ (e1.trans x) (.tup (SqT.of upd_same) (h1.mono x.g))⟩
theorem en_lst {t : TA} {ds : List D} (h : EA K t ρ ds) (hl : ds.length ≤ sizeLine) : EVN K (tLst t) ρ (.list ds) := fun G0 H0 G H σ Q E q =>
  h G0 H0 G H σ _ E fun xs G1 H1 e1 h1 => ⟨by rw [h1.length]; exact hl, fun p hp => by
    have x := Ext.fresh (o := .lst xs) e1.gh hp
    refine q _ _ _ (e1.trans x) ?_ (e1.gh.none hp) (.lst upd_same h1)
    exact e1.gone hp⟩

/-! ### tests -/
theorem et_test {b : Bool} (h : EV K te ρ (.bool b)) : ET K (tTest te) ρ b := fun G0 H0 G H σ Q E q => h G0 H0 G H σ _ E fun v G1 H1 e1 h1 => by
  cases h1
  exact ⟨b, rfl, q G1 H1 e1⟩
theorem et_B {b : Bool} (h : EV K te ρ (.bool b)) : ET K (tB te) ρ b := fun G0 H0 G H σ Q E q => h G0 H0 G H σ _ E fun v G1 H1 e1 h1 => by
  cases h1
  exact ⟨b, rfl, q G1 H1 e1⟩
theorem et_not {b : Bool} (h : ET K tt ρ b) : ET K (tNot tt) ρ (!b) := fun G0 H0 G H σ Q E q => h G0 H0 G H σ _ E fun G1 H1 e1 => q G1 H1 e1
theorem et_and {a b : Bool} (h : ET K tt ρ a) (h2 : a = true → ET K tu ρ b) : ET K (tAnd tt tu) ρ (a && b) := fun G0 H0 G H σ Q E q => h G0 H0 G H σ _ E fun G1 H1 e1 => by
  cases a with
  | true => exact h2 rfl G0 H0 G1 H1 σ Q (E.go e1) fun G2 H2 e2 => q G2 H2 (e1.trans e2)
  | false => exact q G1 H1 e1
theorem et_or {a b : Bool} (h : ET K tt ρ a) (h2 : a = false → ET K tu ρ b) : ET K (tOr tt tu) ρ (a || b) := fun G0 H0 G H σ Q E q => h G0 H0 G H σ _ E fun G1 H1 e1 => by
  cases a with
  | false => exact h2 rfl G0 H0 G1 H1 σ Q (E.go e1) fun G2 H2 e2 => q G2 H2 (e1.trans e2)
  | true => exact q G1 H1 e1
theorem et_is {a b : Bool} (h : ET K tt ρ a) (e : a = b) : ET K tt ρ b := e ▸ h
theorem ev_is {e : D} (h : EV K te ρ d) (q : d = e) : EV K te ρ e := q ▸ h
theorem en_is {e : D} (h : EVN K te ρ d) (q : d = e) : EVN K te ρ e := q ▸ h
theorem ea_is {ta : TA} {ds es : List D} (h : EA K ta ρ ds) (q : ds = es) : EA K ta ρ es := q ▸ h
theorem ev_andV {a b : Bool} (h1 : EV K ta ρ (.bool a)) (h2 : a = true → EV K tb ρ (.bool b)) : EV K (tAndV ta tb) ρ (.bool (a && b)) := fun G0 H0 G H σ Q E q => h1 G0 H0 G H σ _ E fun v G1 H1 e1 z => by
  cases z
  refine ⟨a, rfl, ?_⟩
  cases a with
  | true => exact h2 rfl G0 H0 G1 H1 σ Q (E.go e1) fun v G2 H2 e2 => q v G2 H2 (e1.trans e2)
  | false => exact q _ G1 H1 e1 (.bl false)
theorem ev_orV {a b : Bool} (h1 : EV K ta ρ (.bool a)) (h2 : a = false → EV K tb ρ (.bool b)) : EV K (tOrV ta tb) ρ (.bool (a || b)) := fun G0 H0 G H σ Q E q => h1 G0 H0 G H σ _ E fun v G1 H1 e1 z => by
  cases z
  refine ⟨a, rfl, ?_⟩
  cases a with
  | false => exact h2 rfl G0 H0 G1 H1 σ Q (E.go e1) fun v G2 H2 e2 => q v G2 H2 (e1.trans e2)
  | true => exact q _ G1 H1 e1 (.bl true)
theorem ev_notV {a : Bool} (h1 : EV K ta ρ (.bool a)) : EV K (tNotV ta) ρ (.bool (!a)) := fun G0 H0 G H σ Q E q => h1 G0 H0 G H σ _ E fun v G1 H1 e1 z => by
  cases z
  exact ⟨a, rfl, q _ G1 H1 e1 (.bl _)⟩
theorem ev_if {b : Bool} (h : ET K tt ρ b) (h1 : b = true → EV K ta ρ d) (h2 : b = false → EV K tb ρ d) : EV K (tIf tt ta tb) ρ d := fun G0 H0 G H σ Q E q => h G0 H0 G H σ _ E fun G1 H1 e1 => by
  cases b with
  | true => exact h1 rfl G0 H0 G1 H1 σ Q (E.go e1) fun v G2 H2 e2 => q v G2 H2 (e1.trans e2)
  | false => exact h2 rfl G0 H0 G1 H1 σ Q (E.go e1) fun v G2 H2 e2 => q v G2 H2 (e1.trans e2)
/-- by cases, the answer told by the test -/
theorem ev_ite {b : Bool} (h : ET K tt ρ b) (h1 : b = true → EV K ta ρ d1) (h2 : b = false → EV K tb ρ d2) : EV K (tIf tt ta tb) ρ (if b = true then d1 else d2) := by
  cases b with
  | true => exact ev_if h (fun _ => h1 rfl) (fun z => nomatch z)
  | false => exact ev_if h (fun z => nomatch z) (fun _ => h2 rfl)
end

/-! ### statements -/
inductive Oc where
  | nx (ρ : List Sl)
  | rt (d : D)
  | bk (ρ : List Sl)
  | ct (ρ : List Sl)
  /-- an exception of the class at C leaves, with these fields -/
  | ex (C : Addr) (fl : List (Str × D))
/-- the ends keep P -/
structure Fin (K : PySem.W.Frag) (Ex : XK) (G0 H0 : Hp) (P : Oc → Prop) (D : Ends) : Prop where
  nx : ∀ ρ' σ' G' H', P (.nx ρ') → En K G0 H0 G' H' σ' ρ' → D.nx σ' H'
  rt : ∀ d v G' H', P (.rt d) → Ext G0 H0 G' H' → Dq K G' v d → D.rt v H'
  bk : ∀ ρ' σ' G' H', P (.bk ρ') → En K G0 H0 G' H' σ' ρ' → D.bk σ' H'
  ct : ∀ ρ' σ' G' H', P (.ct ρ') → En K G0 H0 G' H' σ' ρ' → D.ct σ' H'
  ex : ∀ C fl dd fs G' H', P (.ex C fl) → Ext G0 H0 G' H' → G' dd = some (.xd fs) → DqF K G' fs fl → Ex (.ref C) (some dd) H'
def ST (K : PySem.W.Frag) (Ex : XK) (ts : TS) (ρ : List Sl) (P : Oc → Prop) : Prop := ∀ (G0 H0 G H : Hp) (σ : St) (D : Ends), En K G0 H0 G H σ ρ → Fin K Ex G0 H0 P D → ts D σ H
section
variable {K : PySem.W.Frag} {Ex : XK} {ρ : List Sl} {ta tb te : TE} {tt tu : TT} {d d1 d2 : D} {t u : TS} {P P' : Oc → Prop}
theorem Fin.mono {G0 H0 : Hp} {D : Ends} (f : Fin K Ex G0 H0 P' D) (k : ∀ o, P o → P' o) : Fin K Ex G0 H0 P D :=
  ⟨fun _ _ _ _ p => f.nx _ _ _ _ (k _ p), fun _ _ _ _ p => f.rt _ _ _ _ (k _ p), fun _ _ _ _ p => f.bk _ _ _ _ (k _ p), fun _ _ _ _ p => f.ct _ _ _ _ (k _ p), fun _ _ _ _ _ _ p => f.ex _ _ _ _ _ _ (k _ p)⟩
theorem ST.mono (h : ST K Ex t ρ P) (k : ∀ o, P o → P' o) : ST K Ex t ρ P' := fun G0 H0 G H σ D E f => h G0 H0 G H σ D E (f.mono k)
def seqP (K : PySem.W.Frag) (Ex : XK) (u : TS) (P : Oc → Prop) : Oc → Prop
  | .nx ρ => ST K Ex u ρ P
  | o => P o
theorem st_seq (h : ST K Ex t ρ (seqP K Ex u P)) : ST K Ex (tSeq t u) ρ P := fun G0 H0 G H σ D E f =>
  h G0 H0 G H σ { D with nx := u D } E ⟨fun ρ' σ' G' H' p E' => p G0 H0 G' H' σ' D E' f, f.rt, f.bk, f.ct, f.ex⟩
theorem st_next (h : P (.nx ρ)) : ST K Ex tNext ρ P := fun G0 H0 G H σ D E f => f.nx ρ σ G H h E
theorem st_break (h : P (.bk ρ)) : ST K Ex tBreak ρ P := fun G0 H0 G H σ D E f => f.bk ρ σ G H h E
theorem st_cont (h : P (.ct ρ)) : ST K Ex tCont ρ P := fun G0 H0 G H σ D E f => f.ct ρ σ G H h E
theorem st_asg {i : Nat} (h : EV K te ρ d) (q : P (.nx (ρ.set i (.fr d)))) : ST K Ex (tAsg te (gName i)) ρ P := fun G0 H0 G H σ D E f =>
  h G0 H0 G H σ _ E fun v G' H' x hd => f.nx _ _ G' H' q ((E.go x).setF i hd)
theorem st_asgN {i : Nat} (h : EVN K te ρ d) (q : P (.nx (ρ.set i (.ow d)))) : ST K Ex (tAsg te (gName i)) ρ P := fun G0 H0 G H σ D E f =>
  h G0 H0 G H σ _ E fun l G' H' x hH hG ho => f.nx _ _ G' H' q (E.setN i x hH hG ho)
theorem st_drop (h : EV K te ρ d) (q : P (.nx ρ)) : ST K Ex (tDrop te) ρ P := fun G0 H0 G H σ D E f =>
  h G0 H0 G H σ _ E fun v G' H' x hd => f.nx _ _ G' H' q (E.go x)
theorem st_ret (h : EV K te ρ d) (q : P (.rt d)) : ST K Ex (tRet te) ρ P := fun G0 H0 G H σ D E f =>
  h G0 H0 G H σ _ E fun v G' H' x hd => f.rt d v G' H' q (E.go x).ext hd
theorem st_retN (q : P (.rt .none)) : ST K Ex tRetN ρ P := fun G0 H0 G H σ D E f => f.rt .none .non G H q E.ext .non
theorem st_if {b : Bool} (h : ET K tt ρ b) (h1 : b = true → ST K Ex t ρ P) (h2 : b = false → ST K Ex u ρ P) : ST K Ex (tIfS tt t u) ρ P := fun G0 H0 G H σ D E f =>
  h G0 H0 G H σ _ E fun G' H' x => by
    cases b with
    | true => exact h1 rfl G0 H0 G' H' σ D (E.go x) f
    | false => exact h2 rfl G0 H0 G' H' σ D (E.go x) f
theorem st_yes (h : ET K tt ρ true) (h1 : ST K Ex t ρ P) : ST K Ex (tIfS tt t u) ρ P := st_if h (fun _ => h1) (fun z => nomatch z)
theorem st_no (h : ET K tt ρ false) (h1 : ST K Ex u ρ P) : ST K Ex (tIfS tt t u) ρ P := st_if h (fun z => nomatch z) (fun _ => h1)
/-- the owned list of slot i is frozen from here on -/
theorem st_frz {i : Nat} (hi : ρ[i]? = some (.ow d)) (h : ST K Ex t (ρ.set i (.fr d)) P) : ST K Ex t ρ P := fun G0 H0 G H σ D E f => by
  obtain ⟨G', E'⟩ := E.freeze hi
  exact h G0 H0 G' H σ D E' f
theorem st_forget {ρ' : List Sl} (hl : ρ'.length = ρ.length) (hf : ∀ (i : Nat) (s : Sl), ρ'[i]? = some s → s = Sl.no ∨ ρ[i]? = some s) (h : ST K Ex t ρ' P) : ST K Ex t ρ P := fun G0 H0 G H σ D E f =>
  h G0 H0 G H σ D (E.drop hl hf) f

/-! ### targets -/
/-- the slots ts take what d is made of; ρ' behind it -/
def GT (K : PySem.W.Frag) (g : TG) (ρ : List Sl) (d : D) (ρ' : List Sl) (ts : List Nat) : Prop := ∀ (G0 H0 G H : Hp) (σ : St) (v : V) (Q : St → Hp → Prop), En K G0 H0 G H σ ρ → Dq K G v d →
  (∀ σ', En K G0 H0 G H σ' ρ' → σ'.length = σ.length → (∀ k, k ∉ ts → σ'[k]? = σ[k]?) → Q σ' H) → g v σ H Q
def GTs (K : PySem.W.Frag) (g : TGs) (ρ : List Sl) (ds : List D) (ρ' : List Sl) (ts : List Nat) : Prop := ∀ (G0 H0 G H : Hp) (σ : St) (vs : List V) (Q : St → Hp → Prop), En K G0 H0 G H σ ρ → DqA K G vs ds →
  (∀ σ', En K G0 H0 G H σ' ρ' → σ'.length = σ.length → (∀ k, k ∉ ts → σ'[k]? = σ[k]?) → Q σ' H) → g vs σ H Q
theorem gt_name {i : Nat} : GT K (gName i) ρ d (ρ.set i (.fr d)) [i] := fun G0 H0 G H σ v Q E hd q =>
  q _ (E.setF i hd) (by rw [List.length_set]) fun k hk => List.getElem?_set_ne (by simpa using fun e => hk (by simp [e]))
theorem gts_nil : GTs K gNil ρ [] ρ [] := fun G0 H0 G H σ vs Q E hd q => by
  cases hd
  exact ⟨rfl, q σ E rfl fun _ _ => rfl⟩
theorem gts_cons {g : TG} {gs : TGs} {ρ1 ρ2 : List Sl} {ds : List D} {ts us : List Nat} (h : GT K g ρ d ρ1 ts) (h2 : GTs K gs ρ1 ds ρ2 us) : GTs K (gCons g gs) ρ (d :: ds) ρ2 (ts ++ us) := fun G0 H0 G H σ vs Q E hd q => by
  cases hd with
  | cons a b => exact ⟨_, _, rfl, h G0 H0 G H σ _ _ E a fun σ1 E1 l1 k1 => h2 G0 H0 G H σ1 _ Q E1 b fun σ2 E2 l2 k2 => q σ2 E2 (l2.trans l1) fun k hk => (k2 k fun z => hk (List.mem_append_right _ z)).trans (k1 k fun z => hk (List.mem_append_left _ z))⟩
theorem gt_tup {gs : TGs} {ρ' : List Sl} {ds : List D} {ts : List Nat} {n : Nat} (hn : ds.length = n) (h : GTs K gs ρ ds ρ' ts) : GT K (gTup K n gs) ρ (.tuple ds) ρ' ts := fun G0 H0 G H σ v Q E hd q => by
  cases hd with
  | tup a b => exact ⟨_, _, rfl, E.gh.t a, b.length.trans hn, h G0 H0 G H σ _ Q E b q⟩
theorem st_asgG {g : TG} {ρ' : List Sl} {ts : List Nat} (h : EV K te ρ d) (hg : GT K g ρ d ρ' ts) (q : P (.nx ρ')) : ST K Ex (tAsg te g) ρ P := fun G0 H0 G H σ D E f =>
  h G0 H0 G H σ _ E fun v G' H' x hd => hg G0 H0 G' H' σ v _ (E.go x) hd fun σ' E' _ _ => f.nx _ _ G' H' q E'

/-! ### what is walked -/
def EI (K : PySem.W.Frag) (wi : TI) (ρ : List Sl) (n : Nat) (item : Nat → D) : Prop := ∀ (G0 H0 G H : Hp) (σ : St) (R : It → Hp → Prop), En K G0 H0 G H σ ρ →
  (∀ J G' H' Gd Y, Ext G H G' H' → Walk J n Gd Y → (∀ G2 H2, (∀ a o, G' a = some o → G2 a = some o) → GH G2 H2 → Gd H2) →
    (∀ i G2 H2 x H3, i < n → (∀ a o, G' a = some o → G2 a = some o) → GH G2 H2 → Y i H2 x H3 → ∃ G3, Ext G2 H2 G3 H3 ∧ Dq K G3 x (item i)) → R J H') → wi σ H R
/-- the ends of a loop's turn -/
def loopP (Q : List Sl → Prop) (P : Oc → Prop) : Oc → Prop
  | .nx ρ => Q ρ
  | .ct ρ => Q ρ
  | .bk ρ => P (.nx ρ)
  | .rt d => P (.rt d)
  | .ex C fl => P (.ex C fl)
theorem st_for {wi : TI} {g : TG} {n : Nat} {item : Nat → D} (hi : EI K wi ρ n item) (I : Nat → List Sl → Prop) (h0 : I 0 ρ)
    (hs : ∀ i ρ1, i < n → I i ρ1 → ∃ ρ2 ts, GT K g ρ1 (item i) ρ2 ts ∧ ST K Ex t ρ2 (loopP (I (i + 1)) P))
    (hd : ∀ ρ1, I n ρ1 → P (.nx ρ1)) : ST K Ex (tFor wi g t) ρ P := fun G0 H0 G H σ D E f =>
  hi G0 H0 G H σ _ E fun J G1 H1 Gd Y x w hG hY => by
    have E1 := E.go x
    refine for_it w (fun i σ' H' => ∃ G' ρ', En K G1 H0 G' H' σ' ρ' ∧ I i ρ') ⟨G1, ρ, E1.re, h0⟩ (fun i σ' H' _ ⟨G', ρ', E', _⟩ => hG G' H' E'.ext.gg E'.gh) (fun i y σ' H' H3 hi ⟨G', ρ', E', p⟩ hy => ?_) (fun σ' H' ⟨G', ρ', E', p⟩ => f.nx ρ' σ' G' H' (hd ρ' p) (E'.back E1.ext))
    obtain ⟨G3, x3, hdq⟩ := hY i G' H' y H3 hi E'.ext.gg E'.gh hy
    obtain ⟨ρ2, ts, hg, hb⟩ := hs i ρ' hi p
    exact hg G1 H0 G3 H3 σ' y _ (E'.go x3) hdq fun σ2 E2 _ _ => hb G1 H0 G3 H3 σ2 _ E2 ⟨fun ρ4 σ4 G4 H4 p4 E4 => ⟨G4, ρ4, E4, p4⟩,
      fun d v G4 H4 p4 x4 hd4 => f.rt d v G4 H4 p4 (E1.ext.back x4) hd4, fun ρ4 σ4 G4 H4 p4 E4 => f.nx ρ4 σ4 G4 H4 p4 (E4.back E1.ext), fun ρ4 σ4 G4 H4 p4 E4 => ⟨G4, ρ4, E4, p4⟩,
      fun C fl dd fs G4 H4 p4 x4 h1 h2 => f.ex C fl dd fs G4 H4 p4 (E1.ext.back x4) h1 h2⟩
theorem st_while {I : Nat → List Sl → Prop} (m : Nat) (h0 : I m ρ)
    (hs : ∀ m ρ1, I m ρ1 → ∃ b, ET K tt ρ1 b ∧ (b = true → ST K Ex t ρ1 (loopP (fun ρ3 => ∃ m', m' < m ∧ I m' ρ3) P)) ∧ (b = false → P (.nx ρ1))) : ST K Ex (tWhile tt t) ρ P := fun G0 H0 G H σ D E f => by
  refine ⟨fun m σ' H' => ∃ G' ρ', En K G0 H0 G' H' σ' ρ' ∧ I m ρ', ⟨m, G, ρ, E, h0⟩, fun m σ' H' ⟨G', ρ', E', p⟩ => ?_⟩
  obtain ⟨b, hb, h1, h2⟩ := hs m ρ' p
  refine hb G0 H0 G' H' σ' _ E' fun G2 H2 x => ?_
  cases b with
  | false => exact f.nx ρ' σ' G2 H2 (h2 rfl) (E'.go x)
  | true =>
    refine ⟨fun σ3 H3 => ∃ m', m' < m ∧ ∃ G3 ρ3, En K G0 H0 G3 H3 σ3 ρ3 ∧ I m' ρ3, fun σ3 H3 ⟨m', lt, q⟩ => ⟨m', lt, q⟩, ?_⟩
    exact h1 rfl G0 H0 G2 H2 σ' _ (E'.go x) ⟨fun ρ4 σ4 G4 H4 ⟨m', lt, p4⟩ E4 => ⟨m', lt, G4, ρ4, E4, p4⟩, f.rt, fun ρ4 σ4 G4 H4 p4 E4 => f.nx ρ4 σ4 G4 H4 p4 E4, fun ρ4 σ4 G4 H4 ⟨m', lt, p4⟩ E4 => ⟨m', lt, G4, ρ4, E4, p4⟩, f.ex⟩
end
end DL

/-! DL3: operators, comparisons, subscripts, built-ins, by data. -/
namespace DL
open PySem L2

/-! ### + -/
def rAddU (K : PySem.W.Frag) : R2 := fun x y H Q => rI0 (fun i j => .int (i + j)) x y H Q ∨ (fun x y H Q => (∃ i j, x = .str i ∧ y = .str j ∧ i.length + j.length ≤ sizeLine ∧ Q (.str (i ++ j)) H) ∨ (fun x y H Q => rCat x y H Q ∨ rCatA K x y H Q) x y H Q) x y H Q
theorem op_addU {X : Cx} : OpR X (binaryOp .Add) (rAddU X.K) := op_add.or (op_add_str.or (op_cat.or op_catA))
section
variable {K : PySem.W.Frag} {ρ : List Sl} {ta tb te : TE} {i j : Int}
theorem od_addI : OD K (rAddU K) (.int i) (.int j) (.int (i + j)) := fun x y G H Q g hx hy q => by
  cases hx; cases hy
  exact .inl ⟨i, j, rfl, rfl, q _ G H (.refl g) (.int _)⟩
theorem od_addS {a b : Str} (h : a.length + b.length ≤ sizeLine) : OD K (rAddU K) (.str a) (.str b) (.str (a ++ b)) := fun x y G H Q g hx hy q => by
  cases hx; cases hy
  exact .inr (.inl ⟨a, b, rfl, rfl, h, q _ G H (.refl g) (.str _)⟩)
theorem on_addL {a b : List D} (h : a.length + b.length ≤ sizeLine) : ON K (rAddU K) (.list a) (.list b) (.list (a ++ b)) := fun x y G H Q g hx hy q => by
  cases hx with
  | lst ha ra => cases hy with
    | lst hb rb =>
      refine .inr (.inr (.inl ⟨_, _, _, _, rfl, rfl, g.lst ha, g.lst hb, by rw [ra.length, rb.length]; exact h, fun p hp => ?_⟩))
      exact q p G _ (.fresh g hp) hp (g.none hp) (.lst upd_same (ra.append rb))
theorem od_addT {a b : List D} (h : a.length + b.length ≤ sizeLine) : OD K (rAddU K) (.tuple a) (.tuple b) (.tuple (a ++ b)) := fun x y G H Q g hx hy q => by
  cases hx with
  | tup ha ra => cases hy with
    | tup hb rb =>
      refine .inr (.inr (.inr ⟨_, _, _, _, rfl, rfl, g.t ha, g.t hb, by rw [ra.length, rb.length]; exact h, fun e => ?_, fun n e => ?_, fun n1 n2 p hp => ?_⟩))
      · subst e
        cases ra
        exact q _ G H (.refl g) (.tup hb rb)
      · subst e
        cases rb
        rw [List.append_nil] at q
        exact q _ G H (.refl g) (.tup ha ra)
      · have rr := ra.append rb
        exact q _ _ _ (Ext.new g hp) (.tup (SqT.of upd_same) (rr.mono (Ext.new g hp).g))
/-! ### -, *, //, %, ** -/
abbrev rSubU : R2 := rI0 fun i j => .int (i - j)
theorem od_sub : OD K rSubU (.int i) (.int j) (.int (i - j)) := fun x y G H Q g hx hy q => by
  cases hx; cases hy
  exact ⟨i, j, rfl, rfl, q _ G H (.refl g) (.int _)⟩
abbrev rModU : R2 := rI (fun _ j => 0 < j) fun i j => .int (i % j)
theorem od_mod (h : 0 < j) : OD K rModU (.int i) (.int j) (.int (i % j)) := fun x y G H Q g hx hy q => by
  cases hx; cases hy
  exact ⟨i, j, rfl, rfl, h, q _ G H (.refl g) (.int _)⟩
abbrev rDivU : R2 := rI CDiv fun i j => .int (i / j)
theorem od_div (h : 0 < j ∧ j < 1073741824) : OD K rDivU (.int i) (.int j) (.int (i / j)) := fun x y G H Q g hx hy q => by
  cases hx; cases hy
  exact ⟨i, j, rfl, rfl, h, q _ G H (.refl g) (.int _)⟩
abbrev rPowU : R2 := rI CPow fun i j => .int (i ^ j.toNat)
theorem od_pow (h : 0 ≤ j ∧ j ≤ 1000000 ∧ i.natAbs < 2 ^ 64) : OD K rPowU (.int i) (.int j) (.int (i ^ j.toNat)) := fun x y G H Q g hx hy q => by
  cases hx; cases hy
  exact ⟨i, j, rfl, rfl, h, q _ G H (.refl g) (.int _)⟩
/-- k times the text -/
def repS (z : Str) (k : Int) : Str := ⟨(List.replicate k.toNat z.cps.toList).flatten.toArray⟩
theorem foldl_reps (a : List Nat) : ∀ (m : Nat) (b : List Nat), List.foldl (fun x1 x2 => x1 ++ x2) b.toArray (List.replicate m a.toArray) = (b ++ (List.replicate m a).flatten).toArray
  | 0, b => by simp
  | m + 1, b => by
    rw [List.replicate_succ, List.foldl_cons]
    have e : b.toArray ++ a.toArray = (b ++ a).toArray := by simp
    rw [e, foldl_reps a m (b ++ a), List.replicate_succ, List.flatten_cons, List.append_assoc]
def rMulS : R2 := fun x y H Q => ∃ z k, x = .str z ∧ y = .int k ∧ -(2 ^ 63) ≤ k ∧ k < 2 ^ 63 ∧ z.length * k.toNat ≤ sizeLine ∧ Q (.str (repS z k)) H
theorem op_mulS {X : Cx} : OpR X (binaryOp .Mult) rMulS := by
  intro pins s σ H x y v u Q I rx ry h
  obtain ⟨z, k, rfl, rfl, h1, h2, h3, q⟩ := h
  obtain ⟨t, rfl⟩ := rx
  obtain ⟨t', rfl⟩ := ry
  have hs : (sizeLine : Nat) = 16777216 := sizeLine_eq
  refine PySem.P.mul_str ?_ ?_ ?_ ?_
  · rw [decide_eq_false (by omega), decide_eq_false (by omega)]; rfl
  · intro a b c
    have hk : 1 ≤ k := by omega
    have hz : z.length ≠ 0 := by
      intro e
      rw [e] at b
      simp at b
    have h4 : (z.length : Int) * k ≤ 16777216 := by
      have : ((z.length * k.toNat : Nat) : Int) ≤ 16777216 := by omega
      rw [Int.natCast_mul] at this
      have e : ((k.toNat : Nat) : Int) = k := by omega
      rw [e] at this
      exact this
    have h5 : (z.length : Int) ≤ (2 ^ 63 - 1) / k := by
      rw [Int.le_ediv_iff_mul_le (by omega)]
      omega
    omega
  · intro a b
    unfold PySem.Builtin.Str.tooLong
    rw [sizeLine_eq] at h3
    simp only [decide_eq_false_iff_not, gt_iff_lt, Nat.not_lt, sizeLine_eq]
    omega
  · by_cases a : k < 1
    · rw [if_pos a]
      have e : repS z k = Str.empty := by
        unfold repS
        have : k.toNat = 0 := by omega
        rw [this]
        rfl
      rw [e] at q
      exact ⟨by decide, .str _, H, I.tok _, ⟨_, rfl⟩, q⟩
    · rw [if_neg a]
      by_cases b : (k == 1 || z.length == 0) = true
      · rw [if_pos b]
        have e : repS z k = z := by
          unfold repS
          cases z with
          | mk cps =>
          rcases Bool.or_eq_true_iff.mp b with b | b
          · have : k.toNat = 1 := by
              have := eq_of_beq b
              omega
            rw [this]
            simp
          · have e : cps.size = 0 := eq_of_beq b
            have e2 : cps = #[] := Array.eq_empty_of_size_eq_zero e
            subst e2
            simp
        rw [e] at q
        exact ⟨.str z, H, I, ⟨_, rfl⟩, q⟩
      · rw [if_neg b]
        have e : repS z k = ⟨(List.replicate k.toNat z.cps).foldl (· ++ ·) #[]⟩ := by
          unfold repS
          congr 1
          have := foldl_reps z.cps.toList k.toNat []
          rw [List.nil_append] at this
          rw [← this]
        rw [e] at q
        refine ⟨?_, .str _, H, I.tok _, ⟨_, rfl⟩, q⟩
        have : (repS z k).length ≤ sizeLine := by
          unfold repS Str.length
          rw [List.size_toArray]
          have : ∀ m : Nat, ((List.replicate m z.cps.toList).flatten).length = m * z.cps.toList.length := fun m => by
            induction m with
            | zero => simp
            | succ m ih => rw [List.replicate_succ, List.flatten_cons, List.length_append, ih, Nat.succ_mul]; omega
          rw [this, Nat.mul_comm]
          exact h3
        rw [e] at this
        exact this
end
end DL

/-! DL4: *, comparisons, in, subscripts, slices, len, isinstance, join, index, int, iteration, comprehensions. -/
namespace DL
open PySem L2

def rMulU : R2 := fun x y H Q => rI CMul (fun i j => .int (i * j)) x y H Q ∨ (fun x y H Q => rMulS x y H Q ∨ rRep x y H Q) x y H Q
theorem op_mulU {X : Cx} : OpR X (binaryOp .Mult) rMulU := op_mul.or (op_mulS.or op_rep)
section
variable {K : PySem.W.Frag} {ρ : List Sl} {ta tb te : TE} {i j : Int} {d d1 d2 : D}
theorem od_mulI (h : CMul i j) : OD K rMulU (.int i) (.int j) (.int (i * j)) := fun x y G H Q g hx hy q => by
  cases hx; cases hy
  exact .inl ⟨i, j, rfl, rfl, h, q _ G H (.refl g) (.int _)⟩
theorem od_mulS {z : Str} (h1 : -(2 ^ 63) ≤ j) (h2 : j < 2 ^ 63) (h : z.length * j.toNat ≤ sizeLine) : OD K rMulU (.str z) (.int j) (.str (repS z j)) := fun x y G H Q g hx hy q => by
  cases hx; cases hy
  exact .inr (.inl ⟨z, j, rfl, rfl, h1, h2, h, q _ G H (.refl g) (.str _)⟩)
theorem DqA.rep {G : Hp} {vs : List V} {ds : List D} (h : DqA K G vs ds) : ∀ m : Nat, DqA K G (List.replicate m vs).flatten (List.replicate m ds).flatten
  | 0 => .nil
  | m + 1 => by
    rw [List.replicate_succ, List.replicate_succ, List.flatten_cons, List.flatten_cons]
    exact h.append (DqA.rep h m)
theorem on_mulL {ds : List D} (h1 : -(2 ^ 63) ≤ j) (h2 : j < 2 ^ 63) (h : ds.length * j.toNat ≤ sizeLine) : ON K rMulU (.list ds) (.int j) (.list (List.replicate j.toNat ds).flatten) := fun x y G H Q g hx hy q => by
  cases hy
  cases hx with
  | lst ha ra =>
    refine .inr (.inr ⟨_, _, _, rfl, rfl, g.lst ha, h1, h2, by rw [ra.length]; exact h, fun p hp => ?_⟩)
    exact q p G _ (.fresh g hp) hp (g.none hp) (.lst upd_same (ra.rep _))

/-! ### comparisons -/
def rCmpU (p : Int → Int → Bool) (s : List Nat → List Nat → Bool) : R2 := fun x y H Q => rI0 (fun i j => .bl (p i j)) x y H Q ∨ (∃ a b, x = .str a ∧ y = .str b ∧ Q (.bl (s a.cps.toList b.cps.toList)) H)
abbrev rLtU : R2 := rCmpU (fun i j => decide (i < j)) fun a b => decide (a < b)
abbrev rLeU : R2 := rCmpU (fun i j => decide (i ≤ j)) fun a b => !decide (b < a)
abbrev rGtU : R2 := rCmpU (fun i j => decide (j < i)) fun a b => decide (b < a)
abbrev rGeU : R2 := rCmpU (fun i j => decide (j ≤ i)) fun a b => !decide (a < b)
theorem op_ltU {X : Cx} : OpR X (compareOp .Lt) rLtU := op_lt.or op_lt_str
theorem op_leU {X : Cx} : OpR X (compareOp .LtE) rLeU := op_le.or op_le_str
theorem op_gtU {X : Cx} : OpR X (compareOp .Gt) rGtU := op_gt.or op_gt_str
theorem op_geU {X : Cx} : OpR X (compareOp .GtE) rGeU := op_ge.or op_ge_str
theorem od_cmpI {p : Int → Int → Bool} {s : List Nat → List Nat → Bool} : OD K (rCmpU p s) (.int i) (.int j) (.bool (p i j)) := fun x y G H Q g hx hy q => by
  cases hx; cases hy
  exact .inl ⟨i, j, rfl, rfl, q _ G H (.refl g) (.bl _)⟩
theorem od_cmpS {p : Int → Int → Bool} {s : List Nat → List Nat → Bool} {a b : Str} : OD K (rCmpU p s) (.str a) (.str b) (.bool (s a.cps.toList b.cps.toList)) := fun x y G H Q g hx hy q => by
  cases hx; cases hy
  exact .inr ⟨a, b, rfl, rfl, q _ G H (.refl g) (.bl _)⟩
/-! data without dicts, as the library's == reads it -/
mutual
theorem canLay_dp {K : PySem.W.Frag} {G H : Hp} (g : GH G H) : ∀ (d : D) (v : V), d.canLay0 = true → Dq K G v d → Dp K H v d
  | .none, _, _, h => by cases h; exact .non
  | .bool b, _, _, h => by cases h; exact .bl b
  | .int i, _, _, h => by cases h; exact .int i
  | .str s, _, _, h => by cases h; exact .str s
  | .list ds, _, c, h => by cases h with | lst a b => exact .lst (SqL.of (g.lst a)) (canLayA_dp g ds _ (by simpa only [PyData.canLay0] using c) b)
  | .tuple ds, _, c, h => by cases h with | tup a b => exact .tup (g.t a) (canLayA_dp g ds _ (by simpa only [PyData.canLay0] using c) b)
  | .dict kvs, _, c, h => by simp [PyData.canLay0] at c
theorem canLayA_dp {K : PySem.W.Frag} {G H : Hp} (g : GH G H) : ∀ (ds : List D) (vs : List V), PyData.canLayAll0 ds = true → DqA K G vs ds → DpAll K H vs ds
  | [], _, _, h => by cases h; exact .nil
  | d :: ds, _, c, h => by
    rw [PyData.canLayAll0, Bool.and_eq_true] at c
    cases h with
    | cons a b => exact .cons (canLay_dp g d _ c.1 a) (canLayA_dp g ds _ c.2 b)
end
def rEqU (K : PySem.W.Frag) : R2 := fun x y H Q => rEq x y H Q ∨ rEqD K x y H Q
def rNeU (K : PySem.W.Frag) : R2 := fun x y H Q => rNe x y H Q ∨ rNeD K x y H Q
theorem op_eqU {X : Cx} (hu : X.A.units + 64 < cLine) : OpR X (compareOp .Eq) (rEqU X.K) := op_eq.or (op_eqD hu)
theorem op_neU {X : Cx} (hu : X.A.units + 64 < cLine) : OpR X (compareOp .NotEq) (rNeU X.K) := op_ne.or (op_neD hu)
theorem od_eqI : OD K (rEqU K) (.int i) (.int j) (.bool (decide (i = j))) := fun x y G H Q g hx hy q => by
  cases hx; cases hy
  refine .inl ⟨rfl, ?_⟩
  have e : decide (V.int i = V.int j) = decide (i = j) := by simp
  rw [e]
  exact q _ G H (.refl g) (.bl _)
theorem od_eqS {a b : Str} : OD K (rEqU K) (.str a) (.str b) (.bool (decide (a = b))) := fun x y G H Q g hx hy q => by
  cases hx; cases hy
  refine .inl ⟨rfl, ?_⟩
  have e : decide (V.str a = V.str b) = decide (a = b) := by simp
  rw [e]
  exact q _ G H (.refl g) (.bl _)
theorem od_eqB {a b : Bool} : OD K (rEqU K) (.bool a) (.bool b) (.bool (decide (a = b))) := fun x y G H Q g hx hy q => by
  cases hx; cases hy
  refine .inl ⟨rfl, ?_⟩
  have e : decide (V.bl a = V.bl b) = decide (a = b) := by simp
  rw [e]
  exact q _ G H (.refl g) (.bl _)
theorem od_neI : OD K (rNeU K) (.int i) (.int j) (.bool (!decide (i = j))) := fun x y G H Q g hx hy q => by
  cases hx; cases hy
  refine .inl ⟨rfl, ?_⟩
  have e : decide (V.int i = V.int j) = decide (i = j) := by simp
  rw [e]
  exact q _ G H (.refl g) (.bl _)
theorem od_neS {a b : Str} : OD K (rNeU K) (.str a) (.str b) (.bool (!decide (a = b))) := fun x y G H Q g hx hy q => by
  cases hx; cases hy
  refine .inl ⟨rfl, ?_⟩
  have e : decide (V.str a = V.str b) = decide (a = b) := by simp
  rw [e]
  exact q _ G H (.refl g) (.bl _)
theorem od_neB {a b : Bool} : OD K (rNeU K) (.bool a) (.bool b) (.bool (!decide (a = b))) := fun x y G H Q g hx hy q => by
  cases hx; cases hy
  refine .inl ⟨rfl, ?_⟩
  have e : decide (V.bl a = V.bl b) = decide (a = b) := by simp
  rw [e]
  exact q _ G H (.refl g) (.bl _)
theorem od_eqD {a b : D} (ha : SeqAt.shaped a = true) (hb : SeqAt.shaped b = true) : OD K (rEqU K) a b (.bool (PyData.eqv a b)) := fun x y G H Q g hx hy q =>
  .inr ⟨a, b, canLay_dp g a x (SeqAt.canLay_of_shaped ha) hx, canLay_dp g b y (SeqAt.canLay_of_shaped hb) hy, ha, hb, q _ G H (.refl g) (.bl _)⟩
theorem od_neD {a b : D} (ha : SeqAt.shaped a = true) (hb : SeqAt.shaped b = true) : OD K (rNeU K) a b (.bool (!PyData.eqv a b)) := fun x y G H Q g hx hy q =>
  .inr ⟨a, b, canLay_dp g a x (SeqAt.canLay_of_shaped ha) hx, canLay_dp g b y (SeqAt.canLay_of_shaped hb) hy, ha, hb, q _ G H (.refl g) (.bl _)⟩
def isNoneD : D → Bool
  | .none => true
  | _ => false
theorem isNone_dq {G : Hp} {v : V} {d : D} (h : Dq K G v d) : decide (v = .non) = isNoneD d := by cases h <;> rfl
theorem ev_isN (h : EV K ta ρ d) : EV K (tIsN ta) ρ (.bool (isNoneD d)) := fun G0 H0 G H σ Q E q => h G0 H0 G H σ _ E fun v G1 H1 e1 h1 => by
  rw [isNone_dq h1]
  exact q _ G1 H1 e1 (.bl _)
theorem ev_notN (h : EV K ta ρ d) : EV K (tNotN ta) ρ (.bool (!isNoneD d)) := fun G0 H0 G H σ Q E q => h G0 H0 G H σ _ E fun v G1 H1 e1 h1 => by
  rw [isNone_dq h1]
  exact q _ G1 H1 e1 (.bl _)
theorem od_isB {a b : Bool} : OD K rIsB (.bool a) (.bool b) (.bool (decide (a = b))) := fun x y G H Q g hx hy q => by
  cases hx; cases hy
  exact ⟨a, b, rfl, rfl, q _ G H (.refl g) (.bl _)⟩
theorem od_notB {a b : Bool} : OD K rNotB (.bool a) (.bool b) (.bool (!decide (a = b))) := fun x y G H Q g hx hy q => by
  cases hx; cases hy
  exact ⟨a, b, rfl, rfl, q _ G H (.refl g) (.bl _)⟩
/-- a < b < c -/
theorem ev_chain {r r' : R2} {tc : TE} {d3 : D} {b1 b2 : Bool} (ha : EV K ta ρ d1) (hb : EV K tb ρ d2) (ho : OD K r d1 d2 (.bool b1)) (hc : b1 = true → EV K tc ρ d3) (ho' : b1 = true → OD K r' d2 d3 (.bool b2)) : EV K (tChain r r' ta tb tc) ρ (.bool (b1 && b2)) := fun G0 H0 G H σ Q E q =>
  ha G0 H0 G H σ _ E fun x G1 H1 e1 h1 => hb G0 H0 G1 H1 σ _ (E.go e1) fun y G2 H2 e2 h2 => ho x y G2 H2 _ e2.gh (h1.mono e2.g) h2 fun z G3 H3 e3 h3 => by
    cases h3
    refine ⟨b1, rfl, ?_⟩
    cases b1 with
    | false => exact q _ G3 H3 ((e1.trans e2).trans e3) (.bl false)
    | true => exact hc rfl G0 H0 G3 H3 σ _ (((E.go e1).go e2).go e3) fun w G4 H4 e4 h4 => ho' rfl y w G4 H4 Q e4.gh ((h2.mono e3.g).mono e4.g) h4 fun v G5 H5 e5 h5 => q v G5 H5 ((((e1.trans e2).trans e3).trans e4).trans e5) h5

/-! ### in -/
def flatD : D → Bool
  | .none | .bool _ | .int _ | .str _ => true
  | _ => false
def inD (d : D) (ds : List D) : Bool := ds.any fun e => PyData.eqv e d
theorem flat_dq {G : Hp} {v : V} {d : D} (h : Dq K G v d) (f : flatD d = true) : flatV v = true := by cases h <;> first | rfl | exact absurd f Bool.false_ne_true
theorem flatA_dq {G : Hp} : ∀ {ds : List D} {vs : List V}, DqA K G vs ds → ds.all flatD = true → vs.all flatV = true
  | [], _, h, _ => by cases h; rfl
  | d :: ds, _, h, f => by
    cases h with
    | cons a b =>
      rw [List.all_cons, Bool.and_eq_true] at f
      rw [List.all_cons, flat_dq a f.1, flatA_dq b f.2]
      rfl
theorem eq_dq {G : Hp} {v u : V} {d e : D} (h : Dq K G v d) (h' : Dq K G u e) (f : flatD d = true) (f' : flatD e = true) : eqV v u = PyData.eqv d e := by
  cases h <;> cases h' <;> first | rfl | exact absurd f Bool.false_ne_true | exact absurd f' Bool.false_ne_true | simp [eqV, PyData.eqv]
theorem in_dq {G : Hp} {v : V} {d : D} (h : Dq K G v d) (f : flatD d = true) : ∀ {ds : List D} {vs : List V}, DqA K G vs ds → ds.all flatD = true → inV v vs = inD d ds
  | [], _, h, _ => by cases h; rfl
  | e :: ds, _, h2, f2 => by
    cases h2 with
    | cons a b =>
      rw [List.all_cons, Bool.and_eq_true] at f2
      unfold inV inD
      rw [List.any_cons, List.any_cons, eq_dq a h f2.1 f]
      congr 1
      exact in_dq h f b f2.2
def rInU (K : PySem.W.Frag) : R2 := fun x y H Q => rIn K false x y H Q ∨ (fun x y H Q => (∃ (c : Nat) (z : Str), x = .str ⟨#[c]⟩ ∧ y = .str z ∧ Q (.bl (decide (c ∈ z.cps.toList))) H) ∨ (∃ i j, x = .str i ∧ y = .str j ∧ Q (.bl (!(Builtin.Str.occurrences j i 0 j.length 1).isEmpty)) H)) x y H Q
def rNinU (K : PySem.W.Frag) : R2 := fun x y H Q => rIn K true x y H Q ∨ (fun x y H Q => (∃ (c : Nat) (z : Str), x = .str ⟨#[c]⟩ ∧ y = .str z ∧ Q (.bl (!decide (c ∈ z.cps.toList))) H) ∨ (∃ i j, x = .str i ∧ y = .str j ∧ Q (.bl (!(!(Builtin.Str.occurrences j i 0 j.length 1).isEmpty))) H)) x y H Q
theorem op_inU {X : Cx} : OpR X (compareOp .In) (rInU X.K) := op_in_seq.or (op_in_sign.or op_in_str)
theorem op_ninU {X : Cx} : OpR X (compareOp .NotIn) (rNinU X.K) := op_notIn_seq.or (op_notIn_sign.or op_notin_str)
theorem od_inC {c : Nat} {z : Str} : OD K (rInU K) (.str ⟨#[c]⟩) (.str z) (.bool (decide (c ∈ z.cps.toList))) := fun x y G H Q g hx hy q => by
  cases hx; cases hy
  exact .inr (.inl ⟨c, z, rfl, rfl, q _ G H (.refl g) (.bl _)⟩)
theorem od_ninC {c : Nat} {z : Str} : OD K (rNinU K) (.str ⟨#[c]⟩) (.str z) (.bool (!decide (c ∈ z.cps.toList))) := fun x y G H Q g hx hy q => by
  cases hx; cases hy
  exact .inr (.inl ⟨c, z, rfl, rfl, q _ G H (.refl g) (.bl _)⟩)
theorem od_inT {ds : List D} (f : flatD d = true) (fs : ds.all flatD = true) : OD K (rInU K) d (.tuple ds) (.bool (inD d ds)) := fun x y G H Q g hx hy q => by
  cases hy with
  | tup a b => exact .inl ⟨_, _, rfl, .inr (g.t a), flat_dq hx f, flatA_dq b fs, by rw [in_dq hx f b fs]; exact q _ G H (.refl g) (.bl _)⟩
theorem od_ninT {ds : List D} (f : flatD d = true) (fs : ds.all flatD = true) : OD K (rNinU K) d (.tuple ds) (.bool (!inD d ds)) := fun x y G H Q g hx hy q => by
  cases hy with
  | tup a b => exact .inl ⟨_, _, rfl, .inr (g.t a), flat_dq hx f, flatA_dq b fs, by rw [in_dq hx f b fs]; exact q _ G H (.refl g) (.bl _)⟩
theorem od_inL {ds : List D} (f : flatD d = true) (fs : ds.all flatD = true) : OD K (rInU K) d (.list ds) (.bool (inD d ds)) := fun x y G H Q g hx hy q => by
  cases hy with
  | lst a b => exact .inl ⟨_, _, rfl, .inl (SqL.of (g.lst a)), flat_dq hx f, flatA_dq b fs, by rw [in_dq hx f b fs]; exact q _ G H (.refl g) (.bl _)⟩
theorem od_ninL {ds : List D} (f : flatD d = true) (fs : ds.all flatD = true) : OD K (rNinU K) d (.list ds) (.bool (!inD d ds)) := fun x y G H Q g hx hy q => by
  cases hy with
  | lst a b => exact .inl ⟨_, _, rfl, .inl (SqL.of (g.lst a)), flat_dq hx f, flatA_dq b fs, by rw [in_dq hx f b fs]; exact q _ G H (.refl g) (.bl _)⟩

/-! ### an owned list, looked at -/
theorem own_look {G0 H0 G H : Hp} {σ : St} {n : Nat} {ds : List D} (E : En K G0 H0 G H σ ρ) (hi : ρ[n]? = some (.ow (.list ds))) : ∃ l vs, σ[n]? = some (some (.ref l)) ∧ H l = some (.lst vs) ∧ DqA K G vs ds := by
  obtain ⟨l, h1, _, _, h4⟩ := E.ow n _ hi
  cases h4 with
  | lst a b => exact ⟨l, _, h1, a, b⟩
theorem own_lookG {G0 H0 G H : Hp} {σ : St} {n : Nat} {ds : List D} (E : En K G0 H0 G H σ ρ) (hi : ρ[n]? = some (.ow (.list ds))) : ∃ l vs, σ[n]? = some (some (.ref l)) ∧ H l = some (.lst vs) ∧ DqA K G vs ds ∧ G l = none := by
  obtain ⟨l, h1, _, h0, h4⟩ := E.ow n _ hi
  cases h4 with
  | lst a b => exact ⟨l, _, h1, a, b, h0⟩
theorem ev_inO {n : Nat} {ds : List D} (ha : EV K ta ρ d) (hi : ρ[n]? = some (.ow (.list ds))) (f : flatD d = true) (fs : ds.all flatD = true) : EV K (tOp (rInU K) ta (tVar n)) ρ (.bool (inD d ds)) := fun G0 H0 G H σ Q E q =>
  ha G0 H0 G H σ _ E fun x G1 H1 e1 hx => by
    obtain ⟨l, vs, h1, h2, h3⟩ := own_look (E.go e1) hi
    exact ⟨_, h1, .inl ⟨_, _, rfl, .inl (SqL.of h2), flat_dq hx f, flatA_dq h3 fs, by rw [in_dq hx f h3 fs]; exact q _ G1 H1 e1 (.bl _)⟩⟩
theorem ev_ninO {n : Nat} {ds : List D} (ha : EV K ta ρ d) (hi : ρ[n]? = some (.ow (.list ds))) (f : flatD d = true) (fs : ds.all flatD = true) : EV K (tOp (rNinU K) ta (tVar n)) ρ (.bool (!inD d ds)) := fun G0 H0 G H σ Q E q =>
  ha G0 H0 G H σ _ E fun x G1 H1 e1 hx => by
    obtain ⟨l, vs, h1, h2, h3⟩ := own_look (E.go e1) hi
    exact ⟨_, h1, .inl ⟨_, _, rfl, .inl (SqL.of h2), flat_dq hx f, flatA_dq h3 fs, by rw [in_dq hx f h3 fs]; exact q _ G1 H1 e1 (.bl _)⟩⟩
theorem ixN_lt {n : Nat} {i : Int} {k : Nat} (h : ixN n i = some k) : k < n := by
  unfold ixN at h
  split at h
  · split at h
    · cases h; omega
    · cases h
  · split at h
    · cases h; omega
    · cases h
theorem atI_dq {G : Hp} {vs : List V} {ds : List D} (h : DqA K G vs ds) {i : Int} {d : D} (e : atI ds i = some d) : ∃ v, atI vs i = some v ∧ Dq K G v d := by
  unfold atI at e ⊢
  rw [h.length]
  cases q : ixN ds.length i with
  | none => rw [q] at e; cases e
  | some k =>
    rw [q] at e
    obtain ⟨v, h1, h2⟩ := h.get (i := k) (d := d) e
    exact ⟨v, h1, h2⟩
theorem od_ixL {ds : List D} (e : atI ds i = some d) : OD K (rIx K) (.list ds) (.int i) d := fun x y G H Q g hx hy q => by
  cases hy
  cases hx with
  | lst a b =>
    obtain ⟨v, h1, h2⟩ := atI_dq b e
    exact .inl ⟨_, _, i, v, rfl, rfl, SqL.of (g.lst a), h1, q v G H (.refl g) h2⟩
theorem od_ixT {ds : List D} (e : atI ds i = some d) : OD K (rIx K) (.tuple ds) (.int i) d := fun x y G H Q g hx hy q => by
  cases hy
  cases hx with
  | tup a b =>
    obtain ⟨v, h1, h2⟩ := atI_dq b e
    exact .inr (.inl ⟨_, _, i, v, rfl, rfl, g.t a, h1, q v G H (.refl g) h2⟩)
theorem od_ixS {z : Str} {c : Nat} (hz : z.length ≤ sizeLine) (e : atI z.cps.toList i = some c) : OD K (rIx K) (.str z) (.int i) (.str ⟨#[c]⟩) := fun x y G H Q g hx hy q => by
  cases hy
  cases hx
  exact .inr (.inr ⟨z, i, c, rfl, rfl, hz, e, q _ G H (.refl g) (.str _)⟩)
theorem ev_ixO {n : Nat} {ds : List D} (hi : ρ[n]? = some (.ow (.list ds))) (hb : EV K tb ρ (.int i)) (e : atI ds i = some d) : EV K (tOp (rIx K) (tVar n) tb) ρ d := fun G0 H0 G H σ Q E q => by
  obtain ⟨l, vs, h1, h2, h3, h0⟩ := own_lookG E hi
  refine ⟨_, h1, hb G0 H0 G H σ _ E fun y G1 H1 e1 hy => ?_⟩
  cases hy
  obtain ⟨v, a1, a2⟩ := atI_dq h3 e
  exact .inl ⟨_, _, i, v, rfl, rfl, SqL.of (e1.at h0 h2), a1, q v G1 H1 e1 (a2.mono e1.g)⟩
/-! ### slices -/
theorem eo_none : EO K tNoPart ρ none := fun _ _ G H _ _ E q => q G H (.refl E.gh)
theorem eo_some (h : EV K te ρ (.int i)) : EO K (tPart te) ρ (some i) := fun G0 H0 G H σ Q E q => h G0 H0 G H σ _ E fun v G1 H1 e1 h1 => by
  cases h1
  exact ⟨i, rfl, q G1 H1 e1⟩
def rSlU (K : PySem.W.Frag) : V → Option Int → Option Int → Hp → VK → Prop := fun x lo hi H Q => rSlL K x lo hi H Q ∨ (fun x lo hi H Q => rSlA K x lo hi H Q ∨ rSlS x lo hi H Q) x lo hi H Q
theorem sl_U {X : Cx} : SlR X (rSlU X.K) := sl_list.or (sl_tupA.or sl_str)
def cutDs (ds : List D) (lo hi : Option Int) : List D := (ds.drop (HT.sIx ds.length 0 lo)).take (HT.sIx ds.length ds.length hi - HT.sIx ds.length 0 lo)
theorem cut_dq {G : Hp} {vs : List V} {ds : List D} (h : DqA K G vs ds) (lo hi : Option Int) : DqA K G (cutV vs lo hi) (cutDs ds lo hi) := by
  unfold cutV cutDs
  rw [h.length]
  exact (h.drop _).take _
theorem sl_step {r : V → Option Int → Option Int → Hp → VK → Prop} {tl th : TO} {lo hi : Option Int} {G0 H0 G H : Hp} {σ : St} {Q : VK} (E : En K G0 H0 G H σ ρ) (h : EV K te ρ d) (hl : EO K tl ρ lo) (hh : EO K th ρ hi)
    (q : ∀ x G' H', Ext G H G' H' → Dq K G' x d → r x lo hi H' Q) : tSl r te tl th σ H Q :=
  h G0 H0 G H σ _ E fun x G1 H1 e1 h1 => hl G0 H0 G1 H1 σ _ (E.go e1) fun G2 H2 e2 => hh G0 H0 G2 H2 σ _ ((E.go e1).go e2) fun G3 H3 e3 => q x G3 H3 ((e1.trans e2).trans e3) ((h1.mono e2.g).mono e3.g)
theorem en_slL {tl th : TO} {lo hi : Option Int} {ds : List D} (h : EV K te ρ (.list ds)) (hl : EO K tl ρ lo) (hh : EO K th ρ hi) : EVN K (tSl (rSlU K) te tl th) ρ (.list (cutDs ds lo hi)) := fun G0 H0 G H σ Q E q =>
  sl_step E h hl hh fun x G' H' e hx => by
    cases hx with
    | lst a b =>
      refine .inl ⟨_, _, rfl, SqL.of (e.gh.lst a), fun p hp => ?_⟩
      refine q p G' _ (e.trans (.fresh e.gh hp)) ?_ (e.gh.none hp) (.lst upd_same (cut_dq b lo hi))
      exact e.gone hp
/-- a slice of the script -/
theorem en_slScr {tl th : TO} {lo hi : Option Int} {ns : List Int} (h : EV K te ρ (.dict [(.none, .list (ns.map PyData.int))])) (hl : EO K tl ρ lo) (hh : EO K th ρ hi) : EVN K (tSl (rSlU K) te tl th) ρ (.list (cutDs (ns.map PyData.int) lo hi)) := fun G0 H0 G H σ Q E q =>
  sl_step E h hl hh fun x G' H' e hx => by
    generalize hk : [((PyData.none : D), (PyData.list (ns.map PyData.int) : D))] = kvs at hx
    cases hx with
    | dK a b => cases b with
      | nil => cases hk
      | @cons k => cases k <;> cases hk
    | dT a b => cases hk
    | sta _ _ => cases hk
    | opq _ => cases hk
    | raw _ => cases hk
    | @scr a ms sq =>
      have e2 : ms.map PyData.int = ns.map PyData.int := by
        injection hk with h1 h2
        injection h1 with h1 h2
        injection h2 with h2
        exact h2.symm
      have e3 : DqA K G' (ms.map V.int) (ns.map PyData.int) := by
        rw [← e2]
        clear hk e2 sq
        induction ms with
        | nil => exact .nil
        | cons m ms ih => exact .cons (.int m) ih
      refine .inl ⟨_, _, rfl, e.gh.l sq, fun p hp => ?_⟩
      refine q p G' _ (e.trans (.fresh e.gh hp)) ?_ (e.gh.none hp) (.lst upd_same (cut_dq e3 lo hi))
      exact e.gone hp
theorem ev_slS {tl th : TO} {lo hi : Option Int} {z : Str} (h : EV K te ρ (.str z)) (hz : z.length ≤ sizeLine) (hl : EO K tl ρ lo) (hh : EO K th ρ hi) : EV K (tSl (rSlU K) te tl th) ρ (.str (cutS z lo hi)) := fun G0 H0 G H σ Q E q =>
  sl_step E h hl hh fun x G' H' e hx => by
    cases hx
    exact .inr (.inr ⟨z, rfl, hz, q _ G' H' e (.str _)⟩)
theorem ev_slT {tl th : TO} {lo hi : Option Int} {ds : List D} (h : EV K te ρ (.tuple ds)) (hl : EO K tl ρ lo) (hh : EO K th ρ hi) : EV K (tSl (rSlU K) te tl th) ρ (.tuple (cutDs ds lo hi)) := fun G0 H0 G H σ Q E q =>
  sl_step E h hl hh fun x G' H' e hx => by
    cases hx with
    | tup a b =>
      refine .inr (.inl ⟨_, _, rfl, e.gh.t a, fun w => ?_, fun _ p hp => ?_⟩)
      · have z : cutDs ds lo hi = ds := by
          unfold cutDs
          rw [← b.length, w.1, w.2, List.drop_zero, Nat.sub_zero, b.length, List.take_length]
        rw [z] at q
        exact q _ G' H' e (.tup a b)
      · have rr := cut_dq b lo hi
        exact q _ _ _ (e.trans (.new e.gh hp)) (.tup (SqT.of upd_same) (rr.mono (Ext.new e.gh hp).g))
end
end DL

set_option maxHeartbeats 1000000
/-! DL5: enumerate over a tuple, a text; iteration of any sequence. -/
namespace DL
open PySem L2 PySem.Spec PyProof.Rows

theorem meets_enumerate_newB1 {v : Value} {o : Obj} {H : Heap → Prop} (B : Begins v o H) :
    Meets (Builtin.«enumerate.__new__» ⟨[.type "enumerate", v], []⟩) (fun _ R s => H s.heap ∧
      R (.ok (.ret (.ref (s.heap.push o).objs.size))) { s with heap := (s.heap.push o).push { cls := .type "enumerate", data := .fields #[.none, .bool false, .ref s.heap.objs.size, rawInt 0, .none, .none] } }) :=
  .of_wp fun prog w A R s h => by
    obtain ⟨hp, g, d, tk, os⟩ := s; obtain ⟨h1, h⟩ := h
    have hsub := sub_enumerate
    have q1 : ∀ {A' : Around} {E : Value → Shared → Prop} {Q : Value → Shared → Prop}, Q (.ref hp.objs.size) ⟨hp.push o, g, d, tk, os⟩ → wpAny (model prog w) A' (pyIter v) Q E ⟨hp, g, d, tk, os⟩ :=
      fun q => B.iter prog w _ _ ⟨hp, g, d, tk, os⟩ _ h1 q
    wp_walk using q1
    refine wpAny_stack_any fun st => wpAny_pure ?_
    split
    · rename_i c _ _ _ _ _
      cases (c == Value.type "enumerate")
      · wp_walk using q1
        exact ⟨_, rfl, h⟩
      · wp_walk using q1
        exact ⟨_, rfl, h⟩
    · wp_walk using q1
      exact ⟨_, rfl, h⟩
section
variable {prog : Program} {w : World} {A : Around} {E : Value → Shared → Prop} {s : Shared}
theorem enum_begins1 {v : Value} {o : Obj} {H : Heap → Prop} {Q : Value → Shared → Prop} (B : Begins v o H) (h1 : H s.heap)
    (h : ∀ h', IsEnum h' (s.heap.objs.size + 1) s.heap.objs.size 0 .none → h'.get? s.heap.objs.size = some o → h'.objs.size = s.heap.objs.size + 2 →
      (∀ b o, s.heap.get? b = some o → h'.get? b = some o) → Q (.ref (s.heap.objs.size + 1)) { s with heap := h' }) :
    wpAny (model prog w) A (call (.type "enumerate") [v]) Q E s := by
  refine callType_new F.called_enumerate (by decide) (F.typeCall_enumerate_1 _) (F.newCall_enumerate_1 _) (fun obj => F.args_object_init_2 obj _) F.entry_enumerate_new
    (meets_enumerate_newB1 B) ⟨h1, ?_⟩
  have hz : (s.heap.push o).objs.size = s.heap.objs.size + 1 := Heap.size_push ..
  show _ ∧ _
  rw [hz]
  have he : IsEnum ((s.heap.push o).push { cls := .type "enumerate", data := .fields #[.none, .bool false, .ref s.heap.objs.size, rawInt 0, .none, .none] }) (s.heap.objs.size + 1) s.heap.objs.size 0 .none := by
    have := Heap.get?_push_size (s.heap.push o) (o := { cls := .type "enumerate", data := .fields #[.none, .bool false, .ref s.heap.objs.size, rawInt 0, .none, .none] }) rfl
    rw [hz] at this; exact this
  refine ⟨⟨_, he, rfl⟩, h _ he (Heap.get?_push_of_some _ (Heap.get?_push_size _ B.free)) (by rw [Heap.size_push, hz]) fun b o x => Heap.get?_push_of_some _ (Heap.get?_push_of_some _ x)⟩
end

/-- one turn of enumerate, told by what its iterator draws -/
theorem enum_item {X : Cx} {pins : List (Addr × Obj)} {σ : L2.St} {H : Hp} {s : Shared} {E : Value → Shared → Prop} {e it : Addr} {fp : List Addr} {n i : Nat} {Pv : Nat → Value → Prop} {Sv : Nat → Heap → Prop} {old : Value} {C : V → Prop} {elts : List Expr} {kk : Nat} {tpos : Pos}
    (I : Inv X pins σ H s) (hf : ∀ b ∈ [e, it], FpOk X pins H b) (D : Draws X.prog X.w X.A.in1 it fp n Pv Sv) (he : IsEnum s.heap e it ((i : Nat) : Int) old) (hst : Sv i s.heap) (hlt : i < n) (hne : e ≠ it) (hef : e ∉ fp) (hc : ∀ u, Pv i u → ∃ x, RelV x u ∧ C x) :
    wpAny (model X.prog X.w) X.A (pyNext (.ref e)) (fun r s1 => ∃ u, r = some u ∧
      wpAny (model X.prog X.w) X.A (letOwnedTupleGo (.Tuple elts kk tpos) (.ref e) u) (fun _ s2 => ∃ T x, u = .ref T ∧ Inv X pins σ (upd H T (.tup [.int (i : Nat), x])) s2 ∧ H T = none ∧ C x ∧ (∃ old, IsEnum s2.heap e it (((i + 1 : Nat)) : Int) old) ∧ Sv (i + 1) s2.heap ∧
        ∀ b ∈ [e, it], upd H T (.tup [.int (i : Nat), x]) b = none) E s1) E s := by
  have hel : e < s.heap.objs.size := Heap.lt_size he
  have hil : it < s.heap.objs.size := by obtain ⟨o, q⟩ := D.live i _ hst; exact Heap.lt_size q
  refine wpAny_pyNext_enum_itemD D he hst hlt hne hef fun u h' tk hP ho hst' hT hsz hk => ?_
  obtain ⟨x, ru, hx⟩ := hc u hP
  refine ⟨_, rfl, wpAny_letOwnedTupleGo_enum (s := { s with heap := h', toks := tk + 1 }) ho fun h'' he' sb => ?_⟩
  have hT2 : h''.get? s.heap.objs.size = some { cls := .type "tuple", data := .seq #[.int i tk, u] } := (sb.2 _ (Nat.ne_of_gt hel)).trans hT
  have new : ObjOk X.prog X.w (upd H s.heap.objs.size (.tup [.int (i : Nat), x])) h'' s.heap.objs.size (.tup [.int (i : Nat), x]) :=
    ⟨by show 2 ≤ sizeLine; decide, [.int i tk, u], .cons ⟨_, rfl⟩ (.cons ru .nil), ⟨_, hT2, rfl, _, rfl⟩⟩
  have I1 : Inv X pins σ (upd H s.heap.objs.size (.tup [.int (i : Nat), x])) { s with heap := h'', toks := tk + 1 } :=
    I.turnedNew (ch := [e, it]) (fun b ob hb q => (sb.2 b (fun z => hb (by simp [z]))).trans (hk b ob (fun z => hb (by simp [z])) (fun z => hb (by simp [z])) q)) hf (Nat.le_refl _) new
  refine ⟨s.heap.objs.size, x, rfl, I1, I.hok.fresh (Nat.le_refl _), hx, ⟨u, ?_⟩, D.frame _ _ _ hst' (fun b hb o q => (sb.2 b (fun z => hef (z ▸ hb))).trans q), fun b hb => ?_⟩
  · have e1 : ((i + 1 : Nat) : Int) = (i : Int) + 1 := by omega
    rw [e1]; exact he'
  · have hb' : b < s.heap.objs.size := by
      have e' : b = e ∨ b = it := by simpa using hb
      rcases e' with z | z
      · rw [z]; exact hel
      · rw [z]; exact hil
    rw [upd_ne (Nat.ne_of_lt hb')]
    exact (hf b hb).1

def IteT (K : PySem.W.Frag) (a : Addr) : It :=
  ⟨fun i H => ∃ (xs : List V) (x : V), SqT K H a xs ∧ xs[i]? = some x, fun i H v H' => ∃ T x, v = .ref T ∧ H T = none ∧ H' = upd H T (.tup [.int (i : Nat), x]) ∧ ∀ xs, SqT K H a xs → xs[i]? = some x, fun i H => ∃ xs : List V, SqT K H a xs ∧ xs.length ≤ i⟩
def IteS (z : Str) : It :=
  ⟨fun i _ => i < z.cps.size, fun i H v H' => ∃ T c, v = .ref T ∧ H T = none ∧ H' = upd H T (.tup [.int (i : Nat), .str ⟨#[c]⟩]) ∧ z.cps[i]? = some c, fun i _ => z.cps.size ≤ i⟩
theorem enum_ne_tup {h : Heap} {e it a : Addr} {i : Int} {old : Value} {its : Array Value} (he : IsEnum h e it i old) (ht : IsTup h a its) : e ≠ a := by
  rintro rfl
  obtain ⟨o, ho, hc, _⟩ := ht
  have q : h.get? e = some _ := he
  rw [q] at ho
  cases ho
  have z : Value.type "enumerate" = Value.type "tuple" := hc
  injection z with z
  exact absurd z (by decide)
theorem turn_enumT {P : Program} {w : World} {K : PySem.W.Frag} {elts : List Expr} {kk : Nat} {tpos : Pos} (a e it : Addr) :
    Turn P w K (.Tuple elts kk tpos) (IteT K a) [e, it] e (fun i h => (∃ old, IsEnum h e it ((i : Nat) : Int) old) ∧ h.IsTupleIter it a i ∧ e ≠ it) where
  mem := by simp
  obj := fun i h st b hb => by
    obtain ⟨⟨old, he⟩, ⟨o, ho, hc, hd⟩, _⟩ := st
    have e' : b = e ∨ b = it := by simpa using hb
    rcases e' with z | z
    · rw [z]; exact ⟨_, he, fun v q => nomatch q⟩
    · rw [z]; exact ⟨o, ho, fun v q => by rw [hd] at q; cases q⟩
  keep := fun i h h' st k => let ⟨⟨old, he⟩, hi, hne⟩ := st; ⟨⟨old, k e (by simp) _ he⟩, hi.at fun o q => k it (by simp) o q, hne⟩
  item := by
    intro X hP hw hK hc i pins s σ H E I hf st hg
    subst hP hw hK
    obtain ⟨⟨old, he⟩, hit, hne⟩ := st
    obtain ⟨xs, x, hq, hx⟩ := hg
    obtain ⟨its, rv, p, hz⟩ := I.tuple hq
    obtain ⟨u, hu, ru⟩ := rv.get hx
    have hi : i < its.toArray.size := by
      rw [List.size_toArray]
      exact (List.getElem?_eq_some_iff.mp hu).1
    have hta : a ≠ it := by
      rintro rfl
      obtain ⟨o, ho, hc', _⟩ := id p
      obtain ⟨o2, ho2, hc2, _⟩ := id hit
      rw [ho] at ho2; cases ho2
      rw [hc'] at hc2
      injection hc2 with z
      exact absurd z (by decide)
    refine thn (enum_item (C := fun y => y = x) I hf (Draws.tuple (A := X.A.in1) (show X.A.in1.handled = none from I.ok.hd hc) it a hta its.toArray) he ⟨hit, p⟩ hi hne (by simpa using ⟨hne, enum_ne_tup he p⟩) fun u' q => ?_) fun r s1 ⟨v, er, h2⟩ => ⟨v, er, thn h2 fun _ s2 ⟨T, y, ev, I1, hT, ey, he2, hs2, hb⟩ => ?_⟩
    · rw [show its.toArray[i]? = some u from by simpa using hu] at q
      cases q
      exact ⟨x, ru, rfl⟩
    · subst ey
      subst ev
      exact ⟨.ref T, _, I1, rfl, ⟨T, y, rfl, hT, rfl, fun ys hy => by rw [I.tuple_inj hy hq]; exact hx⟩, ⟨he2, hs2.1, hne⟩, hb⟩
  done := by
    intro X hP hw hK hc i pins s σ H E I hf st hg
    subst hP hw hK
    obtain ⟨⟨old, he⟩, hit, hne⟩ := st
    obtain ⟨xs, hq, hx⟩ := hg
    obtain ⟨its, rv, p, hz⟩ := I.tuple hq
    obtain ⟨f0, f1, f2, f3, f4, f5⟩ := hf it (by simp)
    have hl := rv.length
    have hta : a ≠ it := by
      rintro rfl
      obtain ⟨o, ho, hc', _⟩ := id p
      obtain ⟨o2, ho2, hc2, _⟩ := id hit
      rw [ho] at ho2; cases ho2
      rw [hc'] at hc2
      injection hc2 with z
      exact absurd z (by decide)
    by_cases hi : i = its.toArray.size
    · subst hi
      exact wpAny_pyNext_enum_endD (Draws.tuple (A := X.A.in1) (show X.A.in1.handled = none from I.ok.hd hc) it a hta its.toArray) he ⟨hit, p⟩ fun h' eb => ⟨rfl, I.turned (t' := s.toks) (fun b o hb q => eb b o hb q) f0 f1 f3 f4 f5⟩
    · have D : Draws X.prog X.w X.A.in1 it [it, a] i (fun _ _ => True) (fun j h => h.IsTupleIter it a j ∧ h.IsTuple a its.toArray ∧ its.toArray.size ≤ j ∧ j = i) := {
        live := fun _ _ st => let ⟨o, ho, _⟩ := st.1; ⟨o, ho⟩
        frame := fun _ _ _ st hk => ⟨st.1.at fun o e => hk it (by simp) o e, st.2.1.at fun o e => hk a (by simp) o e, st.2.2⟩
        item := fun j s Q E hj st hQ => by have := st.2.2.2; omega
        done := fun s Q E st hE => wpAny_nextOf_tuple_end (show X.A.in1.handled = none from I.ok.hd hc) st.1 st.2.1 (by simpa using st.2.2.1) hE }
      exact wpAny_pyNext_enum_endD D he ⟨hit, p, by rw [List.size_toArray]; omega, rfl⟩ fun h' eb => ⟨rfl, I.turned (t' := s.toks) (fun b o hb q => eb b o hb q) f0 f1 f3 f4 f5⟩
  self := fun A i s Q E st h => let ⟨⟨_, he⟩, _⟩ := st; wpAny_pyIter_enum he h
theorem turn_enumS {P : Program} {w : World} {K : PySem.W.Frag} {elts : List Expr} {kk : Nat} {tpos : Pos} (z : Str) (t : Tok) (e it : Addr) :
    Turn P w K (.Tuple elts kk tpos) (IteS z) [e, it] e (fun i h => (∃ old, IsEnum h e it ((i : Nat) : Int) old) ∧ h.IsStrIter it (strIterType z) z t i ∧ e ≠ it) where
  mem := by simp
  obj := fun i h st b hb => by
    obtain ⟨⟨old, he⟩, ⟨o, ho, hc, hd⟩, _⟩ := st
    have e' : b = e ∨ b = it := by simpa using hb
    rcases e' with z | z
    · rw [z]; exact ⟨_, he, fun v q => nomatch q⟩
    · rw [z]; exact ⟨o, ho, fun v q => by rw [hd] at q; cases q⟩
  keep := fun i h h' st k => let ⟨⟨old, he⟩, ⟨o, ho, r⟩, hne⟩ := st; ⟨⟨old, k e (by simp) _ he⟩, ⟨o, k it (by simp) o ho, r⟩, hne⟩
  item := by
    intro X hP hw hK hc i pins s σ H E I hf st hg
    subst hP hw hK
    obtain ⟨⟨old, he⟩, hit, hne⟩ := st
    refine thn (enum_item (C := fun y => ∃ c, z.cps[i]? = some c ∧ y = .str ⟨#[c]⟩) I hf (Draws.text (A := X.A.in1) (show X.A.in1.handled = none from I.ok.hd hc) it z t) he hit hg hne (by simpa using hne) fun u' q => ?_) fun r s1 ⟨v, er, h2⟩ => ⟨v, er, thn h2 fun _ s2 ⟨T, y, ev, I1, hT, ey, he2, hs2, hb⟩ => ?_⟩
    · obtain ⟨c, u, h1, rfl⟩ := q
      exact ⟨.str ⟨#[c]⟩, ⟨u, rfl⟩, c, h1, rfl⟩
    · obtain ⟨c, hcx, rfl⟩ := ey
      subst ev
      exact ⟨.ref T, _, I1, rfl, ⟨T, c, rfl, hT, rfl, hcx⟩, ⟨he2, hs2, hne⟩, hb⟩
  done := by
    intro X hP hw hK hc i pins s σ H E I hf st hg
    subst hP hw hK
    obtain ⟨⟨old, he⟩, hit, hne⟩ := st
    obtain ⟨f0, f1, f2, f3, f4, f5⟩ := hf it (by simp)
    have hx : z.cps[i]? = none := Array.getElem?_eq_none hg
    have D : Draws X.prog X.w X.A.in1 it [it] i (fun _ _ => True) (fun j h => h.IsStrIter it (strIterType z) z t j ∧ j = i) := {
      live := fun _ _ st => let ⟨o, ho, _⟩ := st.1; ⟨o, ho⟩
      frame := fun _ _ _ st hk => let ⟨⟨o, ho, r⟩, e⟩ := st; ⟨⟨o, hk it (by simp) o ho, r⟩, e⟩
      item := fun j s Q E hj st hQ => by have := st.2; omega
      done := fun s Q E st hE => by
        obtain ⟨st, _⟩ := st
        cases ha : z.cps.all (· < 128)
        · simp only [strIterType, ha, Bool.false_eq_true, if_false] at st
          exact wpAny_nextOf_wide_end (show X.A.in1.handled = none from I.ok.hd hc) st hx hE
        · simp only [strIterType, ha, if_true] at st
          exact wpAny_nextOf_ascii_end (show X.A.in1.handled = none from I.ok.hd hc) st hx hE }
    exact wpAny_pyNext_enum_endD D he ⟨hit, rfl⟩ fun h' eb => ⟨rfl, I.turned (t' := s.toks) (fun b o hb q => eb b o hb q) f0 f1 f3 f4 f5⟩
  self := fun A i s Q E st h => let ⟨⟨_, he⟩, _⟩ := st; wpAny_pyIter_enum he h

/-- enumerate of a list, a tuple, a text -/
def iEnumU (K : PySem.W.Frag) (ta : TA) : TI := fun σ H R => ta σ H fun vs H1 => (∃ a xs, vs = [.ref a] ∧ SqL K H1 a xs ∧ R (Ite K a) H1) ∨ (∃ a xs, vs = [.ref a] ∧ SqT K H1 a xs ∧ R (IteT K a) H1) ∨ (∃ z, vs = [.str z] ∧ R (IteS z) H1)
theorem pi_enumU {X : Cx} {e : Expr} {ta : TA} {p pos tpos : Pos} {elts : List Expr} {kk : Nat} (hg : Gl X "enumerate") (hm : X.mg "enumerate" = none) (ha : PA X [e] ta) (hs : starEach [e] X.env = [(false, eval e X.env)] := by rfl) :
    PI X (.Tuple elts kk tpos) (.Call (.Name "enumerate" p) [e] [] pos) (iEnumU X.K ta) := by
  refine ⟨fun pins s σ H R I h => ?_⟩
  refine Call_ (ld_blt I hg hm boot_enumerate (PyProof.Rows.callWith_type1 (thn (ha.run pos pins s σ H _ I h) fun us s1 ⟨vs, H1, I1, r1, q1⟩ => ?_) hs rfl))
  have fp : ∀ b ∈ [s1.heap.objs.size + 1, s1.heap.objs.size], s1.heap.objs.size ≤ b := fun b hb => by
    have e' : b = s1.heap.objs.size + 1 ∨ b = s1.heap.objs.size := by simpa using hb
    rcases e' with z | z
    · rw [z]; exact Nat.le_add_right _ _
    · rw [z]; exact Nat.le_refl _
  rcases q1 with ⟨a, xs, ex, hq, q⟩ | ⟨a, xs, ex, hq, q⟩ | ⟨z, ex, q⟩
  · subst ex
    cases r1 with
    | cons r rr =>
      cases rr
      cases r
      obtain ⟨its, rv, p', hz⟩ := I1.list hq
      refine call_enumerate_list p'.isList fun h' he hit hsz hk => wpAny_pyIter_enum he ?_
      have I2 : Inv X pins σ H1 { s1 with heap := h' } := I1.kept (t' := s1.toks) hk
      exact ⟨s1.heap.objs.size + 1, [s1.heap.objs.size + 1, s1.heap.objs.size], _, _, H1, rfl, I2, turn_enum a (s1.heap.objs.size + 1) s1.heap.objs.size, ⟨⟨.none, he⟩, hit, Nat.succ_ne_self _⟩, fun b hb => I1.fpOk (fp b hb) (I1.hok.fresh (fp b hb)), q⟩
  · subst ex
    cases r1 with
    | cons r rr =>
      cases rr
      cases r
      obtain ⟨its, rv, p', hz⟩ := I1.tuple hq
      refine enum_begins1 (begins_tuple a its.toArray) p' fun h' he hit hsz hk => wpAny_pyIter_enum he ?_
      have I2 : Inv X pins σ H1 { s1 with heap := h' } := I1.kept (t' := s1.toks) hk
      exact ⟨s1.heap.objs.size + 1, [s1.heap.objs.size + 1, s1.heap.objs.size], _, _, H1, rfl, I2, turn_enumT a (s1.heap.objs.size + 1) s1.heap.objs.size, ⟨⟨.none, he⟩, ⟨_, hit, rfl, rfl⟩, Nat.succ_ne_self _⟩, fun b hb => I1.fpOk (fp b hb) (I1.hok.fresh (fp b hb)), q⟩
  · subst ex
    cases r1 with
    | cons r rr =>
      cases rr
      obtain ⟨t, rfl⟩ := r
      refine enum_begins1 (begins_text z t) trivial fun h' he hit hsz hk => wpAny_pyIter_enum he ?_
      have I2 : Inv X pins σ H1 { s1 with heap := h' } := I1.kept (t' := s1.toks) hk
      exact ⟨s1.heap.objs.size + 1, [s1.heap.objs.size + 1, s1.heap.objs.size], _, _, H1, rfl, I2, turn_enumS z t (s1.heap.objs.size + 1) s1.heap.objs.size, ⟨⟨.none, he⟩, ⟨_, hit, rfl, rfl⟩, Nat.succ_ne_self _⟩, fun b hb => I1.fpOk (fp b hb) (I1.hok.fresh (fp b hb)), q⟩
/-- a list, a tuple, a text, walked -/
def iSeqU (K : PySem.W.Frag) (te : TE) : TI := fun σ H R => te σ H fun x H1 => (∃ a xs, x = .ref a ∧ SqL K H1 a xs ∧ R (Itl K a) H1) ∨ (∃ a xs, x = .ref a ∧ SqT K H1 a xs ∧ R (Itt K a) H1) ∨ (∃ z, x = .str z ∧ R (Its z) H1)
theorem pi_seqU {X : Cx} {tg l : Expr} {tl : TE} (hl : PE X l tl) : PI X tg l (iSeqU X.K tl) := by
  refine ⟨fun pins s σ H R I h => ?_⟩
  refine thn (hl.run pins s σ H _ I h) fun v s1 ⟨x, H1, I1, r1, q1⟩ => ?_
  rcases q1 with ⟨a, xs, ex, hq, q⟩ | ⟨a, xs, ex, hq, q⟩ | ⟨z, ex, q⟩
  · subst ex
    cases r1
    obtain ⟨its, rv, p, hz⟩ := I1.list hq
    refine wpAny_pyIter_list p.isList ?_
    refine ⟨s1.heap.objs.size, [s1.heap.objs.size], _, _, H1, rfl, I1.kept (t' := s1.toks) fun b o e => Heap.get?_push_of_some _ e, turn_list a _, ⟨_, Heap.get?_push_size _ rfl, rfl, rfl⟩, fun b hb => ?_, q⟩
    have e : b = s1.heap.objs.size := by simpa using hb
    subst e
    exact I1.fpOk (Nat.le_refl _) (I1.hok.fresh (Nat.le_refl _))
  · subst ex
    cases r1
    obtain ⟨its, rv, p, hz⟩ := I1.tuple hq
    refine wpAny_pyIter_tuple (show s1.heap.IsTuple a its.toArray from p) ?_
    refine ⟨s1.heap.objs.size, [s1.heap.objs.size], _, _, H1, rfl, I1.kept (t' := s1.toks) fun b o e => Heap.get?_push_of_some _ e, turn_tuple a _, ⟨_, Heap.get?_push_size _ rfl, rfl, rfl⟩, fun b hb => ?_, q⟩
    have e : b = s1.heap.objs.size := by simpa using hb
    subst e
    exact I1.fpOk (Nat.le_refl _) (I1.hok.fresh (Nat.le_refl _))
  · subst ex
    obtain ⟨t, rfl⟩ := r1
    cases ha : z.cps.all (· < 128)
    · exact wpAny_pyIter_wide ha (pi_one (tk := s1.toks) I1 _ (turn_str _ z t "str_iterator" (.inr rfl)) ⟨_, Heap.get?_push_size _ rfl, rfl, rfl⟩ q)
    · exact wpAny_pyIter_ascii ha (pi_one (tk := s1.toks) I1 _ (turn_str _ z t "str_ascii_iterator" (.inl rfl)) ⟨_, Heap.get?_push_size _ rfl, rfl, rfl⟩ q)
end DL

/-! DL6: what is walked, comprehensions, built-ins, lists that grow, calls of own defs, by data. -/
namespace DL
open PySem L2

section
variable {K : PySem.W.Frag} {ρ : List Sl} {ta tb te : TE} {tt : TT} {d d1 d2 : D} {P : Oc → Prop} {Ex : XK}
/-! ### what is walked -/
theorem ei_mono {wi : TI} {n : Nat} {f g : Nat → D} (h : EI K wi ρ n f) (e : ∀ i, i < n → f i = g i) : EI K wi ρ n g := fun G0 H0 G H σ R E q =>
  h G0 H0 G H σ R E fun J G' H' Gd Y x w hG hY => q J G' H' Gd Y x w hG fun i G2 H2 v H3 hi a b c => by
    rw [← e i hi]
    exact hY i G2 H2 v H3 hi a b c
theorem ei_rng1 {t : TA} {n : Int} (h : EA K t ρ [.int n]) (h1 : -(2 ^ 62) ≤ n) (h2 : n < 2 ^ 62) : EI K (iRng1 t) ρ n.toNat (fun i => .int (i : Nat)) := fun G0 H0 G H σ R E q =>
  h G0 H0 G H σ _ E fun vs G1 H1 e1 hv => by
    cases hv with
    | cons a b =>
      cases a
      cases b
      refine ⟨n, rfl, h1, h2, q _ G1 H1 _ _ e1 walk_range (fun _ _ _ _ => trivial) fun i G2 H2 x H3 hi hg gh hy => ?_⟩
      obtain ⟨rfl, rfl⟩ := hy
      refine ⟨G2, .refl gh, ?_⟩
      show Dq K G2 (.int (0 + (i : Nat))) (.int (i : Nat))
      rw [Int.zero_add]
      exact .int _
theorem ei_rng2 {t : TA} {m n : Int} (h : EA K t ρ [.int m, .int n]) (hb : -(2 ^ 62) ≤ m ∧ m < 2 ^ 62 ∧ -(2 ^ 62) ≤ n ∧ n < 2 ^ 62) : EI K (iRng2 t) ρ (n - m).toNat (fun i => .int (m + (i : Nat))) := fun G0 H0 G H σ R E q =>
  h G0 H0 G H σ _ E fun vs G1 H1 e1 hv => by
    cases hv with
    | cons a b =>
      cases a
      cases b with
      | cons a b =>
        cases a
        cases b
        refine ⟨m, n, rfl, hb, q _ G1 H1 _ _ e1 walk_range (fun _ _ _ _ => trivial) fun i G2 H2 x H3 hi hg gh hy => ?_⟩
        obtain ⟨rfl, rfl⟩ := hy
        exact ⟨G2, .refl gh, .int _⟩
theorem getD_of {α : Type} {ds : List α} {i : Nat} {d z : α} (h : ds[i]? = some d) : ds.getD i z = d := by
  rw [List.getD_eq_getElem?_getD, h]
  rfl
theorem ei_list {ds : List D} (h : EV K te ρ (.list ds)) : EI K (iSeqU K te) ρ ds.length (fun i => ds.getD i .none) := fun G0 H0 G H σ R E q =>
  h G0 H0 G H σ _ E fun v G1 H1 e1 hv => by
    cases hv with
    | @lst a xs _ ha hr =>
      refine .inl ⟨a, xs, rfl, SqL.of (e1.gh.lst ha), ?_⟩
      rw [← hr.length] at q
      refine q _ G1 H1 _ _ e1 (walk_list (K := K) (a := a)) (fun G2 H2 hg gh => SqL.of (gh.lst (hg _ _ ha))) fun i G2 H2 x H3 hi hg gh hy => ?_
      obtain ⟨rfl, hx⟩ := hy
      obtain ⟨d, hd, hq⟩ := hr.got hx
      exact ⟨G2, .refl gh, by show Dq K G2 x (ds.getD i .none); rw [getD_of hd]; exact hq.mono (Sub.of hg)⟩
theorem ei_tup {ds : List D} (h : EV K te ρ (.tuple ds)) : EI K (iSeqU K te) ρ ds.length (fun i => ds.getD i .none) := fun G0 H0 G H σ R E q =>
  h G0 H0 G H σ _ E fun v G1 H1 e1 hv => by
    cases hv with
    | @tup a xs _ ha hr =>
      refine .inr (.inl ⟨a, xs, rfl, e1.gh.t ha, ?_⟩)
      rw [← hr.length] at q
      refine q _ G1 H1 _ _ e1 (walk_tup (K := K) (a := a)) (fun G2 H2 hg gh => gh.t ((Sub.of hg).t ha)) fun i G2 H2 x H3 hi hg gh hy => ?_
      obtain ⟨rfl, hx⟩ := hy
      obtain ⟨d, hd, hq⟩ := hr.got hx
      exact ⟨G2, .refl gh, by show Dq K G2 x (ds.getD i .none); rw [getD_of hd]; exact hq.mono (Sub.of hg)⟩
def chD (z : Str) (i : Nat) : D := .str ⟨#[z.cps.getD i 0]⟩
theorem ch_of {z : Str} {i c : Nat} (h : z.cps[i]? = some c) : chD z i = .str ⟨#[c]⟩ := by
  unfold chD
  rw [Array.getD_eq_getD_getElem?, h]
  rfl
theorem ei_str {z : Str} (h : EV K te ρ (.str z)) : EI K (iSeqU K te) ρ z.cps.size (chD z) := fun G0 H0 G H σ R E q =>
  h G0 H0 G H σ _ E fun v G1 H1 e1 hv => by
    cases hv
    refine .inr (.inr ⟨z, rfl, q _ G1 H1 _ _ e1 walk_str (fun _ _ _ _ => trivial) fun i G2 H2 x H3 hi hg gh hy => ?_⟩)
    obtain ⟨rfl, c, hc, rfl⟩ := hy
    exact ⟨G2, .refl gh, by rw [ch_of hc]; exact .str _⟩
theorem new_pair {G H : Hp} {T : Addr} {x y : V} {a b : D} (g : GH G H) (hT : H T = none) (hx : Dq K G x a) (hy : Dq K G y b) : ∃ G3, Ext G H G3 (upd H T (.tup [x, y])) ∧ Dq K G3 (.ref T) (.tuple [a, b]) :=
  ⟨_, .new g hT, .tup (SqT.of upd_same) (.cons (hx.mono (Ext.new g hT).g) (.cons (hy.mono (Ext.new g hT).g) .nil))⟩
theorem ei_enumL {t : TA} {ds : List D} (h : EA K t ρ [.list ds]) : EI K (iEnumU K t) ρ ds.length (fun i => .tuple [.int (i : Nat), ds.getD i .none]) := fun G0 H0 G H σ R E q =>
  h G0 H0 G H σ _ E fun v G1 H1 e1 hv => by
    cases hv with
    | cons a b =>
      cases b
      cases a with
      | @lst a xs _ ha hr =>
        refine .inl ⟨a, xs, rfl, SqL.of (e1.gh.lst ha), ?_⟩
        rw [← hr.length] at q
        refine q _ G1 H1 _ _ e1 (walk_enum (K := K) (a := a)) (fun G2 H2 hg gh => SqL.of (gh.lst (hg _ _ ha))) fun i G2 H2 x H3 hi hg gh hy => ?_
        obtain ⟨T, x1, y1, rfl, hT, rfl, h1, h2⟩ := hy
        cases h1
        obtain ⟨d, hd, hq⟩ := hr.got h2
        exact new_pair gh hT (.int _) (by rw [getD_of hd]; exact hq.mono (Sub.of hg))
theorem walk_enumT {a : Addr} {xs : List V} : Walk (IteT K a) xs.length (fun H => SqT K H a xs) (YPair (fun i => some (.int (i : Nat))) (fun i => xs[i]?)) := by
  refine ⟨fun i _ hi q => ⟨xs, xs[i], q, by simp [hi]⟩, fun _ q => ⟨xs, q, Nat.le_refl _⟩, fun i H v H' _ q y => ?_⟩
  obtain ⟨T, x, y1, y2, y3, y4⟩ := y
  exact ⟨T, .int (i : Nat), x, y1, y2, y3, rfl, y4 xs q⟩
theorem walk_enumS {z : Str} : Walk (IteS z) z.cps.size (fun _ => True) (fun i H v H' => ∃ T c, v = .ref T ∧ H T = none ∧ H' = upd H T (.tup [.int (i : Nat), .str ⟨#[c]⟩]) ∧ z.cps[i]? = some c) :=
  ⟨fun _ _ hi _ => hi, fun _ _ => Nat.le_refl _, fun _ _ _ _ _ _ y => y⟩
theorem ei_enumT {t : TA} {ds : List D} (h : EA K t ρ [.tuple ds]) : EI K (iEnumU K t) ρ ds.length (fun i => .tuple [.int (i : Nat), ds.getD i .none]) := fun G0 H0 G H σ R E q =>
  h G0 H0 G H σ _ E fun v G1 H1 e1 hv => by
    cases hv with
    | cons a b =>
      cases b
      cases a with
      | @tup a xs _ ha hr =>
        refine .inr (.inl ⟨a, xs, rfl, e1.gh.t ha, ?_⟩)
        rw [← hr.length] at q
        refine q _ G1 H1 _ _ e1 (walk_enumT (K := K) (a := a)) (fun G2 H2 hg gh => gh.t ((Sub.of hg).t ha)) fun i G2 H2 x H3 hi hg gh hy => ?_
        obtain ⟨T, x1, y1, rfl, hT, rfl, h1, h2⟩ := hy
        cases h1
        obtain ⟨d, hd, hq⟩ := hr.got h2
        exact new_pair gh hT (.int _) (by rw [getD_of hd]; exact hq.mono (Sub.of hg))
theorem ei_enumS {t : TA} {z : Str} (h : EA K t ρ [.str z]) : EI K (iEnumU K t) ρ z.cps.size (fun i => .tuple [.int (i : Nat), chD z i]) := fun G0 H0 G H σ R E q =>
  h G0 H0 G H σ _ E fun v G1 H1 e1 hv => by
    cases hv with
    | cons a b =>
      cases b
      cases a
      refine .inr (.inr ⟨z, rfl, q _ G1 H1 _ _ e1 walk_enumS (fun _ _ _ _ => trivial) fun i G2 H2 x H3 hi hg gh hy => ?_⟩)
      obtain ⟨T, c, rfl, hT, rfl, hc⟩ := hy
      exact new_pair gh hT (.int _) (by rw [ch_of hc]; exact .str _)

/-! ### a comprehension -/
def wipeS (ρ : List Sl) : List Nat → List Sl
  | [] => ρ
  | v :: vs => (wipeS ρ vs).set v .no
theorem En.wipe {G0 H0 G H : Hp} {σ : St} (E : En K G0 H0 G H σ ρ) : ∀ vs : List Nat, En K G0 H0 G H (L2.wipe σ vs) (wipeS ρ vs)
  | [] => E
  | v :: vs => (En.wipe E vs).setX v none
theorem wipe_get {σ : St} {k : Nat} : ∀ {vs : List Nat}, (L2.wipe σ vs)[k]? = if k ∈ vs ∧ k < σ.length then some none else σ[k]?
  | [] => by simp [L2.wipe]
  | v :: vs => by
    unfold L2.wipe
    by_cases e : v = k
    · subst e
      by_cases h : v < σ.length
      · rw [List.getElem?_set_self (by rw [wipe_length]; exact h), if_pos ⟨List.mem_cons_self, h⟩]
      · rw [if_neg (fun z => h z.2), List.getElem?_eq_none (by rw [List.length_set, wipe_length]; omega), List.getElem?_eq_none (by omega)]
    · rw [List.getElem?_set_ne e, wipe_get (vs := vs)]
      by_cases h : k ∈ vs ∧ k < σ.length
      · rw [if_pos h, if_pos ⟨List.mem_cons_of_mem _ h.1, h.2⟩]
      · rw [if_neg h, if_neg fun z => h ⟨(List.mem_cons.mp z.1).resolve_left (Ne.symm e), z.2⟩]
theorem wipe_eq {σ σ' : St} {vs ts : List Nat} (hl : σ'.length = σ.length) (hk : ∀ k, k ∉ ts → σ'[k]? = (L2.wipe σ vs)[k]?) (hs : ∀ t ∈ ts, t ∈ vs) : L2.wipe σ' vs = L2.wipe σ vs := by
  refine List.ext_getElem? fun k => ?_
  rw [wipe_get, hl]
  by_cases h : k ∈ vs ∧ k < σ.length
  · rw [if_pos h, wipe_get, if_pos h]
  · rw [if_neg h]
    by_cases hv : k ∈ vs
    · have : ¬ k < σ.length := fun z => h ⟨hv, z⟩
      rw [List.getElem?_eq_none (by omega), List.getElem?_eq_none (by rw [wipe_length]; omega)]
    · exact hk k fun z => hv (hs k z)
/-- what a comprehension gives: the value at each turn that passes -/
def lcD : Nat → (Nat → Bool) → (Nat → D) → List D
  | 0, _, _ => []
  | n + 1, b, f => if b n = true then lcD n b f ++ [f n] else lcD n b f
theorem lcD_len (b : Nat → Bool) (f : Nat → D) : ∀ n, (lcD n b f).length ≤ n
  | 0 => Nat.le_refl _
  | n + 1 => by
    unfold lcD
    have := lcD_len b f n
    split
    · rw [List.length_append]
      exact Nat.succ_le_succ this
    · omega
theorem en_lc {wi : TI} {g : TG} {vs : List Nat} {n : Nat} {item : Nat → D} {b : Nat → Bool} {f : Nat → D} (hi : EI K wi ρ n item) (hn : n ≤ 16000000)
    (hs : ∀ i, i < n → ∃ ρ2 ts, GT K g (wipeS ρ vs) (item i) ρ2 ts ∧ (∀ t ∈ ts, t ∈ vs) ∧ ET K tt ρ2 (b i) ∧ (b i = true → EV K te ρ2 (f i))) :
    EVN K (tLc wi g tt te vs) ρ (.list (lcD n b f)) := fun G0 H0 G H σ Q E q =>
  hi G0 H0 G H σ _ E fun J G1 H1 Gd Y x w hG hY Dl hD => by
    have E1 := E.go x
    have hH : H Dl = none := by
      exact x.gone hD
    have hG1 : G1 Dl = none := x.gh.none hD
    refine lc_it w (fun i H' => ∃ G' vl, Ext G1 H1 G' H' ∧ G' Dl = none ∧ H' Dl = some (.lst vl) ∧ DqA K G' vl (lcD i b f)) ⟨G1, [], .fresh x.gh hD, hG1, upd_same, .nil⟩ (fun i H' _ ⟨G', vl, e, _⟩ => hG G' H' e.gg e.gh) (fun i y H' H3 hlt ⟨G', vl, e, n1, h1, r1⟩ hy => ?_)
      (fun H' ⟨G', vl, e, n1, h1, r1⟩ => q Dl G' H' (x.trans e) hH n1 (.lst h1 r1))
    obtain ⟨G3, x3, hdq⟩ := hY i G' H' y H3 hlt e.gg e.gh hy
    obtain ⟨ρ2, ts, hg, hts, ht, he⟩ := hs i hlt
    have E3 : En K G0 H0 G3 H3 (L2.wipe σ vs) (wipeS ρ vs) := ((E1.go e).go x3).wipe vs
    have n3 : G3 Dl = none := x3.own _ _ h1 rfl n1
    refine hg G0 H0 G3 H3 _ y _ E3 hdq fun σ2 E2 hl hk => ⟨wipe_eq (by rw [hl, wipe_length]) hk hts, ?_⟩
    refine ht G0 H0 G3 H3 σ2 _ E2 fun G4 H4 x4 => ?_
    have h4 : H4 Dl = some (.lst vl) := x4.at n3 (x3.at n1 h1)
    have n4 : G4 Dl = none := x4.own _ _ (x3.at n1 h1) rfl n3
    have r4 : DqA K G4 vl (lcD i b f) := (r1.mono x3.g).mono x4.g
    have e4 : Ext G1 H1 G4 H4 := (e.trans x3).trans x4
    cases hb : b i with
    | false =>
      rw [if_neg Bool.false_ne_true]
      refine ⟨G4, vl, e4, n4, h4, ?_⟩
      unfold lcD
      rw [if_neg (by rw [hb]; exact Bool.false_ne_true)]
      exact r4
    | true =>
      rw [if_pos rfl]
      refine he hb G0 H0 G4 H4 σ2 _ (E2.go x4) fun u G5 H5 x5 hu => ?_
      have h5 := x5.at n4 h4
      have n5 := x5.own _ _ h4 rfl n4
      have hlen := lcD_len b f i
      have hl2 := r4.length
      refine ⟨vl, h5, by rw [hl2, sizeLine_eq]; omega, G5, vl ++ [u], ?_, n5, upd_same, ?_⟩
      · have e5 := e4.trans x5
        refine ⟨e5.gg, fun a o ha => ?_, fun a o ha => ?_, e5.own⟩
        · rw [upd_ne (ne_of_none ha hD)]; exact e5.hh a o ha
        · have ne : a ≠ Dl := ne_of_none ha n5
          exact (e5.gh a o ha).eq (upd_ne ne)
      · have hb' : lcD (i + 1) b f = lcD i b f ++ [f i] := by
          show (if b i = true then lcD i b f ++ [f i] else lcD i b f) = _
          rw [if_pos hb]
        rw [hb']
        exact (r4.mono x5.g).append (.one hu)
theorem et_yes : ET K tYes ρ true := fun _ _ G H _ _ E q => q G H (.refl E.gh)

/-! ### built-ins -/
theorem cd_lenS {z : Str} (h : z.length ≤ sizeLine) : CD K (rLen K) [.str z] (.int z.length) := fun xs G H Q g hx q => by
  cases hx with
  | cons a b =>
    cases a
    cases b
    exact ⟨_, z.length, rfl, ⟨h, rfl⟩, q _ G H (.refl g) (.int _)⟩
theorem cd_lenL {ds : List D} : CD K (rLen K) [.list ds] (.int ds.length) := fun xs G H Q g hx q => by
  cases hx with
  | cons a b =>
    cases b
    cases a with
    | @lst a xs _ ha hr => exact ⟨_, xs.length, rfl, .inl ⟨xs, SqL.of (g.lst ha), rfl⟩, by rw [hr.length]; exact q _ G H (.refl g) (.int _)⟩
theorem cd_lenT {ds : List D} : CD K (rLen K) [.tuple ds] (.int ds.length) := fun xs G H Q g hx q => by
  cases hx with
  | cons a b =>
    cases b
    cases a with
    | @tup a xs _ ha hr => exact ⟨_, xs.length, rfl, .inr ⟨xs, g.t ha, rfl⟩, by rw [hr.length]; exact q _ G H (.refl g) (.int _)⟩
theorem ev_lenO {n : Nat} {ds : List D} (hi : ρ[n]? = some (.ow (.list ds))) : EV K (tCB (rLen K) (tCons (tVar n) tNil)) ρ (.int ds.length) := fun G0 H0 G H σ Q E q => by
  obtain ⟨l, vs, h1, h2, h3⟩ := own_look E hi
  exact ⟨_, h1, _, vs.length, rfl, .inl ⟨vs, SqL.of h2, rfl⟩, by rw [h3.length]; exact q _ G H (.refl E.gh) (.int _)⟩
def rIntU : List V → Hp → VK → Prop := fun xs H Q => (∃ i, xs = [.int i] ∧ Q (.int i) H) ∨ ∃ k, xs = [.bl k] ∧ Q (.int (if k then 1 else 0)) H
theorem cd_int {i : Int} : CD K rIntU [.int i] (.int i) := fun xs G H Q g hx q => by
  cases hx with
  | cons a b =>
    cases a
    cases b
    exact .inl ⟨i, rfl, q _ G H (.refl g) (.int _)⟩
/-- a datum's type -/
def tyD : D → String
  | .none => "NoneType"
  | .bool _ => "bool"
  | .int _ => "int"
  | .str _ => "str"
  | .list _ => "list"
  | .tuple _ => "tuple"
  | .dict _ => "dict"
def isDicD : D → Bool
  | .dict _ => true
  | _ => false
theorem ty_dq {G H : Hp} {v : V} (g : GH G H) (h : Dq K G v d) (nd : isDicD d = false) : TyX K H v (.type (tyD d)) := by
  cases h with
  | non => exact .base .non
  | bl b => exact .base (.bl b)
  | int i => exact .base (.int i)
  | str x => exact .base (.str x)
  | lst a b => exact .base (.lst (g.lst a))
  | tup a b =>
    rcases g.t a with (h | ⟨o, h⟩) | ⟨o, its, n, h, c, _⟩
    · exact .base (.tup h)
    · exact .fTuple h
    · exact .kTuple h c
  | dK _ _ => cases nd
  | dT _ _ => cases nd
  | scr _ => cases nd
  | sta _ _ => cases nd
  | opq _ => cases nd
  | raw _ => cases nd
theorem ev_isi {T : String} {b : Bool} (h : EV K ta ρ d) (nd : isDicD d = false) (hk : kitB (tyD d) T = some b) : EV K (tCB (rIsi K) (tCons ta (tCons (tC (.ty T)) tNil))) ρ (.bool b) := fun G0 H0 G H σ Q E q =>
  h G0 H0 G H σ _ E fun v G1 H1 e1 h1 => ⟨v, .ty T, .type (tyD d), .type T, b, rfl, .ty T, ty_dq e1.gh h1 nd, kit_ty hk, q _ G1 H1 e1 (.bl b)⟩
/-- xs.append(e), xs the owned list of slot n -/
theorem st_append {n : Nat} {ds : List D} (hi : ρ[n]? = some (.ow (.list ds))) (h : EV K te ρ d) (hz : ds.length < 16000000) (q : P (.nx (ρ.set n (.ow (.list (ds ++ [d])))))) :
    ST K Ex (tDrop (tBM K "list" rAppend (tVar n) (tCons te tNil))) ρ P := fun G0 H0 G H σ D E f => by
  obtain ⟨l, vs, h1, h2, h3, h0⟩ := own_lookG E hi
  refine ⟨_, h1, .inl ⟨rfl, vs, SqL.of h2⟩, h G0 H0 G H σ _ E fun v G1 H1 e1 hv => ?_⟩
  have h4 := e1.at h0 h2
  have r4 := h3.mono e1.g
  exact ⟨l, vs, v, rfl, rfl, h4, by rw [h3.length, sizeLine_eq]; omega, f.nx _ _ _ _ q ((E.go e1).write hi h1 (.lst upd_same (r4.append (.one hv))))⟩
/-- xs[i] = e -/
theorem st_setL {n : Nat} {ds : List D} {i : Int} {j : Nat} (hi : ρ[n]? = some (.ow (.list ds))) (h : EV K te ρ d) (hb : EV K tb ρ (.int i)) (hj : ixN ds.length i = some j) (q : P (.nx (ρ.set n (.ow (.list (ds.set j d)))))) :
    ST K Ex (tAsg te (gSub (tVar n) tb rSetL)) ρ P := fun G0 H0 G H σ D E f =>
  h G0 H0 G H σ _ E fun v G1 H1 e1 hv => by
    obtain ⟨l, vs, h1, h2, h3, h0⟩ := own_lookG (E.go e1) hi
    refine ⟨_, h1, hb G0 H0 G1 H1 σ _ (E.go e1) fun y G2 H2 e2 hy => ?_⟩
    cases hy
    have h4 := e2.at h0 h2
    have r4 := h3.mono e2.g
    exact ⟨l, vs, i, j, rfl, rfl, h4, by rw [h3.length]; exact hj, f.nx _ _ _ _ q (((E.go e1).go e2).write hi h1 (.lst upd_same (r4.set j (hv.mono e2.g))))⟩
/-- x += e -/
def rIAddU : R2 := fun x y H Q => rI0 (fun i j => .int (i + j)) x y H Q ∨ (fun x y H Q => (∃ i j, x = .str i ∧ y = .str j ∧ i.length + j.length ≤ sizeLine ∧ Q (.str (i ++ j)) H) ∨ rExt2 x y H Q) x y H Q
theorem ip_addU {X : Cx} : PIp X .Add rIAddU := iop_add.or (iop_add_str.or iop_ext)
theorem st_augI {n : Nat} {a b : Int} (hi : ρ[n]? = some (.fr (.int a))) (h : EV K te ρ (.int b)) (q : P (.nx (ρ.set n (.fr (.int (a + b)))))) : ST K Ex (tAug n te rIAddU) ρ P := fun G0 H0 G H σ D E f => by
  obtain ⟨v, h1, h2⟩ := E.fr n _ hi
  cases h2
  refine ⟨_, h1, h G0 H0 G H σ _ E fun y G1 H1 e1 hy => ?_⟩
  cases hy
  exact .inl ⟨a, b, rfl, rfl, f.nx _ _ _ _ q ((E.go e1).setF n (.int _))⟩
theorem st_augO {n : Nat} {ds es : List D} (hi : ρ[n]? = some (.ow (.list ds))) (h : EV K te ρ (.list es)) (hz : ds.length + es.length ≤ 16000000) (q : P (.nx (ρ.set n (.ow (.list (ds ++ es)))))) :
    ST K Ex (tAug n te rIAddU) ρ P := fun G0 H0 G H σ D E f => by
  obtain ⟨l, vs, h1, h2, h3, h0⟩ := own_lookG E hi
  refine ⟨_, h1, h G0 H0 G H σ _ E fun y G1 H1 e1 hy => ?_⟩
  cases hy with
  | @lst b xs _ hb hr =>
    have h4 := e1.at h0 h2
    have r4 := h3.mono e1.g
    refine .inr (.inr ⟨l, b, vs, xs, rfl, rfl, h4, e1.gh.lst hb, by rw [h3.length, hr.length, sizeLine_eq]; omega, ?_⟩)
    have E2 := (E.go e1).write hi h1 (.lst (upd_same (H := H1) (a := l) (o := .lst (vs ++ xs))) (r4.append hr))
    have E3 := f.nx _ σ G1 _ q E2
    have : σ.set n (some (V.ref l)) = σ := by
      refine List.ext_getElem? fun k => ?_
      by_cases e : n = k
      · subst e
        rw [List.getElem?_set_self (List.getElem?_eq_some_iff.mp h1).1, h1]
      · rw [List.getElem?_set_ne e]
    show D.nx (σ.set n (some (V.ref l))) _
    rw [this]
    exact E3

/-! ### own defs -/
/-- what a def answers, by data -/
def PF (K : PySem.W.Frag) (R : List D → D → Prop) : Sp := fun vs H Q _ => ∃ G ds d, GH G H ∧ DqA K G vs ds ∧ R ds d ∧ ∀ v G' H', Ext G H G' H' → Dq K G' v d → Q v H'
theorem ev_call {R : List D → D → Prop} {t : TA} {ds : List D} (h : EA K t ρ ds) (hr : R ds d) : EV K (tCall (PF K R) [] Ex t) ρ d := fun G0 H0 G H σ Q E q =>
  h G0 H0 G H σ _ E fun vs G1 H1 e1 h1 => by
    rw [List.append_nil]
    exact ⟨G1, ds, d, e1.gh, h1, hr, fun v G2 H2 e2 h2 => q v G2 H2 (e1.trans e2) h2⟩
/-- the slots at a def's entry -/
def start0 (n : Nat) (ds : List D) : List Sl := ds.map Sl.fr ++ List.replicate (n - ds.length) Sl.no
theorem start0_get {n i : Nat} {ds : List D} {sl : Sl} (e : (start0 n ds)[i]? = some sl) : (∃ d, ds[i]? = some d ∧ sl = .fr d) ∨ sl = .no := by
  unfold start0 at e
  rw [List.getElem?_append] at e
  split at e
  · rw [List.getElem?_map] at e
    cases e2 : ds[i]? with
    | none => rw [e2] at e; cases e
    | some d' => rw [e2] at e; cases e; exact .inl ⟨d', rfl, rfl⟩
  · rw [List.getElem?_replicate] at e
    split at e
    · cases e; exact .inr rfl
    · cases e
theorem en_start {G H : Hp} {vs : List V} {ds : List D} {N : List Str} (g : GH G H) (h : DqA K G vs ds) : En K G H G H (L2.start N vs) (start0 N.length ds) := by
  have hl := h.length
  refine ⟨?_, .refl g, fun i d e => ?_, fun i d e => ?_, fun i a dd fl e => ?_, fun i j d e l q => ?_, fun i kls e => ?_, fun i j x y e => ?_⟩
  · unfold L2.start start0
    rw [List.length_append, List.length_append, List.length_map, List.length_map, List.length_replicate, List.length_replicate, hl]
  · rcases start0_get e with ⟨d', e2, e3⟩ | e3
    · cases e3
      obtain ⟨v, h1, h2⟩ := h.get e2
      refine ⟨v, ?_, h2⟩
      unfold L2.start
      rw [List.getElem?_append_left (by rw [List.length_map]; exact (List.getElem?_eq_some_iff.mp h1).1), List.getElem?_map, h1]
      rfl
    · cases e3
  · rcases start0_get e with ⟨d', e2, e3⟩ | e3 <;> cases e3
  · rcases start0_get e with ⟨d', e2, e3⟩ | e3 <;> cases e3
  · rcases start0_get q with ⟨d', e2, e3⟩ | e3 <;> cases e3
  · rcases start0_get e with ⟨d', e2, e3⟩ | e3 <;> cases e3
  · rcases start0_get e with ⟨d', e2, e3⟩ | e3 <;> cases e3
end
section
open PySem.Spec PyProof.Rows
variable {P : Program} {w : World} {K : PySem.W.Frag} {mg : Str → Option Value} {base : Heap}
/-- a def that raises nothing keeps its word, by its body's -/
theorem fn_pf {x qual : Str} {params : Arguments} {body : List Stmt} {scope : Scope} {f : Addr} {fd : FuncData} {N ps : List Str} {k : Nat} {R : List D → D → Prop} (F : FunD K x qual params body scope [] [] f fd) (S : FnScope N ps scope)
    (len : ∀ ds d, R ds d → ds.length = ps.length)
    (hb : ∀ (cdv : Value) (A : Around) (outer : List PySem.Env) (s : Shared) (H : Hp) (E : XK), Room k (A.deeper (envOfC qual scope s.heap.objs.size f cdv)) →
      ∃ t, PSs (cxOf CX0 P w K mg base N qual scope f cdv A outer s H E) body t ∧ ∀ ds d, R ds d → DL.ST K E0 t (start0 N.length ds) (fun o => o = .rt d ∨ (d = .none ∧ ∃ ρ, o = .nx ρ))) : FnOk P w K mg base CX0 (k + 1) f fd ps (PF K R) := by
  refine F.ok S (fun vs H Q E h => ?_) (fun cdv A outer s H vs Q E hr h => ?_)
  · obtain ⟨G, ds, d, g, ha, hR, q⟩ := h
    exact ha.length.trans (len ds d hR)
  · obtain ⟨t, h1, h2⟩ := hb cdv A outer s H E hr
    obtain ⟨G, ds, d, g, ha, hR, q⟩ := h
    refine ⟨t, h1, h2 ds d hR G H G H _ _ (en_start g ha) ⟨fun ρ' σ' G' H' p E' => ?_, fun d' v G' H' p x hv => ?_, fun ρ' σ' G' H' p E' => ?_, fun ρ' σ' G' H' p E' => ?_, fun C fl dd fs G' H' p => ?_⟩⟩
    · rcases p with p | ⟨rfl, _⟩
      · cases p
      · exact q _ G' H' E'.ext .non
    · rcases p with p | ⟨rfl, ρ, p⟩
      · cases p
        exact q v G' H' x hv
      · cases p
    · rcases p with p | ⟨_, _, p⟩ <;> cases p
    · rcases p with p | ⟨_, _, p⟩ <;> cases p
    · rcases p with p | ⟨_, _, p⟩ <;> cases p
end
end DL

set_option maxHeartbeats 1000000
/-! DL7: exceptions of own classes with fields: made, raised, caught, asked, by data. -/
namespace PySem.W
open PySem PySem.Spec PySem.Calls PyProof.Rows
section
variable {prog : Program} {w : World} {A : Around} {E : Value → Shared → Prop} {s : Shared} {K : Frag} {x D : Addr} {ox : Obj} {od : Option Obj}
theorem dl_findObj {C : Addr} {name : Str} {a g : Value} (od : Option Obj) (hc : (clsIn K C).isSome = true) (ha : findIn K (.ref C) name = some (some a)) (hg : specialIn K a "__get__" = some (some g)) (ht : takesIn K a = some true) : findObj K C od name = some (.bind g a) := by
  obtain ⟨cd, q⟩ := Option.isSome_iff_exists.mp hc
  unfold findObj
  rw [q, Option.bind_some, ha, Option.bind_some]
  simp [hg, ht]
theorem dl_class {Q : Option Value → Shared → Prop} (C : L2.ExcC K D) (X : K.In s.heap) (I : InstAt s.heap x ox D od) (h : Q (some (.ref D)) { s with toks := s.toks + 1 }) : wpAny (model prog w) A (getAttr? (.ref x) "__class__") Q E s := by
  have hf : findObj K D od "__class__" = some (.bind (.builtin "getset_descriptor.__get__") (.builtin "object.__class__")) := dl_findObj od (by obtain ⟨cd, hc, _⟩ := any_some C.hd; rw [hc]; rfl) C.ha C.hn C.ht
  obtain ⟨hp, g, d, t, os⟩ := s
  have T0 := I.type (M := model prog w)
  have T1 := looks_findIn (M := model prog w) X C.hg
  have T2 := looks_findIn (M := model prog w) X C.hk
  have T3 := looks_find (M := model prog w) X I hf
  have sub : Looks (model prog w) hp (isInstance (.ref x) (.type "BaseException")) true := T0.andThen (looks_subIn X C.hs)
  have e0 : (false && onTheHeap (Value.builtin "BaseException.__getattribute__")) = false := rfl
  have e2 : (Value.builtin "BaseException.__getattribute__" == Value.builtin "object.__getattribute__") = false := by decide +kernel
  have e1 : (onTheHeap (Value.ref D) && Value.builtin "BaseException.__getattribute__" == Value.builtin "object.__getattribute__") = false := by rw [e2]; rfl
  unfold getAttr? getAttrBy? getAttrBy
  refine wpAny_bind (wpAny_mkText (wpAny_bind (wpAny_attempt (wpAny_holding (wpAny_bind (T0.at (wpAny_bind (T1.at ?_))))))))
  show wpAny _ _ (if (onTheHeap (Value.ref D) && Value.builtin "BaseException.__getattribute__" == Value.builtin "object.__getattribute__") = true then _ else _) _ _ _
  rw [e1, if_neg Bool.false_ne_true]
  unfold getAttrByItsOwn hookBefore
  refine wpAny_bind ?_
  rw [if_pos (show onTheHeap (Value.ref D) = true from rfl)]
  refine T2.at ?_
  refine wpAny_bind (wpAny_attempt (wpAny_holding ?_))
  unfold callGetattribute
  rw [e0, if_neg Bool.false_ne_true]
  unfold boundAndCalled
  rw [PySem.F.excAttr_ValueError.ga.bind (.ref x)]
  refine wpAny_bind (wpAny_pure ?_)
  show wpAny _ _ (call (.builtin "BaseException.__getattribute__") [.ref x, .str "__class__" t]) _ _ _
  refine wpAny_call (codeAny_call_builtin PySem.F.excAttr_ValueError.ga.plain PySem.F.entry_bexc_ga ?_)
  refine @check_slot (model prog w) _ _ ⟨hp, g, d, t + 1, os⟩ "BaseException.__getattribute__" "BaseException" "__getattribute__" (.ref x) [.str "__class__" t] [] _ (by decide +kernel) (by decide +kernel) sub (PySem.F.args_bexc_ga (.ref x) (.str "__class__" t)) ?_
  unfold Builtin.«object.__getattribute__»
  refine wpAny_bind (wpAny_of_eq (a := ((Value.ref x : Value), [Value.str "__class__" t])) (by first | rfl | (simp only [slotArgs]; rfl)) ?_)
  refine wpAny_bind (wpAny_pure (wpAny_bind (T0.at (wpAny_bind (T3.at ?_)))))
  show wpAny _ _ (holding [Value.builtin "object.__class__"] (call (.builtin "getset_descriptor.__get__") [.builtin "object.__class__", .ref x, .ref D]) >>= ret) _ _ _
  refine wpAny_bind (wpAny_holding (wpAny_call (class_get (s := ⟨hp, g, d, t + 1, os⟩) (ox := ox) (od := od) X I C.hm ?_)))
  refine wpAny_pure ?_
  show wpAny _ _ (handedOut (.ref D)) _ _ _
  rw [handedOut_of (v := .ref D) rfl]
  first
    | exact wpAny_pure (wpAny_pure h)
    | exact wpAny_pure h
    | exact wpAny_pure (wpAny_bind (wpAny_pure (wpAny_pure h)))
theorem dl_kitx (C : L2.ExcC K D) : KitX K (.ref x) (.ref D) (fun h => InstAt h x ox D od) where
  ty := fun _ _ _ I => I.type
  it := fun _ _ X _ => by
    obtain ⟨cdD, hcD, _⟩ := any_some C.hd
    unfold clsIn at hcD
    split at hcD
    · rename_i c' d' cd' sl' ho
      intro A' Q' E' s' k q
      unfold isType loadHead
      exact wpAny_bind (wpAny_loadPart (k _ _ (X _ _ ho)) (wpAny_pure q))
    · cases hcD
  ne := fun h tp dd its n sl X htp => by
    obtain ⟨cdD, hcD, _⟩ := any_some C.hd
    refine Bool.eq_false_iff.mpr fun q => ?_
    have e : D = tp := Value.ref.inj (beq_iff_eq.mp q)
    subst e
    unfold clsIn at hcD
    split at hcD
    · rename_i c' d' cd' sl' ho
      have z := (X _ _ ho).symm.trans htp
      cases z
    · cases hcD
  ca := fun X I k => dl_class C X I k
end
end PySem.W

namespace DL
open PySem L2 PySem.Spec PyProof.Rows
/-- isinstance(e, c), e the exception (with a dict of its own) that the suite holds -/
def rIsX (K : PySem.W.Frag) (cls : Value) (d : Option Addr) (a : Addr) : List V → Hp → VK → Prop := fun xs H Q => ∃ (c : V) (cv : Value) (b : Bool) (D dd : Addr) (fs : List (Str × V)),
  xs = [.ref a, c] ∧ cls = .ref D ∧ d = some dd ∧ H dd = some (.xd fs) ∧ ExcC K D ∧ (∀ u, RelV c u → u = cv) ∧ PySem.W.kitOne K (.ref D) cv = some b ∧ Q (.bl b) H
theorem call_isX {X : Cx} {a : Addr} {cls : Value} {d : Option Addr} {oe : Obj} {pn : List (Addr × Obj)} (hz : Zc cls d oe) (hf : ∃ vs, oe.data = .fields vs) : CallR (X.suite a ((a, oe) :: pn)) (.builtin "isinstance") (rIsX X.K cls d a) := by
  intro pins s σ H xs us Q I r h
  obtain ⟨c, cv, b, D, dd, fs, rfl, rfl, rfl, hdd, hC, hcv, e, q⟩ := h
  cases r with
  | cons rx rr =>
    cases rr with
    | cons rt rr =>
      cases rr
      cases rx
      have ec := hcv _ rt
      subst ec
      obtain ⟨hget, _⟩ := I.pin (a, oe) (List.mem_append.mpr (.inl List.mem_cons_self))
      obtain ⟨vs, hv⟩ := hf
      have hx : ObjOk X.prog X.w H s.heap dd (.xd fs) := I.hok dd _ hdd
      obtain ⟨mA, hns, _⟩ := hx
      obtain ⟨o1, ho1, _⟩ := lookIn_ns hns
      have J : PySem.W.InstAt s.heap a oe D (some o1) := ⟨hget, hz.1, by unfold PySem.W.notCls; rw [hv] <;> rfl, by rw [hz.2]; exact ho1⟩
      exact PySem.W.kia_one (PySem.W.dl_kitx hC) I.kIn J e (fun z => nomatch z) fun tk => ⟨.bl b, H, I.kept (t' := tk) fun _ _ z => z, rfl, q⟩

section
variable {K : PySem.W.Frag} {ρ : List Sl} {ta te : TE} {d : D} {P : Oc → Prop} {Ex : XK}
/-- what an __init__ that stores its arguments, each under its name, keeps -/
def spI (K : PySem.W.Frag) (C : Addr) (fls : List Str) : Sp := fun vs H Q _ => ∃ (a : Addr) (ys : List V), vs = .ref a :: ys ∧ ys.length = fls.length ∧ H a = some (exo a C none) ∧
  ∀ d H2, H d = none → d ≠ a → H2 a = some (exo a C (some d)) → H2 d = some (exd d (fls.zip ys).reverse) → (∀ b, b ≠ a → b ≠ d → H2 b = H b) → Q .non H2
/-- raise C(e, ..) -/
theorem st_raise {C : Addr} {fls : List Str} {t : TA} {ds : List D} (h : EA K t ρ ds) (hl : ds.length = fls.length) (hl2 : ds.length ≤ 1000) (q : P (.ex C (fls.zip ds).reverse)) :
    ST K Ex (fun _ σ H => tMkO C (spI K C fls) [] t σ H fun cls d H' => (fun (cls : Value) (d : Option Addr) (_ : L2.St) (H : Hp) => Ex cls d H) cls d σ H') ρ P := fun G0 H0 G H σ D E f =>
  h G0 H0 G H σ _ E fun vs G1 H1 e1 h1 => ⟨by rw [h1.length]; exact hl2, fun a ha => by
    rw [List.append_nil]
    refine ⟨a, vs, rfl, by rw [h1.length]; exact hl, upd_same, fun d H2 hd hda ea ed keep => ⟨rfl, d, (fls.zip vs).reverse, ea, ed, ?_, ?_⟩⟩
    · rw [upd_ne hda] at hd; exact hd
    · have hd1 : H1 d = none := by rw [upd_ne hda] at hd; exact hd
      have x : Ext G1 H1 (upd G1 d (.xd (fls.zip vs).reverse)) (upd (del H2 a) d (.xd (fls.zip vs).reverse)) := by
        have gd : G1 d = none := e1.gh.none hd1
        have ga : G1 a = none := e1.gh.none ha
        have old : ∀ b o, H1 b = some o → del H2 a b = some o := fun b o hb => by
          have n1 : b ≠ a := ne_of_none hb ha
          have n2 : b ≠ d := ne_of_none hb hd1
          rw [del_ne n1, keep b n1 n2, upd_ne n1]
          exact hb
        refine ⟨fun b o hb => by rw [upd_ne (ne_of_none hb gd)]; exact hb, fun b o hb => .inl (by rw [upd_ne (ne_of_none hb hd1)]; exact old b o hb), fun b o hb => ?_, fun b o hb _ n => by rw [upd_ne (ne_of_none hb hd1)]; exact n⟩
        by_cases hbd : b = d
        · subst hbd
          rw [upd_same] at hb
          cases hb
          exact .of upd_same
        · rw [upd_ne hbd] at hb
          have n1 : b ≠ a := ne_of_none hb ga
          exact (e1.gh b o hb).eq (by rw [upd_ne hbd, del_ne n1, keep b n1 hbd, upd_ne n1])
      refine f.ex C _ d _ _ _ q (E.ext.trans (e1.trans x)) upd_same ?_
      have h2 := h1.mono x.g
      have hlen := h1.length
      refine ⟨?_, ?_⟩
      · rw [List.map_reverse, List.map_reverse, List.map_fst_zip (by omega), List.map_fst_zip (by omega)]
      · rw [List.map_reverse, List.map_reverse, List.map_snd_zip (by omega), List.map_snd_zip (by omega)]
        exact h2.rev⟩
/-- a def that may raise: it answers d where R tells so, it raises C with the fields fl where Y tells so -/
def PX (K : PySem.W.Frag) (R : List D → D → Prop) (Y : List D → Addr → List (Str × D) → Prop) : Sp := fun vs H Q E => ∃ G ds, GH G H ∧ DqA K G vs ds ∧
  ((∃ d, R ds d ∧ ∀ v G' H', Ext G H G' H' → Dq K G' v d → Q v H') ∨ (∃ C fl, Y ds C fl ∧ ∀ dd fs G' H', Ext G H G' H' → G' dd = some (.xd fs) → DqF K G' fs fl → E (.ref C) (some dd) H'))
/-- a call in a def that lets the callee's exception out -/
theorem st_asgX {R : List D → D → Prop} {Y : List D → Addr → List (Str × D) → Prop} {t : TA} {ds : List D} {j : Nat} (h : EA K t ρ ds) (hr : (∃ d, R ds d ∧ P (.nx (ρ.set j (.fr d)))) ∨ (∃ C fl, Y ds C fl ∧ P (.ex C fl))) :
    ST K Ex (tAsg (tCallS (PX K R Y) (fun _ => Ex) t) (gName j)) ρ P := fun G0 H0 G H σ D E f =>
  h G0 H0 G H σ _ E fun vs G1 H1 e1 h1 => by
    have E1 := E.go e1
    rcases hr with ⟨d, hd, q⟩ | ⟨C, fl, hY, q⟩
    · exact ⟨G1, ds, e1.gh, h1, .inl ⟨d, hd, fun v G2 H2 x hv => f.nx _ _ G2 H2 q ((E1.go x).setF j hv)⟩⟩
    · exact ⟨G1, ds, e1.gh, h1, .inr ⟨C, fl, hY, fun dd fs G2 H2 x hx hf => f.ex C fl dd fs G2 H2 q (E1.ext.trans x) hx hf⟩⟩
theorem st_retX {R : List D → D → Prop} {Y : List D → Addr → List (Str × D) → Prop} {t : TA} {ds : List D} (h : EA K t ρ ds) (hr : (∃ d, R ds d ∧ P (.rt d)) ∨ (∃ C fl, Y ds C fl ∧ P (.ex C fl))) :
    ST K Ex (tRet (tCallS (PX K R Y) (fun _ => Ex) t)) ρ P := fun G0 H0 G H σ D E f =>
  h G0 H0 G H σ _ E fun vs G1 H1 e1 h1 => by
    have E1 := E.go e1
    rcases hr with ⟨d, hd, q⟩ | ⟨C, fl, hY, q⟩
    · exact ⟨G1, ds, e1.gh, h1, .inl ⟨d, hd, fun v G2 H2 x hv => f.rt _ _ G2 H2 q (E1.ext.trans x) hv⟩⟩
    · exact ⟨G1, ds, e1.gh, h1, .inr ⟨C, fl, hY, fun dd fs G2 H2 x hx hf => f.ex C fl dd fs G2 H2 q (E1.ext.trans x) hx hf⟩⟩
/-- the ends of an except suite: slot i is forgotten -/
def suiP (i : Nat) (P : Oc → Prop) : Oc → Prop
  | .nx ρ => P (.nx (ρ.set i .no))
  | .ct ρ => P (.ct (ρ.set i .no))
  | .bk ρ => P (.bk (ρ.set i .no))
  | .rt d => P (.rt d)
  | .ex _ _ => False
/-- try: x = f(..) / except X as n: suite -/
theorem st_tryAsg {R : List D → D → Prop} {Y : List D → Addr → List (Str × D) → Prop} {t : TA} {ds : List D} {i j : Nat} {c : Value} {ts : Addr → Value → Option Addr → TS} {Wout : WX} (h : EA K t ρ ds)
    (hr : (∃ d, R ds d ∧ P (.nx (ρ.set j (.fr d)))) ∨
      (∃ C fl, Y ds C fl ∧ PySem.W.exmOne K (.ref C) c = some true ∧ ∀ a dd, ST K E0 (ts a (.ref C) (some dd)) (ρ.set i (Sl.ex a dd fl)) (suiP i P))) :
    ST K Ex (fun D σ H => tAsg (tCallS (PX K R Y) (WE (wAs K c i ts Wout D)) t) (gName j) D σ H) ρ P := fun G0 H0 G H σ D E f =>
  h G0 H0 G H σ _ E fun vs G1 H1 e1 h1 => by
    have E1 := E.go e1
    rcases hr with ⟨d, hd, q⟩ | ⟨C, fl, hY, he, q⟩
    · exact ⟨G1, ds, e1.gh, h1, .inl ⟨d, hd, fun v G2 H2 x hv => f.nx _ _ G2 H2 q ((E1.go x).setF j hv)⟩⟩
    · refine ⟨G1, ds, e1.gh, h1, .inr ⟨C, fl, hY, fun dd fs G2 H2 x hx hf => ⟨true, he, fun _ a ha => ?_, fun z => nomatch z⟩⟩⟩
      exact q a dd G0 H0 G2 H2 _ _ ((E1.go x).setE i hx hf) ⟨fun ρ' σ' G' H' p E' => f.nx _ _ G' H' p (E'.setX i none), fun d v G' H' p x hd => f.rt d v G' H' p x hd,
        fun ρ' σ' G' H' p E' => f.bk _ _ G' H' p (E'.setX i none), fun ρ' σ' G' H' p E' => f.ct _ _ G' H' p (E'.setX i none), fun C fl dd fs G' H' p => p.elim⟩
/-- e.f of a caught exception -/
theorem ev_xf {n : Nat} {a dd C : Addr} {fl : List (Str × D)} {f : Str} (hn : ρ[n]? = some (Sl.ex a dd fl)) (hf : fl.lookup f = some d) : EV K (tXf a (.ref C) (some dd) C f (tVar n)) ρ d := fun G0 H0 G H σ Q E q => by
  obtain ⟨h1, fs, h2, h3⟩ := E.ex n a dd fl hn
  obtain ⟨v, h4, h5⟩ := h3.get hf
  rcases E.gh dd _ h2 with ⟨h6, _⟩ | ⟨z, _⟩ | z
  · exact ⟨_, h1, rfl, rfl, dd, fs, v, rfl, h6, h4, q v G H (.refl E.gh) h5⟩
  · cases z
  · exact z.elim
/-- isinstance(e, c) of a caught exception -/
theorem ev_isX {n : Nat} {a dd C : Addr} {fl : List (Str × D)} {c : V} {cv : Value} {b : Bool} (hn : ρ[n]? = some (Sl.ex a dd fl)) (hC : ExcC K C) (hc : ∀ u, RelV c u → u = cv) (hk : PySem.W.kitOne K (.ref C) cv = some b) :
    EV K (tCB (rIsX K (.ref C) (some dd) a) (tCons (tVar n) (tCons (tC c) tNil))) ρ (.bool b) := fun G0 H0 G H σ Q E q => by
  obtain ⟨h1, fs, h2, h3⟩ := E.ex n a dd fl hn
  rcases E.gh dd _ h2 with ⟨h6, _⟩ | ⟨z, _⟩ | z
  · exact ⟨_, h1, c, cv, b, C, dd, fs, rfl, rfl, rfl, h6, hC, hc, hk, q _ G H (.refl E.gh) (.bl b)⟩
  · cases z
  · exact z.elim
end
section
variable {P : Program} {w : World} {K : PySem.W.Frag} {mg : Str → Option Value} {base : Heap}
/-- a def that may raise keeps its word, by its body's -/
theorem fn_px {x qual : Str} {params : Arguments} {body : List Stmt} {scope : Scope} {f : Addr} {fd : FuncData} {N ps : List Str} {k : Nat} {R : List D → D → Prop} {Y : List D → Addr → List (Str × D) → Prop} (F : FunD K x qual params body scope [] [] f fd) (S : FnScope N ps scope)
    (len : ∀ ds d, R ds d → ds.length = ps.length) (lenY : ∀ ds C fl, Y ds C fl → ds.length = ps.length)
    (hb : ∀ (cdv : Value) (A : Around) (outer : List PySem.Env) (s : Shared) (H : Hp) (E : XK), Room k (A.deeper (envOfC qual scope s.heap.objs.size f cdv)) →
      ∃ t, PSs (cxOf (L2.CX P w) P w K mg base N qual scope f cdv A outer s H E) body t ∧ (∀ ds d, R ds d → DL.ST K E t (start0 N.length ds) (fun o => o = .rt d ∨ (d = .none ∧ ∃ ρ, o = .nx ρ))) ∧
        (∀ ds C fl, Y ds C fl → DL.ST K E t (start0 N.length ds) (fun o => o = .ex C fl))) : FnOk P w K mg base (L2.CX P w) (k + 1) f fd ps (PX K R Y) := by
  refine F.ok S (fun vs H Q E h => ?_) (fun cdv A outer s H vs Q E hr h => ?_)
  · obtain ⟨G, ds, g, ha, h⟩ := h
    rcases h with ⟨d, hR, _⟩ | ⟨C, fl, hY, _⟩
    · exact ha.length.trans (len ds d hR)
    · exact ha.length.trans (lenY ds C fl hY)
  · obtain ⟨t, h1, h2, h3⟩ := hb cdv A outer s H E hr
    obtain ⟨G, ds, g, ha, h⟩ := h
    rcases h with ⟨d, hR, q⟩ | ⟨C, fl, hY, q⟩
    · refine ⟨t, h1, h2 ds d hR G H G H _ _ (en_start g ha) ⟨fun ρ' σ' G' H' p E' => ?_, fun d' v G' H' p x hv => ?_, fun ρ' σ' G' H' p E' => ?_, fun ρ' σ' G' H' p E' => ?_, fun C fl dd fs G' H' p => ?_⟩⟩
      · rcases p with p | ⟨rfl, _⟩
        · cases p
        · exact q _ G' H' E'.ext .non
      · rcases p with p | ⟨rfl, ρ, p⟩
        · cases p
          exact q v G' H' x hv
        · cases p
      · rcases p with p | ⟨_, _, p⟩ <;> cases p
      · rcases p with p | ⟨_, _, p⟩ <;> cases p
      · rcases p with p | ⟨_, _, p⟩ <;> cases p
    · exact ⟨t, h1, h3 ds C fl hY G H G H _ _ (en_start g ha) ⟨(fun _ _ _ _ p _ => nomatch p), (fun _ _ _ _ p _ => nomatch p), (fun _ _ _ _ p _ => nomatch p), (fun _ _ _ _ p _ => nomatch p), fun C' fl' dd fs G' H' p x h4 h5 => by
        cases p
        exact q dd fs G' H' x h4 h5⟩⟩
/-- an __init__ with one field -/
theorem fn_init1 {qual f1 : Str} {params : Arguments} {body : List Stmt} {scope : Scope} {f C : Addr} {fd : FuncData} {N : List Str} {k : Nat} (F : FunD K "__init__" qual params body scope [] [] f fd) (S : FnScope N ["self", f1] scope) (hN : N = (["self", f1] : List Str)) (T : OexC K C) (hno : PySem.W.findIn K (.ref C) f1 = some none)
    (hb : ∀ (cdv : Value) (A : Around) (outer : List PySem.Env) (s : Shared) (H : Hp) (E : XK), PSs (cxOf CX0 P w K mg base N qual scope f cdv A outer s H E) body (tOst K f1 (tVar 0) (tVar 1))) :
    FnOk P w K mg base CX0 (k + 1) f fd ["self", f1] (spI K C [f1]) := by
  subst hN
  refine F.ok S (fun vs H Q E h => ?_) (fun cdv A outer s H vs Q E hr h => ⟨_, hb cdv A outer s H E, ?_⟩)
  · obtain ⟨a, ys, rfl, hl, _⟩ := h
    rw [List.length_cons, hl]; rfl
  · obtain ⟨a, ys, rfl, hl, ha, q⟩ := h
    match ys, hl with
    | [y], _ =>
      refine ⟨_, rfl, _, rfl, a, C, rfl, T, hno, .inl ⟨ha, fun dx hd ne => ?_⟩⟩
      refine q dx _ hd ne upd_same (by rw [upd_ne ne, upd_same]; rfl) fun b h1 h2 => by rw [upd_ne h1, upd_ne h2]
/-- .. with two fields -/
theorem fn_init2 {qual f1 f2 : Str} {params : Arguments} {body : List Stmt} {scope : Scope} {f C : Addr} {fd : FuncData} {N : List Str} {k : Nat} (F : FunD K "__init__" qual params body scope [] [] f fd) (S : FnScope N ["self", f1, f2] scope) (hN : N = (["self", f1, f2] : List Str)) (T : OexC K C)
    (hno1 : PySem.W.findIn K (.ref C) f1 = some none) (hno2 : PySem.W.findIn K (.ref C) f2 = some none)
    (hb : ∀ (cdv : Value) (A : Around) (outer : List PySem.Env) (s : Shared) (H : Hp) (E : XK), PSs (cxOf CX0 P w K mg base N qual scope f cdv A outer s H E) body (tSeq (tOst K f1 (tVar 0) (tVar 1)) (tOst K f2 (tVar 0) (tVar 2)))) :
    FnOk P w K mg base CX0 (k + 1) f fd ["self", f1, f2] (spI K C [f1, f2]) := by
  subst hN
  refine F.ok S (fun vs H Q E h => ?_) (fun cdv A outer s H vs Q E hr h => ⟨_, hb cdv A outer s H E, ?_⟩)
  · obtain ⟨a, ys, rfl, hl, _⟩ := h
    rw [List.length_cons, hl]; rfl
  · obtain ⟨a, ys, rfl, hl, ha, q⟩ := h
    match ys, hl with
    | [y, z], _ =>
      refine ⟨_, rfl, _, rfl, a, C, rfl, T, hno1, .inl ⟨ha, fun dx hd ne => ?_⟩⟩
      refine ⟨_, rfl, _, rfl, a, C, rfl, T, hno2, .inr ⟨dx, _, upd_same, by rw [upd_ne ne, upd_same], by show 1 ≤ 900; decide, ?_⟩⟩
      refine q dx _ hd ne (by rw [upd_ne ne.symm, upd_same]) (by rw [upd_same]; rfl) fun b h1 h2 => by rw [upd_ne h2, upd_ne h1, upd_ne h2]
end
end DL

set_option maxHeartbeats 1000000
/-! DL8: what the top has left: a Hook with one more Bool; own exception classes. -/
namespace DL
open PySem PySem.Spec PyProof.Rows L2

/-! ### the Hook -/
structure SaysB (fa : List He.Fa) (fn : List He.DefD) (ex : PySem.W.Frag → Bool) (K : PySem.W.Frag) : Prop where
  d : He.SaysD fa fn K
  more : ex K = true
abbrev AlB : Type := He.AlD × Bool
def obsB (fa : List He.Fa) (fn : List He.DefD) (ex : PySem.W.Frag → Bool) (K : PySem.W.Frag) : AlB := (He.obsD fa fn K, ex K)
def obsBG (n : Nat) (fa : List He.Fa) (fn : List He.DefD) (ex : PySem.W.Frag → Bool) (g : Addr → Option Obj) : AlB := obsB fa fn ex (He.frG g (He.asD g n))
def hookB (n : Nat) (fa : List He.Fa) (fn : List He.DefD) (ex : PySem.W.Frag → Bool) : PySem.W.Hook where
  α := AlB
  obs := fun s => obsBG n fa fn ex s.heap.get?
  val := fun _ => (He.valD fn, true)
  says := fun _ h => ∃ K : PySem.W.Frag, K.In h ∧ SaysB fa fn ex K
  of := fun _ _ e => ⟨_, He.frG_in, ⟨congrArg (fun z : AlB => z.1) e, congrArg (fun z : AlB => z.2) e⟩⟩
  keeps := fun _ _ _ ⟨K, hK, c⟩ k => ⟨K, PySem.W.Frag.In.keeps hK k, c⟩
theorem obsBG_eq {n : Nat} {fa : List He.Fa} {fn : List He.DefD} {ex : PySem.W.Frag → Bool} {g : Addr → Option Obj} {s : Shared} (h : ∀ a, g a = s.heap.get? a) : obsBG n fa fn ex g = (hookB n fa fn ex).obs s := by
  have e : g = s.heap.get? := funext h
  rw [e] <;> rfl

/-! ### an own exception class -/
def oexB (K : PySem.W.Frag) (C : Addr) : Bool := match K.lookup C with
  | some ⟨.type "type", _, .cls cd, sl⟩ => (match cd.mro, sl.toList with
    | .ref C' :: bm, [_, _, _, _, some (.builtin n), _] => C' == C && (n == "ValueError.__new__" && (!cd.hasDel && (cd.hasDict && PySem.HandSPX.refsVE bm)))
    | _, _ => false)
  | _ => false
theorem oexB_ok {K : PySem.W.Frag} {C : Addr} (h : oexB K C = true) : ∃ nm q N bs bm sn sub ab col dd k0 k1 k2 k3 k5, K.lookup C = some (excClassObj nm q C N bs bm true sn sub ab col dd k0 k1 k2 k3 k5 "ValueError.__new__") ∧ PySem.HandSPX.refsVE bm = true := by
  unfold oexB at h
  split at h
  · rename_i dd cd sl hl
    split at h
    · rename_i C' bm a0 a1 a2 a3 n a5 hm hs
      obtain ⟨h1, h⟩ := Bool.and_eq_true_iff.mp h
      obtain ⟨h2, h⟩ := Bool.and_eq_true_iff.mp h
      obtain ⟨h3, h⟩ := Bool.and_eq_true_iff.mp h
      obtain ⟨h4, h5⟩ := Bool.and_eq_true_iff.mp h
      have e1 : C' = C := beq_iff_eq.mp h1
      have e2 : n = "ValueError.__new__" := beq_iff_eq.mp h2
      subst e1
      subst e2
      obtain ⟨nm, bs, mro, N, q, hd, sn, sub, ab, col, del⟩ := cd
      dsimp only at hm h3 h4
      subst hm
      subst h4
      have e3 : del = false := by
        cases del with
        | false => rfl
        | true => cases h3
      subst e3
      have e4 : sl = #[a0, a1, a2, a3, some (.builtin "ValueError.__new__"), a5] := by
        cases sl with
        | mk l => exact congrArg Array.mk hs
      subst e4
      exact ⟨nm, q, N, bs, bm, sn, sub, ab, col, dd, a0, a1, a2, a3, a5, hl, h5⟩
    · cases h
  · cases h
structure ExF (K : PySem.W.Frag) (C : Addr) : Prop where
  oex : OexC K C
  exc : ExcC K C
  xf : XfC K C
def exB (K : PySem.W.Frag) (C : Addr) : Bool := oexB K C && (He.eqO (PySem.W.findIn K (.ref C) "__setattr__") (some (some (.builtin "object.__setattr__"))) && (decide (PySem.W.subIn K (.ref C) (.type "BaseException") = some true) && (decide (PySem.W.typeIn K (.ref C) = some (.type "type")) && (PySem.W.keepIn K (.ref C) &&
  (He.eqO (PySem.W.findIn K (.ref C) "__getattribute__") (some (some (.builtin "BaseException.__getattribute__"))) && (He.eqO (PySem.W.findIn K (.ref C) "__getattr__") (some none) && (PySem.W.hasDictIn K C && (He.eqO (PySem.W.findIn K (.ref C) "__class__") (some (some (.builtin "object.__class__"))) &&
  (He.eqO (PySem.W.specialIn K (.builtin "object.__class__") "__get__") (some (some (.builtin "getset_descriptor.__get__"))) && (decide (PySem.W.takesIn K (.builtin "object.__class__") = some true) && decide (PySem.W.mroIn K C (.type "object") = some true)))))))))))
theorem exB_ok {K : PySem.W.Frag} {C : Addr} (h : exB K C = true) : ExF K C := by
  unfold exB at h
  obtain ⟨h1, h⟩ := Bool.and_eq_true_iff.mp h
  obtain ⟨h2, h⟩ := Bool.and_eq_true_iff.mp h
  obtain ⟨h3, h⟩ := Bool.and_eq_true_iff.mp h
  obtain ⟨h4, h⟩ := Bool.and_eq_true_iff.mp h
  obtain ⟨h5, h⟩ := Bool.and_eq_true_iff.mp h
  obtain ⟨h6, h⟩ := Bool.and_eq_true_iff.mp h
  obtain ⟨h7, h⟩ := Bool.and_eq_true_iff.mp h
  obtain ⟨h8, h⟩ := Bool.and_eq_true_iff.mp h
  obtain ⟨h9, h⟩ := Bool.and_eq_true_iff.mp h
  obtain ⟨h10, h⟩ := Bool.and_eq_true_iff.mp h
  obtain ⟨h11, h12⟩ := Bool.and_eq_true_iff.mp h
  have a3 := of_decide_eq_true h3
  exact ⟨⟨oexB_ok h1, He.eqO_ok h2, a3, of_decide_eq_true h4, h5⟩, ⟨He.eqO_ok h6, He.eqO_ok h7, a3, h8, He.eqO_ok h9, He.eqO_ok h10, of_decide_eq_true h11, of_decide_eq_true h12⟩, ⟨He.eqO_ok h6, He.eqO_ok h7, a3, h8⟩⟩
/-- its __init__ -/
def exI (K : PySem.W.Frag) (C : Addr) : Bool := He.eqO (PySem.W.findIn K (.ref C) "__init__") (some (some (.ref (He.ma K C "__init__")))) && decide (PySem.W.typeIn K (.ref (He.ma K C "__init__")) = some (.type "function"))
theorem exI_ok {K : PySem.W.Frag} {C : Addr} (h : exI K C = true) : PySem.W.findIn K (.ref C) "__init__" = some (some (.ref (He.ma K C "__init__"))) ∧ PySem.W.typeIn K (.ref (He.ma K C "__init__")) = some (.type "function") := by
  obtain ⟨h1, h2⟩ := Bool.and_eq_true_iff.mp h
  exact ⟨He.eqO_ok h1, of_decide_eq_true h2⟩
def kitR (K : PySem.W.Frag) (C E : Addr) (b : Bool) : Bool := decide (PySem.W.kitOne K (.ref C) (.ref E) = some b)
def kitT (K : PySem.W.Frag) (C : Addr) (n : String) (b : Bool) : Bool := decide (PySem.W.kitOne K (.ref C) (.type n) = some b)
theorem kitR_ok {K : PySem.W.Frag} {C E : Addr} {b : Bool} (h : kitR K C E b = true) : PySem.W.kitOne K (.ref C) (.ref E) = some b := of_decide_eq_true h
theorem kitT_ok {K : PySem.W.Frag} {C : Addr} {n : String} {b : Bool} (h : kitT K C n b = true) : PySem.W.kitOne K (.ref C) (.type n) = some b := of_decide_eq_true h
/-- all of a list of Bools -/
theorem allB {bs : List Bool} (h : bs.all id = true) (i : Nat) {b : Bool} (e : bs[i]? = some b) : b = true := List.all_eq_true.mp h b (List.mem_of_getElem? e)
end DL

set_option maxHeartbeats 1000000
/-! DL9: short words for derivations and readings. -/
namespace DL
open PySem PySem.Spec PyProof.Rows L2

theorem b_len : bootBuiltins "len" = some (.builtin "len") := by decide +kernel
theorem b_isinstance : bootBuiltins "isinstance" = some (.builtin "isinstance") := by decide +kernel
theorem b_sorted : bootBuiltins "sorted" = some (.builtin "sorted") := by decide +kernel
theorem b_int : bootBuiltins "int" = some (.type "int") := by decide +kernel
theorem b_str : bootBuiltins "str" = some (.type "str") := by decide +kernel
theorem b_bool : bootBuiltins "bool" = some (.type "bool") := by decide +kernel
theorem b_tuple : bootBuiltins "tuple" = some (.type "tuple") := by decide +kernel
theorem b_list : bootBuiltins "list" = some (.type "list") := by decide +kernel
theorem b_dict : bootBuiltins "dict" = some (.type "dict") := by decide +kernel
theorem b_ValueError : bootBuiltins "ValueError" = some (.type "ValueError") := by decide +kernel

/-- a def of the top keeps sp, at level k -/
structure Okd (P : Program) (w : World) (K : PySem.W.Frag) (mg : Str → Option Value) (base : Heap) (CX : CXT) (k : Nat) (x : Str) (ps : List Str) (sp : Sp) : Prop where
  m : mg x = some (.ref (He.ga K x))
  ok : ∃ fd, FnOk P w K mg base CX k (He.ga K x) fd ps sp ∧ Binds K fd ps [] ∧ PySem.W.keepIn K (.ref (He.ga K x)) = true
section
variable {X : Cx} {pos p : Pos}
theorem pe_callD {k j : Nat} {x : Str} {ps : List Str} {sp : Sp} {e : Expr} {es : List Expr} {t : TA} (O : Okd X.prog X.w X.K X.mg X.base CX0 k x ps sp) (hr : Room j X.A) (hk : k ≤ j) (ha : PA X (e :: es) t) (hg : Gl X x := by rfl)
    (hdb : (x == ("__debug__" : Str)) = false := by decide) (he : starEach (e :: es) X.env = (false, eval e X.env) :: starEach es X.env := by rfl) (hpl : (backTo pos (starEach es X.env)).any (·.1) = false := by rfl) :
    PE X (.Call (.Name x p) (e :: es) [] pos) (tCall sp [] E0 t) := by
  obtain ⟨m, fd, F, b, kp⟩ := O
  exact pe_call F (hr.mono hk) hg m kp b .nil pass0 ha hdb he hpl
/-- .. of one that may raise, what is raised being wished for at the slots -/
theorem pe_callDS {k j : Nat} {x : Str} {ps : List Str} {sp : Sp} {e : Expr} {es : List Expr} {t : TA} {W : WX} (O : Okd X.prog X.w X.K X.mg X.base (L2.CX X.prog X.w) k x ps sp) (hr : Room j X.A) (hk : k ≤ j) (tk : Takes X W) (ha : PA X (e :: es) t) (hg : Gl X x := by rfl)
    (hdb : (x == ("__debug__" : Str)) = false := by decide) (he : starEach (e :: es) X.env = (false, eval e X.env) :: starEach es X.env := by rfl) (hpl : (backTo pos (starEach es X.env)).any (·.1) = false := by rfl) :
    PE X (.Call (.Name x p) (e :: es) [] pos) (tCallS sp (WE W) t) := by
  obtain ⟨m, fd, F, b, kp⟩ := O
  exact pe_callS F (hr.mono hk) hg m kp b (fun σ => passAt tk σ) ha hdb he hpl
theorem pe_gint {x : Str} {i : Int} (hm : ∃ t, X.mg x = some (.int i t)) (hg : Gl X x := by rfl) (hd : (x == ("__debug__" : Str)) = false := by decide) : PE X (.Name x pos) (tC (.int i)) := by
  obtain ⟨t, hm⟩ := hm
  exact pe_glob hg hm ⟨t, rfl⟩ hd
theorem pe_gstr {x z : Str} (hm : ∃ t, X.mg x = some (.str z t)) (hg : Gl X x := by rfl) (hd : (x == ("__debug__" : Str)) = false := by decide) : PE X (.Name x pos) (tC (.str z)) := by
  obtain ⟨t, hm⟩ := hm
  exact pe_glob hg hm ⟨t, rfl⟩ hd
theorem pe_gref {x : Str} {a : Addr} (hm : X.mg x = some (.ref a)) (hg : Gl X x := by rfl) (hd : (x == ("__debug__" : Str)) = false := by decide) : PE X (.Name x pos) (tC (.ref a)) := pe_glob hg hm rfl hd
def tTr (K : PySem.W.Frag) (ta : TE) : TT := fun σ H Q => ta σ H fun x H' => ∃ k, TruV K x H' k ∧ Q k H'
theorem pt_tr {e : Expr} {te : TE} (h : PE X e te) (he : ∀ whole, isTrue e X.env whole = (do let v ← whole; standAt e.pos; holding [v] (truthy v)) := by intro _; rfl) : PT X e (tTr X.K te) := pt_truth h he
def rJoinU (K : PySem.W.Frag) : V → List V → Hp → VK → Prop := fun x xs H Q => ∃ a p, ∃ ys : List Str, x = .str a ∧ xs = [.ref p] ∧ (SqL K H p (ys.map V.str) ∨ SqT K H p (ys.map V.str)) ∧
  (ys.map (·.length)).sum + ys.length * a.length ≤ 16777216 ∧ Q (.str (Txt.join a ys)) H
theorem pe_joinU {o e : Expr} {to te : TE} {apos : Pos} (ho : PE X o to) (he : PE X e te) (hs : starEach [e] X.env = [(false, eval e X.env)] := by rfl) (hbase : attributeBase o "join" X.env (eval o X.env) = eval o X.env := by rfl) (hline : (apos.endLine == pos.line) = true := by rfl) :
    PE X (.Call (.Attribute o "join" apos) [e] [] pos) (tM1 (rJoinU X.K) to te) := pe_join ho he hs hbase hline
def rSIx : V → List V → Hp → VK → Prop := fun x xs H Q => ∃ a b i rest, x = .str a ∧ xs = [.str b] ∧ Builtin.Str.occurrences a b 0 a.length 1 = i :: rest ∧ Q (.int (i : Nat)) H
theorem pe_sindex {o e : Expr} {to te : TE} {apos : Pos} (ho : PE X o to) (he : PE X e te) (hs : starEach [e] X.env = [(false, eval e X.env)] := by rfl) (hbase : attributeBase o "index" X.env (eval o X.env) = eval o X.env := by rfl) (hline : (apos.endLine == pos.line) = true := by rfl) :
    PE X (.Call (.Attribute o "index" apos) [e] [] pos) (tM1 rSIx to te) := pe_m1 F.slot_str_index F.type_str_index mt_sindex ho he hs hbase hline
/-- raise C(e, ..) of an own class whose __init__ stores its arguments -/
def tRaiseO (K : PySem.W.Frag) (C : Addr) (fls : List Str) (Ex : XK) (t : TA) : TS := fun _ σ H => tMkO C (spI K C fls) [] t σ H fun cls d H' => (fun (cls : Value) (d : Option Addr) (_ : L2.St) (H : Hp) => Ex cls d H) cls d σ H'
/-- what the walk asks of such a class: where it stands, its word -/
structure ExOk (P : Program) (w : World) (K : PySem.W.Frag) (mg : Str → Option Value) (base : Heap) (k : Nat) (x : Str) (fls : List Str) : Prop where
  m : mg x = some (.ref (He.ga K x))
  ef : ExF K (He.ga K x)
  ini : PySem.W.findIn K (.ref (He.ga K x)) "__init__" = some (some (.ref (He.ma K (He.ga K x) "__init__"))) ∧ PySem.W.typeIn K (.ref (He.ma K (He.ga K x) "__init__")) = some (.type "function")
  ok : ∃ fd, FnOk P w K mg base CX0 k (He.ma K (He.ga K x) "__init__") fd ("self" :: fls) (spI K (He.ga K x) fls) ∧ Binds K fd ("self" :: fls) []
theorem ps_raiseO {k j : Nat} {x : Str} {fls : List Str} {Ex : XK} {e : Expr} {es : List Expr} {t : TA} {pos2 : Pos} (O : ExOk X.prog X.w X.K X.mg X.base k x fls) (hr : Room j X.A) (hk : k + 1 ≤ j) (hc : X.calm = true) (tk : Takes X (fun cls d _ H => Ex cls d H)) (ha : PA X (e :: es) t) (hg : Gl X x := by rfl)
    (hdb : (x == ("__debug__" : Str)) = false := by decide) (he : starEach (e :: es) X.env = (false, eval e X.env) :: starEach es X.env := by rfl) (hpl : (backTo pos (starEach es X.env)).any (·.1) = false := by rfl) :
    PS X (.Raise (some (.Call (.Name x p) (e :: es) [] pos)) none pos2) (tRaiseO X.K (He.ga X.K x) fls Ex t) := by
  obtain ⟨m, ef, ⟨i1, i2⟩, fd, F, b⟩ := O
  exact ps_raise hc tk (pmk_oex ef.oex i1 i2 F (hr.mono hk) b .nil (fun _ _ _ _ _ _ _ h => h.elim) hg m ha hdb he hpl)
/-- try: x = f(..) / except C as n: suite; nothing else leaves -/
def tTryA (K : PySem.W.Frag) (c : Value) (i : Nat) (ts : Addr → Value → Option Addr → TS) (sp : Sp) (t : TA) (j : Nat) : TS := fun D σ H => tAsg (tCallS sp (WE (wAs K c i ts (fun _ _ _ _ => False) D)) t) (gName j) D σ H
end
section
variable {K : PySem.W.Frag} {Ex : XK} {ρ : List Sl} {ta tb te : TE} {tt : TT} {t u v : TS} {d : D} {P : Oc → Prop}
theorem st_raiseO {C : Addr} {fls : List Str} {t : TA} {ds : List D} (h : EA K t ρ ds) (hl : ds.length = fls.length) (hl2 : ds.length ≤ 1000) (q : P (.ex C (fls.zip ds).reverse)) : ST K Ex (tRaiseO K C fls Ex t) ρ P := st_raise h hl hl2 q
theorem st_tryA {R : List D → D → Prop} {Y : List D → Addr → List (Str × D) → Prop} {t : TA} {ds : List D} {i j : Nat} {c : Value} {ts : Addr → Value → Option Addr → TS} (h : EA K t ρ ds)
    (hr : (∃ d, R ds d ∧ P (.nx (ρ.set j (.fr d)))) ∨
      (∃ C fl, Y ds C fl ∧ PySem.W.exmOne K (.ref C) c = some true ∧ ∀ a dd, ST K E0 (ts a (.ref C) (some dd)) (ρ.set i (Sl.ex a dd fl)) (suiP i P))) :
    ST K Ex (tTryA K c i ts (PX K R Y) t j) ρ P := st_tryAsg h hr
theorem q_asg {i : Nat} (h : EV K te ρ d) (q : ST K Ex u (ρ.set i (.fr d)) P) : ST K Ex (tSeq (tAsg te (gName i)) u) ρ P := st_seq (st_asg h q)
theorem q_asgN {i : Nat} (h : EVN K te ρ d) (q : ST K Ex u (ρ.set i (.ow d)) P) : ST K Ex (tSeq (tAsg te (gName i)) u) ρ P := st_seq (st_asgN h q)
theorem q_asgG {g : TG} {ρ' : List Sl} {ts : List Nat} (h : EV K te ρ d) (hg : GT K g ρ d ρ' ts) (q : ST K Ex u ρ' P) : ST K Ex (tSeq (tAsg te g) u) ρ P := st_seq (st_asgG h hg q)
theorem q_append {n : Nat} {ds : List D} (hi : ρ[n]? = some (.ow (.list ds))) (h : EV K te ρ d) (hz : ds.length < 16000000) (q : ST K Ex u (ρ.set n (.ow (.list (ds ++ [d])))) P) :
    ST K Ex (tSeq (tDrop (tBM K "list" rAppend (tVar n) (tCons te tNil))) u) ρ P := st_seq (st_append hi h hz q)
theorem q_setL {n : Nat} {ds : List D} {i : Int} {j : Nat} (hi : ρ[n]? = some (.ow (.list ds))) (h : EV K te ρ d) (hb : EV K tb ρ (.int i)) (hj : ixN ds.length i = some j) (q : ST K Ex u (ρ.set n (.ow (.list (ds.set j d)))) P) :
    ST K Ex (tSeq (tAsg te (gSub (tVar n) tb rSetL)) u) ρ P := st_seq (st_setL hi h hb hj q)
theorem q_augI {n : Nat} {a b : Int} (hi : ρ[n]? = some (.fr (.int a))) (h : EV K te ρ (.int b)) (q : ST K Ex u (ρ.set n (.fr (.int (a + b)))) P) : ST K Ex (tSeq (tAug n te rIAddU) u) ρ P := st_seq (st_augI hi h q)
theorem q_augO {n : Nat} {ds es : List D} (hi : ρ[n]? = some (.ow (.list ds))) (h : EV K te ρ (.list es)) (hz : ds.length + es.length ≤ 16000000) (q : ST K Ex u (ρ.set n (.ow (.list (ds ++ es)))) P) :
    ST K Ex (tSeq (tAug n te rIAddU) u) ρ P := st_seq (st_augO hi h hz q)
/-- if c: t (no else), then u -/
theorem q_when {b : Bool} (h : ET K tt ρ b) (h1 : b = true → ST K Ex t ρ (seqP K Ex u P)) (h2 : b = false → ST K Ex u ρ P) : ST K Ex (tSeq (tIfS tt t tNext) u) ρ P := st_seq (st_if h h1 fun hb => st_next (h2 hb))
theorem q_if {b : Bool} (h : ET K tt ρ b) (h1 : b = true → ST K Ex t ρ (seqP K Ex u P)) (h2 : b = false → ST K Ex v ρ (seqP K Ex u P)) : ST K Ex (tSeq (tIfS tt t v) u) ρ P := st_seq (st_if h h1 h2)
theorem et_or1 {tu : TT} (h : ET K tt ρ true) : ET K (tOr tt tu) ρ true := fun G0 H0 G H σ Q E q => h G0 H0 G H σ _ E fun G1 H1 e1 => q G1 H1 e1
theorem et_and0 {tu : TT} (h : ET K tt ρ false) : ET K (tAnd tt tu) ρ false := fun G0 H0 G H σ Q E q => h G0 H0 G H σ _ E fun G1 H1 e1 => q G1 H1 e1
theorem ev_or1 (h : EV K ta ρ (.bool true)) : EV K (tOrV ta tb) ρ (.bool true) := ev_orV (b := true) h (fun z => nomatch z)
theorem ev_and0 (h : EV K ta ρ (.bool false)) : EV K (tAndV ta tb) ρ (.bool false) := ev_andV (b := true) h (fun z => nomatch z)
theorem ev_if1 (h : ET K tt ρ true) (h1 : EV K ta ρ d) : EV K (tIf tt ta tb) ρ d := ev_if h (fun _ => h1) (fun z => nomatch z)
theorem ev_if0 (h : ET K tt ρ false) (h1 : EV K tb ρ d) : EV K (tIf tt ta tb) ρ d := ev_if h (fun z => nomatch z) (fun _ => h1)
theorem q_yes (h : ET K tt ρ true) (h1 : ST K Ex t ρ (seqP K Ex u P)) : ST K Ex (tSeq (tIfS tt t v) u) ρ P := q_if h (fun _ => h1) (fun z => nomatch z)
theorem q_no (h : ET K tt ρ false) (h1 : ST K Ex u ρ P) : ST K Ex (tSeq (tIfS tt t tNext) u) ρ P := q_when h (fun z => nomatch z) (fun _ => h1)
theorem q_noE (h : ET K tt ρ false) (h1 : ST K Ex v ρ (seqP K Ex u P)) : ST K Ex (tSeq (tIfS tt t v) u) ρ P := q_if h (fun z => nomatch z) (fun _ => h1)
/-- a word between two statements -/
def cutP (M : List Sl → Prop) (P : Oc → Prop) : Oc → Prop
  | .nx ρ => M ρ
  | o => P o
theorem q_cut (M : List Sl → Prop) (h : ST K Ex t ρ (cutP M P)) (k : ∀ ρ', M ρ' → ST K Ex u ρ' P) : ST K Ex (tSeq t u) ρ P := st_seq (h.mono fun o p => match o, p with
  | .nx ρ', p => k ρ' p
  | .rt _, p => p
  | .bk _, p => p
  | .ct _, p => p
  | .ex _ _, p => p)
theorem isNone_ne {d : D} (h : d ≠ .none) : isNoneD d = false := by cases d <;> first | rfl | exact absurd rfl h
/-- if c: x = e (no else): the value of x behind it -/
theorem q_ifAsg {b : Bool} {i : Nat} {d' : D} (hi : ρ[i]? = some (.fr d')) (h : ET K tt ρ b) (h1 : b = true → EV K te ρ d) (q : ST K Ex u (ρ.set i (.fr (if b = true then d else d'))) P) : ST K Ex (tSeq (tIfS tt (tAsg te (gName i)) tNext) u) ρ P := by
  refine st_seq (st_if h (fun hb => st_asg (h1 hb) ?_) fun hb => st_next ?_)
  · rw [if_pos hb] at q
    exact q
  · rw [if_neg (by rw [hb]; exact Bool.false_ne_true)] at q
    have e : ρ.set i (.fr d') = ρ := by
      refine List.ext_getElem? fun k => ?_
      by_cases z : i = k
      · subst z
        rw [List.getElem?_set_self (List.getElem?_eq_some_iff.mp hi).1, hi]
      · rw [List.getElem?_set_ne z]
    rw [e] at q
    exact q
theorem q_for {wi : TI} {g : TG} {n : Nat} {item : Nat → D} (hi : EI K wi ρ n item) (I : Nat → List Sl → Prop) (h0 : I 0 ρ)
    (hs : ∀ i ρ1, i < n → I i ρ1 → ∃ ρ2 ts, GT K g ρ1 (item i) ρ2 ts ∧ ST K Ex t ρ2 (loopP (I (i + 1)) (seqP K Ex u P)))
    (hd : ∀ ρ1, I n ρ1 → ST K Ex u ρ1 P) : ST K Ex (tSeq (tFor wi g t) u) ρ P := st_seq (st_for hi I h0 hs hd)
theorem q_while {I : Nat → List Sl → Prop} (m : Nat) (h0 : I m ρ)
    (hs : ∀ m ρ1, I m ρ1 → ∃ b, ET K tt ρ1 b ∧ (b = true → ST K Ex t ρ1 (loopP (fun ρ3 => ∃ m', m' < m ∧ I m' ρ3) (seqP K Ex u P))) ∧ (b = false → ST K Ex u ρ1 P)) : ST K Ex (tSeq (tWhile tt t) u) ρ P := st_seq (st_while m h0 hs)
theorem q_frz {i : Nat} (hi : ρ[i]? = some (.ow d)) (h : ST K Ex t (ρ.set i (.fr d)) P) : ST K Ex t ρ P := st_frz hi h
/-- what a def answers, told by a word about the answer -/
def PQ (K : PySem.W.Frag) (Pre : List D → Prop) (Post : List D → D → Prop) : Sp := fun vs H Q _ => ∃ G ds, GH G H ∧ DqA K G vs ds ∧ Pre ds ∧ ∀ d v G' H', Post ds d → Ext G H G' H' → Dq K G' v d → Q v H'
theorem q_asgQ {Pre : List D → Prop} {Post : List D → D → Prop} {Ey : XK} {t : TA} {ds : List D} {i : Nat} (h : EA K t ρ ds) (hp : Pre ds) (q : ∀ d, Post ds d → ST K Ex u (ρ.set i (.fr d)) P) : ST K Ex (tSeq (tAsg (tCall (PQ K Pre Post) [] Ey t) (gName i)) u) ρ P :=
  st_seq fun G0 H0 G H σ D E f => h G0 H0 G H σ _ E fun vs G1 H1 e1 h1 => by
    rw [List.append_nil]
    exact ⟨G1, ds, e1.gh, h1, hp, fun d v G2 H2 hd x hv => f.nx _ _ G2 H2 (q d hd) (((E.go e1).go x).setF i hv)⟩
/-! tests -/
def truD : D → Bool
  | .none => false
  | .bool b => b
  | .int i => i != 0
  | .str s => (s.length : Int) != 0
  | .list ds => !ds.isEmpty
  | .tuple ds => !ds.isEmpty
  | .dict _ => false
theorem et_tr (h : EV K ta ρ d) (nd : isDicD d = false) (hz : ∀ s, d = .str s → s.length ≤ sizeLine) : ET K (tTr K ta) ρ (truD d) := fun G0 H0 G H σ Q E q => h G0 H0 G H σ _ E fun v G1 H1 e1 h1 => by
  refine ⟨truD d, ?_, q G1 H1 e1⟩
  cases h1 with
  | non => exact rfl
  | bl b => exact rfl
  | int i => exact rfl
  | str x => exact ⟨hz x rfl, rfl⟩
  | @lst a xs ds ha hr =>
    refine .inl ⟨xs, SqL.of (e1.gh.lst ha), ?_⟩
    have := hr.length
    cases xs <;> cases ds <;> first | rfl | cases this
  | @tup a xs ds ha hr =>
    refine .inr (.inl ⟨xs, e1.gh.t ha, ?_⟩)
    have := hr.length
    cases xs <;> cases ds <;> first | rfl | cases this
  | dK _ _ => cases nd
  | dT _ _ => cases nd
  | scr _ => cases nd
  | sta _ _ => cases nd
  | opq _ => cases nd
  | raw _ => cases nd
theorem et_trB {b : Bool} (h : EV K ta ρ (.bool b)) : ET K (tTr K ta) ρ b := et_tr h rfl (fun _ z => nomatch z)
theorem et_trO {n : Nat} {ds : List D} (hi : ρ[n]? = some (.ow (.list ds))) : ET K (tTr K (tVar n)) ρ (!ds.isEmpty) := fun G0 H0 G H σ Q E q => by
  obtain ⟨l, vs, h1, h2, h3⟩ := own_look E hi
  refine ⟨_, h1, _, .inl ⟨vs, SqL.of h2, rfl⟩, ?_⟩
  have e : (!vs.isEmpty) = (!ds.isEmpty) := by
    have := h3.length
    cases vs <;> cases ds <;> first | rfl | cases this
  rw [e]
  exact q G H (.refl E.gh)
/-! texts -/
theorem map_str_dq {G : Hp} : ∀ {ys : List Str} {vs : List V}, DqA K G vs (ys.map PyData.str) → vs = ys.map V.str
  | [], _, h => by cases h; rfl
  | y :: ys, _, h => by
    cases h with
    | cons a b =>
      cases a
      rw [List.map_cons, map_str_dq b]
theorem ev_joinL {a : Str} {ys : List Str} (h1 : EV K ta ρ (.str a)) (h2 : EV K tb ρ (.list (ys.map PyData.str))) (hz : (ys.map (·.length)).sum + ys.length * a.length ≤ 16777216) : EV K (tM1 (rJoinU K) ta tb) ρ (.str (Txt.join a ys)) := fun G0 H0 G H σ Q E q =>
  h1 G0 H0 G H σ _ E fun v G1 H1 e1 hv => by
    cases hv
    refine ⟨⟨a, rfl⟩, h2 G0 H0 G1 H1 σ _ (E.go e1) fun u G2 H2 e2 hu => ?_⟩
    cases hu with
    | @lst p xs _ ha hr =>
      have e := map_str_dq hr
      subst e
      exact ⟨a, p, ys, rfl, rfl, .inl (SqL.of (e2.gh.lst ha)), hz, q _ G2 H2 (e1.trans e2) (.str _)⟩
theorem ev_sindex {a b : Str} {i : Nat} {rest : List Nat} (h1 : EV K ta ρ (.str a)) (h2 : EV K tb ρ (.str b)) (ho : Builtin.Str.occurrences a b 0 a.length 1 = i :: rest) : EV K (tM1 rSIx ta tb) ρ (.int (i : Nat)) := fun G0 H0 G H σ Q E q =>
  h1 G0 H0 G H σ _ E fun v G1 H1 e1 hv => by
    cases hv
    refine ⟨⟨a, rfl⟩, h2 G0 H0 G1 H1 σ _ (E.go e1) fun u G2 H2 e2 hu => ?_⟩
    cases hu
    exact ⟨a, b, i, rest, rfl, rfl, ho, q _ G2 H2 (e1.trans e2) (.int _)⟩
/-! items -/
theorem atI_nn {α : Type} {ds : List α} {i : Int} (z : α) (h0 : 0 ≤ i) (h1 : i < ds.length) : atI ds i = some (ds.getD i.toNat z) := by
  obtain ⟨k, rfl⟩ : ∃ k : Nat, i = (k : Nat) := ⟨i.toNat, by omega⟩
  have hk : k < ds.length := by omega
  refine atI_nat ?_
  rw [List.getD_eq_getElem?_getD]
  simp [hk]
theorem atI_ints {ns : List Int} {i : Int} (h0 : 0 ≤ i) (h1 : i < ns.length) : atI (ns.map PyData.int) i = some (.int (ns.getD i.toNat 0)) := by
  obtain ⟨k, rfl⟩ : ∃ k : Nat, i = (k : Nat) := ⟨i.toNat, by omega⟩
  have hk : k < ns.length := by omega
  refine atI_nat ?_
  rw [List.getElem?_map, List.getD_eq_getElem?_getD]
  simp [hk]
theorem atI_strs {ys : List Str} {i : Int} (h0 : 0 ≤ i) (h1 : i < ys.length) : atI (ys.map PyData.str) i = some (.str (ys.getD i.toNat Str.empty)) := by
  obtain ⟨k, rfl⟩ : ∃ k : Nat, i = (k : Nat) := ⟨i.toNat, by omega⟩
  have hk : k < ys.length := by omega
  refine atI_nat ?_
  rw [List.getElem?_map, List.getD_eq_getElem?_getD]
  simp [hk]
theorem ixN_nn {n : Nat} {i : Int} (h0 : 0 ≤ i) (h1 : i < n) : ixN n i = some i.toNat := by
  unfold ixN
  rw [if_pos h0, if_pos h1]
end
/-! tuple(..), list(..) -/
def rTupU (K : PySem.W.Frag) : List V → Hp → VK → Prop := fun xs H Q => ∃ p ys, xs = [.ref p] ∧ ((SqL K H p ys ∧ ∀ l, H l = none → Q (.ref l) (upd H l (.tup ys))) ∨ (SqT K H p ys ∧ Q (.ref p) H))
theorem call_tupleU {X : Cx} : CallR X (.type "tuple") (rTupU X.K) := call_tuple_of
def rListU (K : PySem.W.Frag) : List V → Hp → VK → Prop := fun xs H Q => ∃ p ys, xs = [.ref p] ∧ (SqL K H p ys ∨ SqT K H p ys) ∧ ∀ l, H l = none → Q (.ref l) (upd H l (.lst ys))
theorem call_listU {X : Cx} : CallR X (.type "list") (rListU X.K) := call_list_of
theorem cd_tupL {K : PySem.W.Frag} {ds : List D} : CD K (rTupU K) [.list ds] (.tuple ds) := fun xs G H Q g hx q => by
  cases hx with
  | cons a b =>
    cases b
    cases a with
    | @lst a xs _ ha hr =>
      refine ⟨a, xs, rfl, .inl ⟨SqL.of (g.lst ha), fun l hl => ?_⟩⟩
      exact q _ _ _ (.new g hl) (.tup (SqT.of upd_same) (hr.mono (Ext.new g hl).g))
theorem cd_tupT {K : PySem.W.Frag} {ds : List D} : CD K (rTupU K) [.tuple ds] (.tuple ds) := fun xs G H Q g hx q => by
  cases hx with
  | cons a b =>
    cases b
    cases a with
    | @tup a xs _ ha hr => exact ⟨a, xs, rfl, .inr ⟨g.t ha, q _ G H (.refl g) (.tup ha hr)⟩⟩
theorem cn_listL {K : PySem.W.Frag} {ds : List D} : CN K (rListU K) [.list ds] (.list ds) := fun xs G H Q g hx q => by
  cases hx with
  | cons a b =>
    cases b
    cases a with
    | @lst a xs _ ha hr => exact ⟨a, xs, rfl, .inl (SqL.of (g.lst ha)), fun l hl => q l G _ (.fresh g hl) hl (g.none hl) (.lst upd_same hr)⟩
theorem cn_listT {K : PySem.W.Frag} {ds : List D} : CN K (rListU K) [.tuple ds] (.list ds) := fun xs G H Q g hx q => by
  cases hx with
  | cons a b =>
    cases b
    cases a with
    | @tup a xs _ ha hr => exact ⟨a, xs, rfl, .inr (g.t ha), fun l hl => q l G _ (.fresh g hl) hl (g.none hl) (.lst upd_same hr)⟩
/-! the first place where p holds, below n -/
def firstP (p : Nat → Bool) (n : Nat) : Option Nat := (List.range n).find? p
theorem firstP_some {p : Nat → Bool} {n i : Nat} (hi : i < n) (h0 : ∀ j, j < i → p j = false) (h1 : p i = true) : firstP p n = some i := by
  unfold firstP
  rw [List.find?_range_eq_some]
  exact ⟨h1, by simpa using hi, fun j hj => by rw [h0 j hj]; rfl⟩
theorem firstP_none {p : Nat → Bool} {n : Nat} (h0 : ∀ j, j < n → p j = false) : firstP p n = none := by
  unfold firstP
  rw [List.find?_eq_none]
  intro x hx
  rw [h0 x (by simpa using hx)]
  exact Bool.false_ne_true
theorem len_app (a b : Str) : (a ++ b).length = a.length + b.length := by
  show (a.cps ++ b.cps).size = a.cps.size + b.cps.size
  rw [Array.size_append]
theorem len_cut (z : Str) (lo hi : Option Int) : (cutS z lo hi).length ≤ z.length := cutS_length z lo hi
theorem len_rep (z : Str) (k : Int) : (repS z k).length = k.toNat * z.length := by
  unfold repS Str.length
  rw [List.size_toArray]
  have : ∀ m : Nat, ((List.replicate m z.cps.toList).flatten).length = m * z.cps.toList.length := fun m => by
    induction m with
    | zero => simp
    | succ m ih => rw [List.replicate_succ, List.flatten_cons, List.length_append, ih, Nat.succ_mul]; omega
  rw [this, Array.length_toList]
theorem len_one (c : Nat) : (⟨#[c]⟩ : Str).length = 1 := rfl
section
variable {P : Program} {w : World} {K : PySem.W.Frag} {mg : Str → Option Value} {base : Heap}
theorem fn_pq {x qual : Str} {params : Arguments} {body : List Stmt} {scope : Scope} {f : Addr} {fd : FuncData} {N ps : List Str} {k : Nat} {Pre : List D → Prop} {Post : List D → D → Prop} (F : FunD K x qual params body scope [] [] f fd) (S : FnScope N ps scope)
    (len : ∀ ds, Pre ds → ds.length = ps.length)
    (hb : ∀ (cdv : Value) (A : Around) (outer : List PySem.Env) (s : Shared) (H : Hp) (E : XK), Room k (A.deeper (envOfC qual scope s.heap.objs.size f cdv)) →
      ∃ t, PSs (cxOf CX0 P w K mg base N qual scope f cdv A outer s H E) body t ∧ ∀ ds, Pre ds → DL.ST K E0 t (start0 N.length ds) (fun o => ∃ d, o = .rt d ∧ Post ds d)) : FnOk P w K mg base CX0 (k + 1) f fd ps (PQ K Pre Post) := by
  refine F.ok S (fun vs H Q E h => ?_) (fun cdv A outer s H vs Q E hr h => ?_)
  · obtain ⟨G, ds, g, ha, hR, q⟩ := h
    exact ha.length.trans (len ds hR)
  · obtain ⟨t, h1, h2⟩ := hb cdv A outer s H E hr
    obtain ⟨G, ds, g, ha, hR, q⟩ := h
    exact ⟨t, h1, h2 ds hR G H G H _ _ (en_start g ha) ⟨(fun _ _ _ _ ⟨_, p, _⟩ _ => nomatch p), (fun d' v G' H' ⟨d, p, hp⟩ x hv => by cases p; exact q _ v G' H' hp x hv), (fun _ _ _ _ ⟨_, p, _⟩ _ => nomatch p), (fun _ _ _ _ ⟨_, p, _⟩ _ => nomatch p), (fun _ _ _ _ _ _ ⟨_, p, _⟩ => nomatch p)⟩⟩
end
end DL

set_option maxHeartbeats 1000000
/-! DL10: dicts by data. dkD: keys are ints and texts; dtD: keys are tuples of such. -/
namespace DL
open PySem PySem.Spec PyProof.Rows L2
section
variable {κ : Type} [DecidableEq κ]
def getG (kvs : List (κ × D)) (k : κ) : Option D := (kvs.find? fun kv => decide (kv.1 = k)).map (·.2)
def hasG (kvs : List (κ × D)) (k : κ) : Bool := (getG kvs k).isSome
def putG (kvs : List (κ × D)) (k : κ) (d : D) : List (κ × D) := if (kvs.any fun kv => decide (kv.1 = k)) = true then kvs.map (fun kv => if kv.1 = k then (kv.1, d) else kv) else kvs ++ [(k, d)]
end
def dkD (kvs : List (Key × D)) : D := .dict (kvs.map fun p => (kD p.1, p.2))
def dtD (kvs : List (List Key × D)) : D := .dict ((.none, .none) :: kvs.map fun p => (.tuple (p.1.map kD), p.2))
inductive DqV {κ : Type} (K : PySem.W.Frag) (G : Hp) : List (κ × V) → List (κ × D) → Prop
  | nil : DqV K G [] []
  | cons {k : κ} {v : V} {d : D} {es : List (κ × V)} {kvs : List (κ × D)} : Dq K G v d → DqV K G es kvs → DqV K G ((k, v) :: es) ((k, d) :: kvs)
theorem kD_inj : ∀ {a b : Key}, kD a = kD b → a = b
  | .inl i, .inl j, h => by cases h; rfl
  | .inr i, .inr j, h => by cases h; rfl
  | .inl i, .inr j, h => by cases h
  | .inr i, .inl j, h => by cases h
theorem kDs_inj : ∀ {a b : List Key}, a.map kD = b.map kD → a = b
  | [], [], _ => rfl
  | [], _ :: _, h => by cases h
  | _ :: _, [], h => by cases h
  | x :: a, y :: b, h => by
    rw [List.map_cons, List.map_cons] at h
    injection h with h1 h2
    rw [kD_inj h1, kDs_inj h2]
theorem kD_bool {k : Key} {b : Bool} (h : kD k = .bool b) : False := by cases k <;> cases h
theorem kD_none {k : Key} (h : kD k = .none) : False := by cases k <;> cases h
section
variable {K : PySem.W.Frag} {G : Hp}
theorem DqK.v : ∀ {kvs : List (Key × D)} {es : List (Key × V)} {ls : List (D × D)}, DqK K G es ls → ls = kvs.map (fun p => (kD p.1, p.2)) → DqV K G es kvs
  | [], _, _, h, e => by
    subst e
    cases h
    exact .nil
  | (k, d) :: kvs, _, _, h, e => by
    cases h with
    | nil => cases e
    | cons a b =>
      rw [List.map_cons] at e
      injection e with e1 e2
      injection e1 with e3 e4
      have := kD_inj e3
      subst this
      dsimp only at e4
      subst e4
      exact .cons a (DqK.v b e2)
theorem DqT.v : ∀ {kvs : List (List Key × D)} {es : List (List Key × V)} {ls : List (D × D)}, DqT K G es ls → ls = kvs.map (fun p => (PyData.tuple (p.1.map kD), p.2)) → DqV K G es kvs
  | [], _, _, h, e => by
    subst e
    cases h
    exact .nil
  | (k, d) :: kvs, _, _, h, e => by
    cases h with
    | nil => cases e
    | cons a b =>
      rw [List.map_cons] at e
      injection e with e1 e2
      injection e1 with e3 e4
      injection e3 with e3
      have := kDs_inj e3
      subst this
      dsimp only at e4
      subst e4
      exact .cons a (DqT.v b e2)
theorem DqV.k : ∀ {kvs : List (Key × D)} {es : List (Key × V)}, DqV K G es kvs → DqK K G es (kvs.map fun p => (kD p.1, p.2))
  | [], _, h => by cases h; exact .nil
  | _ :: kvs, _, h => by
    cases h with
    | cons a b => exact .cons a (DqV.k b)
theorem DqV.t : ∀ {kvs : List (List Key × D)} {es : List (List Key × V)}, DqV K G es kvs → DqT K G es (kvs.map fun p => (PyData.tuple (p.1.map kD), p.2))
  | [], _, h => by cases h; exact .nil
  | _ :: kvs, _, h => by
    cases h with
    | cons a b => exact .cons a (DqV.t b)
theorem DqV.mono {κ : Type} {A B : Hp} (x : Sub A B) : ∀ {es : List (κ × V)} {kvs : List (κ × D)}, DqV K A es kvs → DqV K B es kvs
  | _, _, .nil => .nil
  | _, _, .cons a b => .cons (a.mono x) (DqV.mono x b)
theorem DqV.length {κ : Type} : ∀ {es : List (κ × V)} {kvs : List (κ × D)}, DqV K G es kvs → es.length = kvs.length
  | _, _, .nil => rfl
  | _, _, .cons _ b => congrArg Nat.succ (DqV.length b)
theorem DqV.keys {κ : Type} : ∀ {es : List (κ × V)} {kvs : List (κ × D)}, DqV K G es kvs → es.map (·.1) = kvs.map (·.1)
  | _, _, .nil => rfl
  | _, _, .cons _ b => congrArg _ (DqV.keys b)
theorem DqV.get {κ : Type} [DecidableEq κ] {k : κ} : ∀ {es : List (κ × V)} {kvs : List (κ × D)}, DqV K G es kvs → (valV es k = none ∧ getG kvs k = none) ∨ ∃ v d, valV es k = some v ∧ getG kvs k = some d ∧ Dq K G v d
  | _, _, .nil => .inl ⟨rfl, rfl⟩
  | _, _, @DqV.cons _ _ _ k' v d es kvs a b => by
    by_cases e : k' = k
    · refine .inr ⟨v, d, valV_pos e, ?_, a⟩
      unfold getG
      rw [List.find?_cons_of_pos (by exact decide_eq_true e)]
      rfl
    · rw [valV_neg (p := (k', v)) e]
      have : getG ((k', d) :: kvs) k = getG kvs k := by
        unfold getG
        rw [List.find?_cons_of_neg (by simpa using e)]
      rw [this]
      exact DqV.get b
theorem DqV.any {κ : Type} [DecidableEq κ] {k : κ} : ∀ {es : List (κ × V)} {kvs : List (κ × D)}, DqV K G es kvs → (es.any fun kv => decide (kv.1 = k)) = kvs.any fun kv => decide (kv.1 = k)
  | _, _, .nil => rfl
  | _, _, .cons _ b => by rw [List.any_cons, List.any_cons, DqV.any b]
theorem DqV.map {κ : Type} [DecidableEq κ] {k : κ} {v : V} {d : D} (x : Dq K G v d) : ∀ {es : List (κ × V)} {kvs : List (κ × D)}, DqV K G es kvs → DqV K G (es.map fun kv => if kv.1 = k then (kv.1, v) else kv) (kvs.map fun kv => if kv.1 = k then (kv.1, d) else kv)
  | _, _, .nil => .nil
  | _, _, @DqV.cons _ _ _ k' v' d' es kvs a b => by
    rw [List.map_cons, List.map_cons]
    by_cases e : k' = k
    · rw [if_pos e, if_pos e]
      exact .cons x (DqV.map x b)
    · rw [if_neg e, if_neg e]
      exact .cons a (DqV.map x b)
theorem DqV.snoc {κ : Type} {k : κ} {v : V} {d : D} (x : Dq K G v d) : ∀ {es : List (κ × V)} {kvs : List (κ × D)}, DqV K G es kvs → DqV K G (es ++ [(k, v)]) (kvs ++ [(k, d)])
  | _, _, .nil => .cons x .nil
  | _, _, .cons a b => .cons a (DqV.snoc x b)
theorem DqV.put {κ : Type} [DecidableEq κ] {k : κ} {v : V} {d : D} {es : List (κ × V)} {kvs : List (κ × D)} (h : DqV K G es kvs) (x : Dq K G v d) : DqV K G (putK es k v) (putG kvs k d) := by
  unfold putK putG
  rw [h.any]
  split
  · exact h.map x
  · exact h.snoc x
theorem putG_len {κ : Type} [DecidableEq κ] (kvs : List (κ × D)) (k : κ) (d : D) : (putG kvs k d).length ≤ kvs.length + 1 := by
  unfold putG
  split
  · rw [List.length_map]; omega
  · rw [List.length_append]; exact Nat.le_refl _
theorem dq_dk {v : V} {kvs : List (Key × D)} (h : Dq K G v (dkD kvs)) : ∃ a es, v = .ref a ∧ Rd G a (.dK es) ∧ DqV K G es kvs := by
  unfold dkD at h
  generalize e : (kvs.map fun p => (kD p.1, p.2)) = ls at h
  cases h with
  | sta _ _ =>
    cases kvs with
    | nil => cases e
    | cons p kvs =>
      rw [List.map_cons] at e
      injection e with e1 e2
      injection e1 with e3 _
      exact (kD_bool e3).elim
  | opq _ =>
    cases kvs with
    | nil => cases e
    | cons p kvs =>
      rw [List.map_cons] at e
      injection e with e1 e2
      injection e1 with e3 _
      exact (kD_bool e3).elim
  | raw _ =>
    cases kvs with
    | nil => cases e
    | cons p kvs =>
      rw [List.map_cons] at e
      injection e with e1 e2
      injection e1 with e3 _
      exact (kD_bool e3).elim
  | dK a b => exact ⟨_, _, rfl, a, DqK.v b e.symm⟩
  | scr a =>
    cases kvs with
    | nil => cases e
    | cons p kvs =>
      rw [List.map_cons] at e
      injection e with e1 e2
      injection e1 with e3 _
      exact (kD_none e3).elim
  | dT a b =>
    cases kvs with
    | nil => cases e
    | cons p kvs =>
      rw [List.map_cons] at e
      injection e with e1 e2
      injection e1 with e3 _
      exact (kD_none e3).elim
theorem dq_dt {v : V} {kvs : List (List Key × D)} (h : Dq K G v (dtD kvs)) : ∃ a es, v = .ref a ∧ Rd G a (.dT es) ∧ DqV K G es kvs := by
  unfold dtD at h
  generalize e : ((PyData.none, PyData.none) :: kvs.map fun p => (PyData.tuple (p.1.map kD), p.2)) = ls at h
  cases h with
  | dK a b =>
    cases b with
    | nil => cases e
    | cons a b =>
      injection e with e1 e2
      injection e1 with e3 _
      exact (kD_none e3.symm).elim
  | sta _ _ =>
    injection e with e1 e2
    injection e1 with e3 _
    cases e3
  | opq _ =>
    injection e with e1 e2
    injection e1 with e3 _
    cases e3
  | raw _ =>
    injection e with e1 e2
    injection e1 with e3 _
    cases e3
  | scr a =>
    injection e with e1 e2
    injection e1 with _ e3
    cases e3
  | dT a b =>
    injection e with e1 e2
    exact ⟨_, _, rfl, a, DqT.v b e2.symm⟩
theorem own_dk {H : Hp} {l : Addr} {kvs : List (Key × D)} (h : OwnC K G H l (dkD kvs)) : ∃ es, H l = some (.dK es) ∧ DqV K G es kvs := by
  unfold dkD at h
  generalize e : (kvs.map fun p => (kD p.1, p.2)) = ls at h
  cases h with
  | dK a b => exact ⟨_, a, DqK.v b e.symm⟩
  | dT a b =>
    cases kvs with
    | nil => cases e
    | cons p kvs =>
      rw [List.map_cons] at e
      injection e with e1 e2
      injection e1 with e3 _
      exact (kD_none e3).elim
theorem own_dt {H : Hp} {l : Addr} {kvs : List (List Key × D)} (h : OwnC K G H l (dtD kvs)) : ∃ es, H l = some (.dT es) ∧ DqV K G es kvs := by
  unfold dtD at h
  generalize e : ((PyData.none, PyData.none) :: kvs.map fun p => (PyData.tuple (p.1.map kD), p.2)) = ls at h
  cases h with
  | dK a b =>
    cases b with
    | nil => cases e
    | cons a b =>
      injection e with e1 e2
      injection e1 with e3 _
      exact (kD_none e3.symm).elim
  | dT a b =>
    injection e with e1 e2
    exact ⟨_, a, DqT.v b e2.symm⟩
theorem key_dq {v : V} : ∀ {k : Key}, Dq K G v (kD k) → v = kV k
  | .inl i, h => by cases h; rfl
  | .inr z, h => by cases h; rfl
theorem keys_dq : ∀ {ks : List Key} {vs : List V}, DqA K G vs (ks.map kD) → vs = ks.map kV
  | [], _, h => by cases h; rfl
  | k :: ks, _, h => by
    cases h with
    | cons a b => rw [key_dq a, keys_dq b]; rfl
theorem dq_keys : ∀ ks : List Key, DqA K G (ks.map kV) (ks.map kD)
  | [] => .nil
  | .inl i :: ks => .cons (.int i) (dq_keys ks)
  | .inr z :: ks => .cons (.str z) (dq_keys ks)
end
section
variable {K : PySem.W.Frag} {Ex : XK} {ρ : List Sl} {ta tb te : TE} {tt : TT} {t u : TS} {d : D} {P : Oc → Prop}
theorem en_dnewK : EVN K tDNewK ρ (dkD []) := fun G0 H0 G H σ Q E q p hp => q p G _ (.fresh E.gh hp) hp (E.gh.none hp) (.dK upd_same .nil)
theorem en_dnewT : EVN K tDNewT ρ (dtD []) := fun G0 H0 G H σ Q E q p hp => q p G _ (.fresh E.gh hp) hp (E.gh.none hp) (.dT upd_same .nil)
/-- a tuple of keys, laid anew -/
def EVT (K : PySem.W.Frag) (te : TE) (ρ : List Sl) (ks : List Key) : Prop := ∀ (G0 H0 G H : Hp) (σ : L2.St) (Q : VK), En K G0 H0 G H σ ρ → (∀ p G' H', Ext G H G' H' → G' p = some (.tup (ks.map kV)) → Q (.ref p) H') → te σ H Q
theorem evt_tup {t : TA} {ks : List Key} {ds : List D} (h : EA K t ρ ds) (e : ds = ks.map kD) (hl : ks.length ≤ sizeLine) : EVT K (tTup t) ρ ks := fun G0 H0 G H σ Q E q =>
  h G0 H0 G H σ _ E fun vs G1 H1 e1 h1 => by
    subst e
    have e2 := keys_dq h1
    subst e2
    exact ⟨by rw [List.length_map]; exact hl, fun p hp => q p _ _ (e1.trans (.new e1.gh hp)) upd_same⟩
theorem evt_ite {b : Bool} {k1 k2 : List Key} (h : ET K tt ρ b) (h1 : b = true → EVT K ta ρ k1) (h2 : b = false → EVT K tb ρ k2) : EVT K (tIf tt ta tb) ρ (if b = true then k1 else k2) := fun G0 H0 G H σ Q E q =>
  h G0 H0 G H σ _ E fun G1 H1 e1 => by
    cases b with
    | true => exact h1 rfl G0 H0 G1 H1 σ _ (E.go e1) fun p G2 H2 e2 hp => q p G2 H2 (e1.trans e2) hp
    | false => exact h2 rfl G0 H0 G1 H1 σ _ (E.go e1) fun p G2 H2 e2 hp => q p G2 H2 (e1.trans e2) hp
theorem GH.tup {A B : Hp} (x : GH A B) {a : Addr} {xs : List V} (h : A a = some (.tup xs)) : B a = some (.tup xs) := by
  rcases x a _ h with h | ⟨d, _⟩ | d
  · exact h.1
  · cases d
  · exact d.elim
theorem st_dputK {n : Nat} {kvs : List (Key × D)} {k : Key} {dk : D} (hi : ρ[n]? = some (.ow (dkD kvs))) (hk : EV K tb ρ dk) (ek : dk = kD k) (h : EV K te ρ d) (hz : kvs.length < 16000000) (q : P (.nx (ρ.set n (.ow (dkD (putG kvs k d)))))) :
    ST K Ex (sDPut (tVar n) tb te) ρ P := fun G0 H0 G H σ D E f =>
  h G0 H0 G H σ _ E fun v G1 H1 e1 hv => by
    obtain ⟨l, h1, _, h0, h4⟩ := (E.go e1).ow n _ hi
    subst ek
    refine ⟨_, h1, hk G0 H0 G1 H1 σ _ (E.go e1) fun y G2 H2 e2 hy => ?_⟩
    obtain ⟨es, h5, h6⟩ := own_dk h4
    have e := key_dq hy
    subst e
    refine ⟨l, _, rfl, DPut.k (e2.at h0 h5) (by rw [h6.length, sizeLine_eq]; omega), f.nx _ _ _ _ q (((E.go e1).go e2).write hi h1 ?_)⟩
    exact .dK upd_same (((h6.mono e2.g).put (hv.mono e2.g)).k)
theorem st_dputT {n : Nat} {kvs : List (List Key × D)} {k : List Key} (hi : ρ[n]? = some (.ow (dtD kvs))) (hk : EVT K tb ρ k) (h : EV K te ρ d) (hz : kvs.length < 16000000) (q : P (.nx (ρ.set n (.ow (dtD (putG kvs k d)))))) :
    ST K Ex (sDPut (tVar n) tb te) ρ P := fun G0 H0 G H σ D E f =>
  h G0 H0 G H σ _ E fun v G1 H1 e1 hv => by
    obtain ⟨l, h1, _, h0, h4⟩ := (E.go e1).ow n _ hi
    refine ⟨_, h1, hk G0 H0 G1 H1 σ _ (E.go e1) fun y G2 H2 e2 hy => ?_⟩
    obtain ⟨es, h5, h6⟩ := own_dt h4
    refine ⟨l, _, rfl, DPut.t (e2.at h0 h5) (e2.gh.tup hy) (by rw [h6.length, sizeLine_eq]; omega), f.nx _ _ _ _ q (((E.go e1).go e2).write hi h1 ?_)⟩
    exact .dT upd_same (((h6.mono e2.g).put (hv.mono e2.g)).t)
/-- x in d, a frozen one -/
theorem dget_k {G H : Hp} (g : GH G H) {a : Addr} {es : List (Key × V)} {kvs : List (Key × D)} {k : Key} (h : Rd G a (.dK es)) (r : DqV K G es kvs) : (getG kvs k = none ∧ DGet H a (kV k) none) ∨ ∃ v d, getG kvs k = some d ∧ DGet H a (kV k) (some v) ∧ Dq K G v d := by
  rcases r.get (k := k) with ⟨h1, h2⟩ | ⟨v, d, h1, h2, h3⟩
  · exact .inl ⟨h2, .inl ⟨es, k, g.rd h, rfl, h1.symm⟩⟩
  · exact .inr ⟨v, d, h2, .inl ⟨es, k, g.rd h, rfl, h1.symm⟩, h3⟩
theorem ev_inD {kvs : List (Key × D)} {k : Key} {dk : D} (hk : EV K ta ρ dk) (ek : dk = kD k) (h : EV K tb ρ (dkD kvs)) : EV K (tDIn ta tb) ρ (.bool (hasG kvs k)) := fun G0 H0 G H σ Q E q =>
  hk G0 H0 G H σ _ E fun y G1 H1 e1 hy => h G0 H0 G1 H1 σ _ (E.go e1) fun x G2 H2 e2 hx => by
    subst ek
    obtain ⟨a, es, rfl, h1, h2⟩ := dq_dk hx
    have e := key_dq hy
    subst e
    unfold hasG at q
    rcases dget_k e2.gh h1 h2 (k := k) with ⟨h3, h4⟩ | ⟨v, d, h3, h4, h5⟩
    · exact ⟨a, _, rfl, h4, q _ G2 H2 (e1.trans e2) (by rw [h3]; exact .bl _)⟩
    · exact ⟨a, _, rfl, h4, q _ G2 H2 (e1.trans e2) (by rw [h3]; exact .bl _)⟩
theorem ev_ninD {kvs : List (Key × D)} {k : Key} {dk : D} (hk : EV K ta ρ dk) (ek : dk = kD k) (h : EV K tb ρ (dkD kvs)) : EV K (tDNotIn ta tb) ρ (.bool (!hasG kvs k)) := fun G0 H0 G H σ Q E q =>
  hk G0 H0 G H σ _ E fun y G1 H1 e1 hy => h G0 H0 G1 H1 σ _ (E.go e1) fun x G2 H2 e2 hx => by
    subst ek
    obtain ⟨a, es, rfl, h1, h2⟩ := dq_dk hx
    have e := key_dq hy
    subst e
    unfold hasG at q
    rcases dget_k e2.gh h1 h2 (k := k) with ⟨h3, h4⟩ | ⟨v, d, h3, h4, h5⟩
    · exact ⟨a, _, rfl, h4, q _ G2 H2 (e1.trans e2) (by rw [h3]; exact .bl _)⟩
    · exact ⟨a, _, rfl, h4, q _ G2 H2 (e1.trans e2) (by rw [h3]; exact .bl _)⟩
/-- d[x], a frozen one -/
theorem ev_getD {kvs : List (Key × D)} {k : Key} {dk : D} (h : EV K ta ρ (dkD kvs)) (hk : EV K tb ρ dk) (ek : dk = kD k) (e : getG kvs k = some d) : EV K (tDGet ta tb) ρ d := fun G0 H0 G H σ Q E q =>
  h G0 H0 G H σ _ E fun x G1 H1 e1 hx => hk G0 H0 G1 H1 σ _ (E.go e1) fun y G2 H2 e2 hy => by
    subst ek
    obtain ⟨a, es, rfl, h1, h2⟩ := dq_dk (hx.mono e2.g)
    have ez := key_dq hy
    subst ez
    rcases dget_k e2.gh h1 h2 (k := k) with ⟨h3, h4⟩ | ⟨v, d', h3, h4, h5⟩
    · rw [e] at h3; cases h3
    · rw [e] at h3
      cases h3
      exact ⟨a, v, rfl, h4, q _ G2 H2 (e1.trans e2) h5⟩
/-- d.get(x, z), a frozen one -/
theorem ev_get2 {kvs : List (Key × D)} {k : Key} {dk z : D} {tz : TE} (h : EV K ta ρ (dkD kvs)) (hk : EV K tb ρ dk) (ek : dk = kD k) (hz : EV K tz ρ z) : EV K (tDGet2 ta tb tz) ρ ((getG kvs k).getD z) := fun G0 H0 G H σ Q E q =>
  h G0 H0 G H σ _ E fun x G1 H1 e1 hx => by
    obtain ⟨a, es, rfl, h1, h2⟩ := dq_dk hx
    refine ⟨a, rfl, .inl ⟨es, e1.gh.rd h1⟩, hk G0 H0 G1 H1 σ _ (E.go e1) fun y G2 H2 e2 hy => hz G0 H0 G2 H2 σ _ ((E.go e1).go e2) fun w G3 H3 e3 hw => ?_⟩
    subst ek
    have ez := key_dq hy
    subst ez
    have h1' := (e2.trans e3).g.rd h1
    rcases dget_k e3.gh h1' (h2.mono (e2.trans e3).g) (k := k) with ⟨h3, h4⟩ | ⟨v, d', h3, h4, h5⟩
    · exact ⟨_, h4, q _ G3 H3 ((e1.trans e2).trans e3) (by rw [h3]; exact hw)⟩
    · exact ⟨_, h4, q _ G3 H3 ((e1.trans e2).trans e3) (by rw [h3]; exact h5)⟩
/-- what a dict comprehension gives -/
def dcD : Nat → (Nat → Bool) → (Nat → Key) → (Nat → D) → List (Key × D)
  | 0, _, _, _ => []
  | n + 1, b, k, f => if b n = true then putG (dcD n b k f) (k n) (f n) else dcD n b k f
theorem dcD_len (b : Nat → Bool) (k : Nat → Key) (f : Nat → D) : ∀ n, (dcD n b k f).length ≤ n
  | 0 => Nat.le_refl _
  | n + 1 => by
    unfold dcD
    have := dcD_len b k f n
    split
    · exact Nat.le_trans (putG_len _ _ _) (Nat.succ_le_succ this)
    · omega
end
end DL

set_option maxHeartbeats 1000000
/-! DL11: the order of texts and of pairs of texts; sorted. -/
namespace DL
open PySem PySem.Spec PyProof.Rows L2
/-! ### orders -/
def ltS (a b : Str) : Bool := decide (a.cps.toList < b.cps.toList)
theorem str_ext {a b : Str} (h : a.cps.toList = b.cps.toList) : a = b := by
  cases a
  cases b
  exact congrArg Str.mk (Array.toList_inj.mp h)
theorem ltS_irr (a : Str) : ltS a a = false := decide_eq_false (List.lt_irrefl _)
theorem ltS_tr {a b c : Str} (h : ltS a b = true) (k : ltS b c = true) : ltS a c = true := decide_eq_true (List.lt_trans (of_decide_eq_true h) (of_decide_eq_true k))
theorem ltS_as {a b : Str} (h : ltS a b = true) : ltS b a = false := decide_eq_false (List.lt_asymm (of_decide_eq_true h))
theorem ltS_eq {a b : Str} (h : ltS a b = false) (k : ltS b a = false) : a = b := by
  refine str_ext (List.le_antisymm ?_ ?_)
  · exact List.not_lt.mp (of_decide_eq_false k)
  · exact List.not_lt.mp (of_decide_eq_false h)
/-- of pairs: by the first, then by the second -/
def ltQ (p q : Str × Str) : Bool := if p.1 = q.1 then ltS p.2 q.2 else ltS p.1 q.1
theorem ltQ_irr (a : Str × Str) : ltQ a a = false := by
  unfold ltQ
  rw [if_pos rfl, ltS_irr]
theorem ltQ_tr {a b c : Str × Str} (h : ltQ a b = true) (k : ltQ b c = true) : ltQ a c = true := by
  unfold ltQ at *
  by_cases e : a.1 = b.1
  · rw [if_pos e] at h
    by_cases f : b.1 = c.1
    · rw [if_pos f] at k
      rw [if_pos (e.trans f)]
      exact ltS_tr h k
    · rw [if_neg f] at k
      rw [if_neg (fun z => f (e.symm.trans z)), e]
      exact k
  · rw [if_neg e] at h
    by_cases f : b.1 = c.1
    · rw [if_neg (fun z => e (z.trans f.symm)), ← f]
      exact h
    · rw [if_neg f] at k
      have := ltS_tr h k
      rw [if_neg (fun z => by rw [z, ltS_irr] at this; cases this)]
      exact this
theorem ltQ_eq {a b : Str × Str} (h : ltQ a b = false) (k : ltQ b a = false) : a = b := by
  unfold ltQ at *
  by_cases e : a.1 = b.1
  · rw [if_pos e] at h
    rw [if_pos e.symm] at k
    exact Prod.ext e (ltS_eq h k)
  · rw [if_neg e] at h
    rw [if_neg (fun z => e z.symm)] at k
    exact absurd (ltS_eq h k) e
theorem ltQ_as {a b : Str × Str} (h : ltQ a b = true) : ltQ b a = false := by
  cases q : ltQ b a with
  | false => rfl
  | true =>
    have := ltQ_tr h q
    rw [ltQ_irr] at this
    cases this
section
variable {α : Type} {lt : α → α → Bool}
/-- a strict total order -/
structure Sto (lt : α → α → Bool) : Prop where
  irr : ∀ a, lt a a = false
  tr : ∀ {a b c}, lt a b = true → lt b c = true → lt a c = true
  eq : ∀ {a b}, lt a b = false → lt b a = false → a = b
theorem Sto.as (O : Sto lt) {a b : α} (h : lt a b = true) : lt b a = false := by
  cases q : lt b a with
  | false => rfl
  | true =>
    have := O.tr h q
    rw [O.irr] at this
    cases this
theorem Sto.tr' (O : Sto lt) {x y z : α} (h : lt y x = false) (k : lt z y = false) : lt z x = false := by
  cases q : lt z x with
  | false => rfl
  | true =>
    cases a : lt x y with
    | true =>
      have := O.tr q a
      rw [k] at this
      cases this
    | false =>
      have e := O.eq a h
      subst e
      rw [q] at k
      cases k
theorem Sto.swo_of {β : Type} (O : Sto lt) (f : β → α) : SrtO.Swo fun x y => lt (f x) (f y) := ⟨fun _ _ h => O.as h, fun _ _ _ h k => O.tr' h k⟩
theorem Sto.swo (O : Sto lt) : SrtO.Swo lt := ⟨fun _ _ h => O.as h, fun _ _ _ h k => O.tr' h k⟩
def srt (lt : α → α → Bool) (l : List α) : List α := l.mergeSort fun x y => !lt y x
theorem srt_perm (l : List α) : (srt lt l).Perm l := List.mergeSort_perm _ _
theorem srt_pw (O : Sto lt) (l : List α) : (srt lt l).Pairwise fun x y => lt y x = false := by
  have := List.pairwise_mergeSort (le := fun x y => !lt y x) (fun a b c h k => by
    rw [Bool.not_eq_true'] at *
    exact O.tr' h k) (fun a b => by
    cases q : lt b a with
    | false => rfl
    | true =>
      rw [O.as q]
      rfl) l
  exact this.imp fun h => by simpa using h
theorem srt_uniq (O : Sto lt) {l m : List α} (hp : l.Perm m) (hs : l.Pairwise fun x y => lt y x = false) : l = srt lt m := by
  refine List.Perm.eq_of_pairwise (le := fun x y => lt y x = false) (fun a b _ _ h k => O.eq k h) hs (srt_pw O m) (hp.trans (srt_perm m).symm)
theorem srt_len (l : List α) : (srt lt l).length = l.length := (srt_perm l).length_eq
end
theorem stoS : Sto ltS := ⟨ltS_irr, ltS_tr, ltS_eq⟩
theorem stoQ : Sto ltQ := ⟨ltQ_irr, ltQ_tr, ltQ_eq⟩
end DL

set_option maxHeartbeats 1000000
/-! DL12: sorted(..) by data; comparisons of pairs of texts; a dict comprehension; words for the walk. -/
namespace DL
open PySem PySem.Spec PyProof.Rows L2
/-! ### sorted of a list of texts -/
theorem rising_pw : ∀ (l : List Str) (p : Str), risingS p l = true → (p :: l).Pairwise fun x y => ltS y x = false
  | [], p, _ => List.pairwise_singleton _ _
  | x :: r, p, h => by
    have h : (!ltCps x.cps.toList p.cps.toList && risingS x r) = true := h
    rw [Bool.and_eq_true] at h
    have ih := rising_pw r x h.2
    have h1 : ltS x p = false := by
      have := h.1
      rw [ltCps_eq] at this
      simpa [ltS] using this
    refine List.pairwise_cons.mpr ⟨fun y hy => ?_, ih⟩
    rcases List.mem_cons.mp hy with rfl | hy
    · exact h1
    · exact stoS.tr' h1 ((List.pairwise_cons.mp ih).1 y hy)
theorem sortedS_pw : ∀ {l : List Str}, sortedS l = true → l.Pairwise fun x y => ltS y x = false
  | [], _ => List.Pairwise.nil
  | x :: r, h => rising_pw r x h
section
variable {K : PySem.W.Frag}
theorem cn_sortS {zs : List Str} (hl : zs.length < 64) : CN K (rSortedS K) [.list (zs.map PyData.str)] (.list ((srt ltS zs).map PyData.str)) := fun xs G H Q g hx q => by
  cases hx with
  | cons a b =>
    cases b
    cases a with
    | @lst a xs _ ha hr =>
      have e := map_str_dq hr
      subst e
      refine ⟨a, zs, rfl, SqL.of (g.lst ha), hl, fun ys p hp hs hn => ?_⟩
      have e := srt_uniq stoS hp (sortedS_pw hs)
      subst e
      refine q p G _ (.fresh g hn) hn (g.none hn) (.lst upd_same ?_)
      clear hs hp hr ha
      induction (srt ltS zs) with
      | nil => exact .nil
      | cons z l ih => exact .cons (.str z) ih
/-! ### pairs of texts in the heap -/
/-- v is the pair (x, y) -/
def IsPS (h : Heap) (v : Value) (p : Str × Str) : Prop := ∃ a o t u n, v = .ref a ∧ h.get? a = some o ∧ o.cls = .type "tuple" ∧ o.data = .seq #[.str p.1 t, .str p.2 u] n
theorem IsPS.keeps {h h' : Heap} {v : Value} {p : Str × Str} (x : IsPS h v p) (k : ∀ b o, h.get? b = some o → o.cls = .type "tuple" → h'.get? b = some o) : IsPS h' v p := by
  obtain ⟨a, o, t, u, n, e, ho, hc, hd⟩ := x
  exact ⟨a, o, t, u, n, e, k a o ho hc, hc, hd⟩
section
variable {prog : Program} {w : World} {A : Around} {s : Shared}
theorem ps_cmp {vs : List Value} {k : Value → Str × Str} (hp : ∀ v ∈ vs, IsPS s.heap v (k v)) : SrtO.Cmp prog w A s (tuples' true) (fun p => p.1 ∈ vs) (SrtO.lt2 fun v u => ltQ (k v) (k u)) := by
  intro p q hm hm'
  have h1 := hp _ hm
  have h2 := hp _ hm'
  show wpAny (model prog w) A (keyLt' (tuples' true) p.1 q.1) (fun r s' => s' = s ∧ r = ltQ (k p.1) (k q.1)) (fun _ _ => False) s
  generalize k p.1 = x at h1 ⊢
  generalize k q.1 = y at h2 ⊢
  obtain ⟨a, o, t, u, n, e, ho, _, hd⟩ := h1
  obtain ⟨a', o', t', u', n', e', ho', _, hd'⟩ := h2
  rw [e, e']
  unfold ltQ
  refine PySem.W.kat_lt ho hd ho' hd' ?_
  show PySem.W.KatLex prog w A true (decide (2 < 2)) _ [(.str x.1 t, .str y.1 t'), (.str x.2 u, .str y.2 u')] 0 s
  refine PySem.W.kat_cons (wpAny_eqBool_str ?_)
  refine PySem.W.kat_go (fun e1 => ?_) (fun e1 => ?_)
  · rw [if_pos (of_decide_eq_true e1)]
    refine PySem.W.kat_yes (PySem.W.kat_cons (wpAny_eqBool_str ?_))
    refine PySem.W.kat_go (fun e2 => ?_) (fun e2 => ?_)
    · rw [of_decide_eq_true e2, ltS_irr]
      exact PySem.W.kat_yes (PySem.W.kat_nil ⟨rfl, rfl⟩)
    · exact PySem.W.kat_no (oneLt_any_str ⟨rfl, rfl⟩)
  · rw [if_neg (of_decide_eq_false e1)]
    exact PySem.W.kat_no (oneLt_any_str ⟨rfl, rfl⟩)
theorem ps_firsts {h : Heap} : ∀ {vs : List Value} {k : Value → Str × Str}, (∀ v ∈ vs, IsPS h v (k v)) → ∃ fs : List Value, PySem.W.KatTups h vs fs ∧ fs.length = vs.length ∧ ∀ f ∈ fs, ∃ x t, f = Value.str x t
  | [], _, _ => ⟨[], PySem.W.KatTups.nil, rfl, fun _ hm => by simp at hm⟩
  | v :: vs, k, hp => by
    obtain ⟨fs, h1, h2, h3⟩ := ps_firsts (vs := vs) (k := k) fun v' hm => hp v' (List.mem_cons_of_mem _ hm)
    obtain ⟨a, o, t, u, n, e, ho, hc, hd⟩ := hp v (List.mem_cons_self ..)
    generalize k v = p at hd
    subst e
    refine ⟨.str p.1 t :: fs, PySem.W.KatTups.cons ho hc hd rfl h1, congrArg Nat.succ h2, fun f hm => ?_⟩
    rcases List.mem_cons.mp hm with rfl | hm
    · exact ⟨_, _, rfl⟩
    · exact h3 f hm
theorem ps_sortable {a : Addr} {vs : List Value} {k : Value → Str × Str} (h0 : 0 < vs.length) (hp : ∀ v ∈ vs, IsPS s.heap v (k v)) (ha : ∀ o, s.heap.get? a = some o → o.cls ≠ .type "tuple") : SrtO.SortableO prog w A s a vs fun v u => ltQ (k v) (k u) := by
  intro h' keep
  have hp' : ∀ v ∈ vs, IsPS h' v (k v) := fun v hm => (hp v hm).keeps fun b o e c => keep b o (fun z => by subst z; exact ha o e c) e
  obtain ⟨fs, h1, h2, h3⟩ := ps_firsts hp'
  refine ⟨tuples' true, fun Q E hq => ?_, ps_cmp hp'⟩
  refine PySem.W.kat_kind (T := .type "str") h1 (by omega) (fun f hm => ?_) (by rfl) ?_
  · obtain ⟨x, t, rfl⟩ := h3 f hm
    exact PySem.W.Looks.now
  · have e : (Value.type "str" != Value.type "tuple") = true := by first | decide +kernel | rfl | decide
    rw [e]
    exact hq
end
/-- what the heap holds at a pair of texts -/
def psAt (H : Hp) (v : Value) : Str × Str := match v with
  | .ref b => (match H b with
    | some (.tup [.str x, .str y]) => (x, y)
    | _ => (Str.empty, Str.empty))
  | _ => (Str.empty, Str.empty)
def keyQ (p : Str × Str) : List Key := [.inr p.1, .inr p.2]
/-- the addresses bs hold the pairs qs -/
def AtQ (H : Hp) (bs : List Addr) (qs : List (Str × Str)) : Prop := Paired (fun b q => H b = some (.tup [.str q.1, .str q.2])) bs qs
/-- sorted(d), d a dict whose keys are pairs of texts -/
def rSortDT (K : PySem.W.Frag) : List V → Hp → VK → Prop := fun xs H Q => ∃ (d : Addr) (kvs : List (List Key × V)) (qs : List (Str × Str)), xs = [.ref d] ∧ Rd H d (.dT kvs) ∧ kvs.map (·.1) = qs.map keyQ ∧
  ∀ p bs, AtQ H bs (srt ltQ qs) → H p = none → Q (.ref p) (upd H p (.lst (bs.map V.ref)))
end
theorem paired_map {α β : Type} {R : α → β → Prop} {f : α → β} : ∀ {l : List α}, (∀ a ∈ l, R a (f a)) → Paired R l (l.map f)
  | [], _ => Paired.nil
  | a :: l, h => Paired.cons (h a (List.mem_cons_self ..)) (paired_map fun b hb => h b (List.mem_cons_of_mem _ hb))
theorem call_sortedDT {X : Cx} (hc : X.calm = true) : CallR X (.builtin "sorted") (rSortDT X.K) := by
  intro pins s σ H xs us Q I r h
  obtain ⟨d, kvs, qs, rfl, hd, hks, q⟩ := h
  obtain ⟨u, rfl, rx⟩ := r.one
  cases rx
  obtain ⟨z, hs, ks, pr, o, es, ep, ho, hx, hdt, he, hn⟩ := (show ObjOk X.prog X.w H s.heap d (.dT kvs) from hd.ok I.hok)
  have l1 : es.size = ks.length := size_of_entries he
  have l2 : kvs.length = ks.length := Paired.length pr
  refine Calls.call_function_entry PyProof.Rows.kind_sorted PyProof.Rows.plain_sorted PyProof.Rows.entry_sorted (PyProof.Rows.args_sorted1 _) ?_
  unfold Builtin.«sorted»
  refine wpAny_bind (m := checkCount "sorted" 1 1 _) (wpAny_pure ?_)
  refine wpAny_bind (PySem.W.kdu_collect (A := X.A.in1) (kdl_raw hs hx hdt) (I.ok.hd hc) ho (by omega) fun h' tk acc hk it => ?_)
  have ea : acc.toList = ks.map fun x => Value.ref x.2.1 := by
    have hl : acc.toList.length = ks.length := by rw [Array.length_toList, it.1]; exact l1
    apply List.ext_getElem?
    intro j
    rw [List.getElem?_map]
    cases hj : acc.toList[j]? with
    | none => rw [List.getElem?_eq_none (by have := List.getElem?_eq_none_iff.mp hj; omega)] <;> rfl
    | some v =>
      obtain ⟨en, hen, hv⟩ := it.2 j v (by rw [← Array.getElem?_toList]; exact hj)
      have qe := entry_at he j
      rw [hen] at qe
      cases hb : ks[j]? with
      | none =>
        rw [hb] at qe
        exact nomatch (show some en = none from qe)
      | some b =>
        rw [hb] at qe
        have e2 : en = entryOfKey (tupleKind (mixKind X.prog X.w)) b := Option.some.inj qe
        rw [hv, e2] <;> rfl
  have hal : acc.toList.length ≤ sizeLine := by rw [ea, List.length_map]; omega
  have I1 : Inv X pins σ H { s with heap := h', toks := tk } := I.kept hk
  -- the pairs
  have hps : ∀ x ∈ ks, ∃ p : Str × Str, H x.2.1 = some (.tup [.str p.1, .str p.2]) := by
    intro x hx'
    have kk : ∀ {l : List (List Key × V)} {m : List (List Key × Addr × Value)} {ns : List (Str × Str)}, KT H l m → l.map (·.1) = ns.map keyQ → ∀ x ∈ m, ∃ p : Str × Str, H x.2.1 = some (.tup [.str p.1, .str p.2]) := by
      intro l m ns r
      induction r generalizing ns with
      | nil => intro _ x hx; cases hx
      | @cons a b l m h t ih =>
        intro e x hx
        cases ns with
        | nil => cases e
        | cons n ns =>
          rw [List.map_cons, List.map_cons] at e
          injection e with e1 e2
          rcases List.mem_cons.mp hx with rfl | hx
          · refine ⟨n, ?_⟩
            rw [h.2.1, e1]
            rfl
          · exact ih e2 x hx
    exact kk pr hks x hx'
  have hkv : ks.map (fun x => psAt H (.ref x.2.1)) = qs := by
    have kk : ∀ {l : List (List Key × V)} {m : List (List Key × Addr × Value)} {ns : List (Str × Str)}, KT H l m → l.map (·.1) = ns.map keyQ → m.map (fun x => psAt H (.ref x.2.1)) = ns := by
      intro l m ns r
      induction r generalizing ns with
      | nil => intro e; cases ns with
        | nil => rfl
        | cons => cases e
      | @cons a b l m h t ih =>
        intro e
        cases ns with
        | nil => cases e
        | cons n ns =>
          rw [List.map_cons, List.map_cons] at e
          injection e with e1 e2
          rw [List.map_cons, ih e2]
          congr 1
          have := h.2.1
          rw [e1] at this
          unfold psAt
          dsimp only
          rw [this]
          rfl
    exact kk pr hks
  have hmem : ∀ v ∈ acc.toList, ∃ b p, v = Value.ref b ∧ H b = some (.tup [.str p.1, .str p.2]) ∧ psAt H v = p := fun v hv => by
    rw [ea] at hv
    obtain ⟨x, hx', rfl⟩ := List.mem_map.mp hv
    obtain ⟨p, hp⟩ := hps x hx'
    exact ⟨_, p, rfl, hp, by unfold psAt; dsimp only; rw [hp]⟩
  have hoL : (h'.push (seqObj "list" acc.toList.toArray 0)).get? h'.objs.size = some (seqObj "list" acc.toList.toArray 0) := Heap.get?_push_size _ rfl
  have hP : ∀ v ∈ acc.toList, IsPS (h'.push (seqObj "list" acc.toList.toArray 0)) v (psAt H v) := fun v hv => by
    obtain ⟨b, p, rfl, hb, hp⟩ := hmem v hv
    rw [hp]
    obtain ⟨_, its2, r2, o2, ho2, hc2, n2, hd2⟩ := I1.hok _ _ hb
    obtain ⟨u1, u2, rfl, ri, rj⟩ := vals2 r2
    obtain ⟨t1, rfl⟩ := ri
    obtain ⟨t2, rfl⟩ := rj
    exact ⟨b, o2, t1, t2, n2, rfl, Heap.get?_push_of_some _ ho2, hc2, hd2⟩
  refine wpAny_bind (wpAny_newList ?_ hal)
  show wpAny _ _ _ _ _ { s with heap := h'.push (seqObj "list" acc.toList.toArray 0), toks := tk }
  refine wpAny_bind (wpAny_holding (wpAny_call_entry PyProof.Rows.slot_list_sort ⟨_, hoL, rfl⟩ PyProof.Rows.entry_list_sort
    (SrtO.list_sort_ord (stoQ.swo_of (psAt H)) (s := { s with heap := h'.push (seqObj "list" acc.toList.toArray 0), toks := tk }) hoL hal (fun h2 => ps_sortable (by omega) hP fun o e => ?_) fun out hs hb => ⟨_, rfl, ?_⟩)
    (PyProof.Rows.args_list_sort _)))
  · have e' := e.symm.trans hoL
    cases e'
    intro c
    exact absurd (Value.type.inj c) (by decide)
  · have hm2 : ∀ v ∈ out, ∃ b p, v = Value.ref b ∧ H b = some (.tup [.str p.1, .str p.2]) ∧ psAt H v = p := fun v hv => hmem v (hb.perm.mem_iff.mp hv)
    have eo : out = (out.map fun v => match v with | .ref a => a | _ => 0).map Value.ref := by
      rw [List.map_map]
      refine (List.map_id out).symm.trans (List.map_congr_left fun v hv => ?_)
      obtain ⟨b, p, rfl, _⟩ := hm2 v hv
      rfl
    generalize eb : (out.map fun v => match v with | .ref a => a | _ => 0) = bs at eo
    obtain ⟨e', he'⟩ := PyProof.Rows.sortedHeap_at (vs := acc.toList) (out := out.toArray) hoL
    have ho' : out.length ≤ sizeLine := by rw [hb.perm.length_eq]; exact hal
    have hlen : (bs.map V.ref).length ≤ sizeLine := by
      have := congrArg List.length eo
      rw [List.length_map] at this ⊢
      omega
    have eq : srt ltQ qs = out.map (psAt H) := by
      refine (srt_uniq stoQ ?_ ?_).symm
      · rw [← hkv]
        have := hb.perm.map (psAt H)
        rw [ea, List.map_map] at this
        exact this
      · exact List.pairwise_map.mpr hs
    refine wpAny_pure ⟨_, rfl, .ref h'.objs.size, upd H h'.objs.size (.lst (bs.map V.ref)), I1.laid (t' := tk) (fun b u e => ?_) (Nat.le_refl _)
      (show ObjOk X.prog X.w _ _ _ (.lst (bs.map V.ref)) from ⟨hlen, out, e', by rw [eo]; exact vals_refs bs, he'⟩), rfl, q _ bs ?_ (I1.hok.fresh (Nat.le_refl _))⟩
    · have hb : b < h'.objs.size := Heap.lt_size e
      rw [PyProof.Rows.sortedHeap_old (Nat.ne_of_lt hb) (by rw [size_push']; exact Nat.lt_succ_of_lt hb)]
      exact Heap.get?_push_of_some _ e
    · rw [eq, eo, List.map_map]
      refine paired_map fun b hb' => ?_
      have : Value.ref b ∈ out := by rw [eo]; exact List.mem_map.mpr ⟨b, hb', rfl⟩
      obtain ⟨b', p, e1, e2, e3⟩ := hm2 _ this
      cases e1
      show H b = some (.tup [.str (psAt H (.ref b)).1, .str (psAt H (.ref b)).2])
      rw [e3]
      exact e2
end DL

set_option maxHeartbeats 1000000
/-! DL13: sorted(dict), comparisons of pairs of texts, dict comprehensions, str(int), xs[::-1]. -/
namespace DL
open PySem PySem.Spec PyProof.Rows L2
def pqD (p : Str × Str) : D := .tuple [.str p.1, .str p.2]
section
variable {K : PySem.W.Frag}
theorem atQ_dq {G H : Hp} (g : ∀ b xs, H b = some (.tup xs) → G b = some (.tup xs)) : ∀ {bs : List Addr} {qs : List (Str × Str)}, AtQ H bs qs → DqA K G (bs.map V.ref) (qs.map pqD)
  | _, _, .nil => .nil
  | _, _, .cons h t => .cons (.tup (SqT.of (g _ _ h)) (.cons (.str _) (.cons (.str _) .nil))) (atQ_dq g t)
/-- the tuples that stand are frozen too -/
def tupG (G H : Hp) : Hp := fun a => match G a with
  | some o => some o
  | none => (match H a with
    | some (.tup xs) => some (.tup xs)
    | _ => none)
theorem tupG_old {G H : Hp} {a : Addr} {o : HO} (h : G a = some o) : tupG G H a = some o := by
  unfold tupG
  rw [h]
theorem tupG_tup {G H : Hp} (g : GH G H) {a : Addr} {xs : List V} (h : H a = some (.tup xs)) : tupG G H a = some (.tup xs) := by
  unfold tupG
  cases e : G a with
  | none => dsimp only; rw [h]
  | some o =>
    dsimp only
    rcases g a o e with ⟨q, _⟩ | ⟨_, _, q⟩ | q
    · rw [h] at q
      exact q.symm
    · rw [h] at q
      cases q
    · obtain ⟨_, ys, q⟩ := q.mk
      rw [h] at q
      cases q
theorem tupG_none {G H : Hp} {a : Addr} (h : H a = none) (g : GH G H) : tupG G H a = none := by
  unfold tupG
  rw [g.none h]
  dsimp only
  rw [h]
theorem Ext.tups {G H : Hp} (g : GH G H) : Ext G H (tupG G H) H := by
  refine ⟨fun a o h => tupG_old h, fun a o h => .inl h, fun a u r => ?_, fun a o h t n => ?_⟩
  · unfold tupG at r
    cases e : G a with
    | some o =>
      rw [e] at r
      cases r
      exact g a _ e
    | none =>
      rw [e] at r
      dsimp only at r
      cases q : H a with
      | none => rw [q] at r; cases r
      | some o =>
        rw [q] at r
        cases o <;> first | (cases r; exact .of q) | (cases r; done)
  · unfold tupG
    rw [n]
    dsimp only
    rw [h]
    cases o <;> first | rfl | cases t
theorem cn_sortDT {kvs : List (List Key × D)} {qs : List (Str × Str)} (e : kvs.map (·.1) = qs.map keyQ) : CN K (rSortDT K) [dtD kvs] (.list ((srt ltQ qs).map pqD)) := fun xs G H Q g hx q => by
  cases hx with
  | cons a b =>
    cases b
    obtain ⟨d, es, rfl, h1, h2⟩ := dq_dt a
    refine ⟨d, es, qs, rfl, g.rd h1, by rw [h2.keys, e], fun p bs hb hp => ?_⟩
    have x := Ext.tups g
    exact q p _ _ (x.trans (.fresh x.gh hp)) hp (tupG_none hp g) (.lst upd_same (atQ_dq (fun b xs h => tupG_tup g h) hb))
/-! ### pairs of texts are compared -/
def rLtQ (K : PySem.W.Frag) : R2 := fun x y H Q => ∃ (a b : Addr) (p q : Str × Str), x = .ref a ∧ y = .ref b ∧ SqT K H a [.str p.1, .str p.2] ∧ SqT K H b [.str q.1, .str q.2] ∧ Q (.bl (ltQ p q)) H
def rGeQ (K : PySem.W.Frag) : R2 := fun x y H Q => ∃ (a b : Addr) (p q : Str × Str), x = .ref a ∧ y = .ref b ∧ SqT K H a [.str p.1, .str p.2] ∧ SqT K H b [.str q.1, .str q.2] ∧ Q (.bl (!ltQ p q)) H
theorem lex2 {e r : Nat → Bool} {z : Bool} : Ob.lexAt e r z 0 2 = if e 0 = true then (if e 1 = true then z else r 1) else r 0 := rfl
end
section
variable {X : Cx}
theorem eq_ss {A : Around} {s : Shared} (a b : Str) (t u : Tok) : SeqAt.EqAt A s (.str a t) (.str b u) (decide (a = b)) := by
  have z : (a == b) = decide (a = b) := by
    by_cases q : a = b
    · rw [decide_eq_true q]; exact beq_iff_eq.mpr q
    · rw [decide_eq_false q]; exact beq_eq_false_iff_ne.mpr q
  rw [← z]
  exact SeqAt.EqAt.str_str _ _ _ _
theorem op_ltQ (hu : X.A.units < cLine) : OpR X (compareOp .Lt) (rLtQ X.K) := by
  intro pins s σ H x y v u Q I rx ry h
  obtain ⟨a, b, p, q, rfl, rfl, ha, hb, h⟩ := h
  cases rx
  cases ry
  obtain ⟨its, r1, p1, _⟩ := I.tuple ha
  obtain ⟨its2, r2, p2, _⟩ := I.tuple hb
  obtain ⟨u1, u2, rfl, i1, i2⟩ := vals2 r1
  obtain ⟨t1, rfl⟩ := i1
  obtain ⟨t2, rfl⟩ := i2
  obtain ⟨w1, w2, rfl, j1, j2⟩ := vals2 r2
  obtain ⟨z1, rfl⟩ := j1
  obtain ⟨z2, rfl⟩ := j2
  have R := Ob.RcOp.tuples_lt (A := X.A) (s := s) (e := fun j => if j = 0 then decide (p.1 = q.1) else decide (p.2 = q.2)) (r := fun j => if j = 0 then ltS p.1 q.1 else ltS p.2 q.2) p1 p2 hu (fun j h1 h2 => by
    match j, h1 with
    | 0, _ => exact eq_ss _ _ _ _
    | 1, _ => exact eq_ss _ _ _ _) (fun j h1 h2 _ => by
    match j, h1 with
    | 0, _ => exact fun _ _ _ _ h => lt_str h
    | 1, _ => exact fun _ _ _ _ h => lt_str h)
  have e : Ob.lexAt (fun j => if j = 0 then decide (p.1 = q.1) else decide (p.2 = q.2)) (fun j => if j = 0 then ltS p.1 q.1 else ltS p.2 q.2) (decide (2 < 2)) 0 2 = ltQ p q := by
    rw [lex2]
    unfold ltQ
    by_cases c : p.1 = q.1
    · rw [if_pos c, if_pos (by simpa using c)]
      by_cases f : p.2 = q.2
      · rw [if_pos (by simpa using f), f, ltS_irr]
        rfl
      · rw [if_neg (by simpa using f)]
        rfl
    · rw [if_neg c, if_neg (by simpa using c)]
      rfl
  have R' := R X.prog X.w X.xe (EP X pins σ Q) ⟨.bl (ltQ p q), H, I, congrArg Value.bool e, h⟩
  exact R'
theorem op_geQ (hu : X.A.units < cLine) : OpR X (compareOp .GtE) (rGeQ X.K) := by
  intro pins s σ H x y v u Q I rx ry h
  obtain ⟨a, b, p, q, rfl, rfl, ha, hb, h⟩ := h
  cases rx
  cases ry
  obtain ⟨its, r1, p1, _⟩ := I.tuple ha
  obtain ⟨its2, r2, p2, _⟩ := I.tuple hb
  obtain ⟨u1, u2, rfl, i1, i2⟩ := vals2 r1
  obtain ⟨t1, rfl⟩ := i1
  obtain ⟨t2, rfl⟩ := i2
  obtain ⟨w1, w2, rfl, j1, j2⟩ := vals2 r2
  obtain ⟨z1, rfl⟩ := j1
  obtain ⟨z2, rfl⟩ := j2
  have R := Ob.RcOp.tuples_ge (A := X.A) (s := s) (e := fun j => if j = 0 then decide (p.1 = q.1) else decide (p.2 = q.2)) (r := fun j => if j = 0 then !ltS p.1 q.1 else !ltS p.2 q.2) p1 p2 hu (fun j h1 h2 => by
    match j, h1 with
    | 0, _ => exact eq_ss _ _ _ _
    | 1, _ => exact eq_ss _ _ _ _) (fun j h1 h2 _ => by
    match j, h1 with
    | 0, _ => exact fun _ _ _ _ h => P.ge_str h
    | 1, _ => exact fun _ _ _ _ h => P.ge_str h)
  have e : Ob.lexAt (fun j => if j = 0 then decide (p.1 = q.1) else decide (p.2 = q.2)) (fun j => if j = 0 then !ltS p.1 q.1 else !ltS p.2 q.2) (decide (2 ≥ 2)) 0 2 = !ltQ p q := by
    rw [lex2]
    unfold ltQ
    by_cases c : p.1 = q.1
    · rw [if_pos c, if_pos (by simpa using c)]
      by_cases f : p.2 = q.2
      · rw [if_pos (by simpa using f), f, ltS_irr]
        rfl
      · rw [if_neg (by simpa using f)]
        rfl
    · rw [if_neg c, if_neg (by simpa using c)]
      rfl
  exact R X.prog X.w X.xe (EP X pins σ Q) ⟨.bl (!ltQ p q), H, I, congrArg Value.bool e, h⟩
end
/-- one rule or another -/
def rOr (r r' : R2) : R2 := fun x y H Q => r x y H Q ∨ r' x y H Q
section
variable {K : PySem.W.Frag} {Ex : XK} {ρ : List Sl} {ta tb te tk tv : TE} {tt : TT} {t u : TS} {d d1 d2 : D} {P : Oc → Prop} {r r' : R2}
theorem od_orL (h : OD K r d1 d2 d) : OD K (rOr r r') d1 d2 d := fun x y G H Q g hx hy q => .inl (h x y G H Q g hx hy q)
theorem od_orR (h : OD K r' d1 d2 d) : OD K (rOr r r') d1 d2 d := fun x y G H Q g hx hy q => .inr (h x y G H Q g hx hy q)
theorem ps_sq {G H : Hp} (g : GH G H) {x : V} {a b : Str} (h : Dq K G x (.tuple [.str a, .str b])) : ∃ l, x = .ref l ∧ SqT K H l [.str a, .str b] := by
  cases h with
  | @tup l xs _ ha hr =>
    cases hr with
    | cons h1 h2 => cases h2 with
      | cons h2 h3 =>
        cases h1
        cases h2
        cases h3
        exact ⟨l, rfl, g.t ha⟩
theorem od_ltQ {a b c e : Str} : OD K (rLtQ K) (.tuple [.str a, .str b]) (.tuple [.str c, .str e]) (.bool (ltQ (a, b) (c, e))) := fun x y G H Q g hx hy q => by
  obtain ⟨l, rfl, h1⟩ := ps_sq g hx
  obtain ⟨m, rfl, h2⟩ := ps_sq g hy
  exact ⟨l, m, (a, b), (c, e), rfl, rfl, h1, h2, q _ G H (.refl g) (.bl _)⟩
theorem od_geQ {a b c e : Str} : OD K (rGeQ K) (.tuple [.str a, .str b]) (.tuple [.str c, .str e]) (.bool (!ltQ (a, b) (c, e))) := fun x y G H Q g hx hy q => by
  obtain ⟨l, rfl, h1⟩ := ps_sq g hx
  obtain ⟨m, rfl, h2⟩ := ps_sq g hy
  exact ⟨l, m, (a, b), (c, e), rfl, rfl, h1, h2, q _ G H (.refl g) (.bl _)⟩
/-- xs[::-1] -/
theorem en_revL {ds : List D} (h : EV K te ρ (.list ds)) : EVN K (tRevL K te) ρ (.list ds.reverse) := fun G0 H0 G H σ Q E q =>
  h G0 H0 G H σ _ E fun v G1 H1 e1 hv => by
    cases hv with
    | @lst a xs _ ha hr =>
      refine ⟨a, xs, rfl, SqL.of (e1.gh.lst ha), fun p hp => ?_⟩
      refine q p G1 _ (e1.trans (.fresh e1.gh hp)) ?_ (e1.gh.none hp) (.lst upd_same hr.rev)
      exact e1.gone hp
/-- str(i) -/
def strI (i : Int) : Str := (toString i : String)
def rStrI : List V → Hp → VK → Prop := fun xs H Q => ∃ i, xs = [.int i] ∧ i.natAbs.log2 < 1920 ∧ Q (.str (toString i)) H
theorem call_strI {X : Cx} : CallR X (.type "str") rStrI := call_str_int
theorem cd_strI {i : Int} (h : i.natAbs.log2 < 1920) : CD K rStrI [.int i] (.str (strI i)) := fun xs G H Q g hx q => by
  cases hx with
  | cons a b =>
    cases b
    cases a
    exact ⟨i, rfl, h, q _ G H (.refl g) (.str _)⟩
/-- a dict comprehension -/
theorem dc_it {J : It} {n : Nat} {Gd : Hp → Prop} {Y : Nat → Hp → V → Hp → Prop} (w : Walk J n Gd Y) {g : TG} {vs : List Nat} {σ : L2.St} {H1 : Hp} {D : Addr} {Qd : Hp → Prop} (Pv : Nat → Hp → Prop) (h0 : Pv 0 (upd H1 D (.dK []))) (hG : ∀ i H, i ≤ n → Pv i H → Gd H)
    (hs : ∀ i x H H', i < n → Pv i H → Y i H x H' → g x (wipe σ vs) H' fun σ2 H2 => wipe σ2 vs = wipe σ vs ∧ tt σ2 H2 fun b H3 =>
      if b = true then tk σ2 H3 fun y H4 => tv σ2 H4 fun z H5 => ∃ kvs k, y = kV k ∧ H5 D = some (.dK kvs) ∧ kvs.length < sizeLine ∧ Pv (i + 1) (upd H5 D (.dK (putK kvs k z))) else Pv (i + 1) H3) (hd : ∀ H, Pv n H → Qd H) :
    ∃ W : Nat → Nat → Hp → Prop, (∃ m, W 0 m (upd H1 D (.dK []))) ∧ ∀ i m H, W i m H →
      (J.stop i H ∧ Qd H) ∨ (J.go i H ∧ ∃ Nx : Hp → Prop, (∀ H', Nx H' → ∃ m', m' < m ∧ W (i + 1) m' H') ∧ ∀ x H', J.yld i H x H' → g x (wipe σ vs) H' fun σ2 H2 => wipe σ2 vs = wipe σ vs ∧ tt σ2 H2 fun b H3 =>
        if b = true then tk σ2 H3 fun y H4 => tv σ2 H4 fun z H5 => ∃ kvs k, y = kV k ∧ H5 D = some (.dK kvs) ∧ kvs.length < sizeLine ∧ Nx (upd H5 D (.dK (putK kvs k z))) else Nx H3) := by
  refine ⟨fun i m H => m = n - i ∧ i ≤ n ∧ Pv i H, ⟨n, rfl, Nat.zero_le _, h0⟩, ?_⟩
  rintro i m H ⟨rfl, hi, p⟩
  by_cases hlt : i < n
  · exact .inr ⟨w.goes i H hlt (hG i H hi p), Pv (i + 1), fun H' p' => ⟨n - (i + 1), by omega, rfl, hlt, p'⟩, fun x H' y => hs i x H H' hlt p (w.yields i H x H' hlt (hG i H hi p) y)⟩
  · have e : i = n := by omega
    subst e
    exact .inl ⟨w.stops H (hG _ H hi p), hd H p⟩
theorem en_dc {wi : TI} {g : TG} {vs : List Nat} {n : Nat} {item : Nat → D} {b : Nat → Bool} {k : Nat → Key} {f : Nat → D} (hi : EI K wi ρ n item) (hn : n ≤ 16000000)
    (hs : ∀ i, i < n → ∃ ρ2 ts, GT K g (wipeS ρ vs) (item i) ρ2 ts ∧ (∀ t ∈ ts, t ∈ vs) ∧ ET K tt ρ2 (b i) ∧ (b i = true → EV K tk ρ2 (kD (k i)) ∧ EV K tv ρ2 (f i))) :
    EVN K (tDc wi g tt tk tv vs) ρ (dkD (dcD n b k f)) := fun G0 H0 G H σ Q E q =>
  hi G0 H0 G H σ _ E fun J G1 H1 Gd Y x w hG hY Dl hD => by
    have E1 := E.go x
    have hH : H Dl = none := by
      exact x.gone hD
    have hG1 : G1 Dl = none := x.gh.none hD
    refine dc_it w (fun i H' => ∃ G' es, Ext G1 H1 G' H' ∧ G' Dl = none ∧ H' Dl = some (.dK es) ∧ DqV K G' es (dcD i b k f)) ⟨G1, [], .fresh x.gh hD, hG1, upd_same, .nil⟩ (fun i H' _ ⟨G', vl, e, _⟩ => hG G' H' e.gg e.gh) (fun i y H' H3 hlt ⟨G', es, e, n1, h1, r1⟩ hy => ?_)
      (fun H' ⟨G', es, e, n1, h1, r1⟩ => q Dl G' H' (x.trans e) hH n1 (.dK h1 r1.k))
    obtain ⟨G3, x3, hdq⟩ := hY i G' H' y H3 hlt e.gg e.gh hy
    obtain ⟨ρ2, ts, hg, hts, ht, he⟩ := hs i hlt
    have E3 : En K G0 H0 G3 H3 (L2.wipe σ vs) (wipeS ρ vs) := ((E1.go e).go x3).wipe vs
    have n3 : G3 Dl = none := x3.own _ _ h1 rfl n1
    refine hg G0 H0 G3 H3 _ y _ E3 hdq fun σ2 E2 hl hk => ⟨wipe_eq (by rw [hl, wipe_length]) hk hts, ?_⟩
    refine ht G0 H0 G3 H3 σ2 _ E2 fun G4 H4 x4 => ?_
    have h4 : H4 Dl = some (.dK es) := x4.at n3 (x3.at n1 h1)
    have n4 : G4 Dl = none := x4.own _ _ (x3.at n1 h1) rfl n3
    have r4 : DqV K G4 es (dcD i b k f) := (r1.mono x3.g).mono x4.g
    have e4 : Ext G1 H1 G4 H4 := (e.trans x3).trans x4
    cases hb : b i with
    | false =>
      rw [if_neg Bool.false_ne_true]
      refine ⟨G4, es, e4, n4, h4, ?_⟩
      unfold dcD
      rw [if_neg (by rw [hb]; exact Bool.false_ne_true)]
      exact r4
    | true =>
      rw [if_pos rfl]
      refine (he hb).1 G0 H0 G4 H4 σ2 _ (E2.go x4) fun u G5 H5 x5 hu => (he hb).2 G0 H0 G5 H5 σ2 _ ((E2.go x4).go x5) fun z G6 H6 x6 hz => ?_
      have x56 := x5.trans x6
      have h5 := x56.at n4 h4
      have n5 := x56.own _ _ h4 rfl n4
      have hlen := dcD_len b k f i
      have hl2 := r4.length
      refine ⟨es, k i, key_dq hu, h5, by rw [hl2, sizeLine_eq]; omega, G6, putK es (k i) z, ?_, n5, upd_same, ?_⟩
      · have e5 := e4.trans x56
        refine ⟨e5.gg, fun a o ha => ?_, fun a o ha => ?_, e5.own⟩
        · rw [upd_ne (ne_of_none ha hD)]; exact e5.hh a o ha
        · have ne : a ≠ Dl := ne_of_none ha n5
          exact (e5.gh a o ha).eq (upd_ne ne)
      · have hb' : dcD (i + 1) b k f = putG (dcD i b k f) (k i) (f i) := by
          show (if b i = true then putG (dcD i b k f) (k i) (f i) else dcD i b k f) = _
          rw [if_pos hb]
        rw [hb']
        exact (r4.mono x56.g).put hz
end
end DL

set_option maxHeartbeats 1000000
/-! DL14: x = {k: v for ..} of a local name. -/
namespace DL
open PySem PySem.Spec PyProof.Rows L2
section
variable {X : Cx}
theorem ps_setDc {i : Nat} {y : Str} {py : Pos} {kx vx tg iter : Expr} {ifs : List Expr} {scope : Scope} {own : List (Str × Nat)} {pos spos : Pos} {wi : TI} {g : TG} {tt : TT} {tk tv : TE} (hc : X.calm = true) (hN : X.N.Nodup) (hy : X.N[i]? = some y) (hyl : X.env.scope.names.lookup y = some .local)
    (hsw : swapsWith (.DictComp kx vx [⟨tg, iter, ifs, 0⟩] scope pos) (some (.Name y py)) spos.line X.env = pure true) (hi : PI X tg iter wi) (ok : BlkOk X.N X.env.scope scope own)
    (hg : ∀ (s : Shared) (H : Hp) (C : Addr) (cl : List (Str × Addr)) (fp : List Addr), PG (X.blk s H scope (compEnvC scope cl C X.env) fp) tg g) (ht : ∀ (s : Shared) (H : Hp) (C : Addr) (cl : List (Str × Addr)) (fp : List Addr), PTs (X.blk s H scope (compEnvC scope cl C X.env) fp) ifs tt) (hk : ∀ (s : Shared) (H : Hp) (C : Addr) (cl : List (Str × Addr)) (fp : List Addr), PE (X.blk s H scope (compEnvC scope cl C X.env) fp) kx tk)
    (he : ∀ (s : Shared) (H : Hp) (C : Addr) (cl : List (Str × Addr)) (fp : List Addr), PE (X.blk s H scope (compEnvC scope cl C X.env) fp) vx tv) (hs : ∀ x, foldedSetIterable iter X.env x = pure x := by intro _; rfl) :
    PS X (.Assign [.Name y py] (.DictComp kx vx [⟨tg, iter, ifs, 0⟩] scope pos) spos) (tAsg (tDc wi g tt tk tv (own.map (·.2))) (gName i)) := by
  refine ⟨fun pins s σ H D I h0 => ?_⟩
  rw [exec_Assign_Name_used _ _ _ _ hsw]
  refine wpAny_bind (wpAny_standAt (wpAny_bind ?_))
  show wpAny _ X.A (do let _ ← comprehension (.DictComp kx vx [⟨tg, iter, ifs, 0⟩] scope pos) scope X.env (firstIterPos [⟨tg, iter, ifs, 0⟩] pos) newDict false (eval iter X.env) (some (assign (.Name y py) X.env))) _ _ s
  have h1 : tDc wi g tt tk tv (own.map (·.2)) σ H (fun x H1 => gName i x σ H1 D.nx) := h0
  refine wpAny_bind (thn (dc_core (Qf := fun _ s' => SP X pins D .next s') hc hN I hi ok hg ht hk he hs h1 fun L C s' m H' I' q hn ff => ?_) fun _ s' hq => wpAny_pure (wpAny_pure hq))
  show wpAny _ _ (assign (.Name y py) X.env (.ref L)) _ _ _
  refine wpAny_assign_Name (store_ok2 (v := V.ref L) I' hN hy (.inl hyl) rfl (fun s2 I2 ⟨a, sb, ha⟩ => ?_) (.inr hyl))
  obtain ⟨g0, g1, g2, g3, g4, g5⟩ := ff
  have hCa : C ≠ a := by
    rcases ha with z | z
    · rw [z]
      exact g1
    · exact fun e => g4 y a z e.symm
  exact ⟨m, hn.sameBut sb hCa, fun h3 sb3 => ⟨_, H', I2.turned (t' := s2.toks) (fun b o hb e => (sb3.2 b hb).trans e) g0 g1 g3 g4 g5, q⟩⟩
theorem sw_trueD {kx vx : Expr} {gs : List Comprehension} {scope : Scope} {pos py : Pos} {y : Str} {l : Nat} {env : Env} (h1 : env.scope.kind = .function) (h2 : env.scope.names.lookup y = some .local) (h3 : (py.line == pos.line) = true)
    (h4 : (scope.names.any fun (n, k) => n == y && (k == .local || k == .cell)) = false) : swapsWith (.DictComp kx vx gs scope pos) (some (.Name y py)) l env = pure true := by
  have k1 : env.kindOf y = some .local := h2
  have k2 : env.blockKind = .function := by
    unfold Env.blockKind
    rw [h1]
    rfl
  unfold swapsWith
  simp only [k2, k1, h4, Expr.pos, h3]
  rfl
end
section
variable {K : PySem.W.Frag} {ρ : List Sl} {ta tb : TE}
theorem ev_inDS {kvs : List (Key × D)} {x : Str} (hk : EV K ta ρ (.str x)) (h : EV K tb ρ (dkD kvs)) : EV K (tDIn ta tb) ρ (.bool (hasG kvs (.inr x))) := ev_inD hk rfl h
theorem ev_ninDS {kvs : List (Key × D)} {x : Str} (hk : EV K ta ρ (.str x)) (h : EV K tb ρ (dkD kvs)) : EV K (tDNotIn ta tb) ρ (.bool (!hasG kvs (.inr x))) := ev_ninD hk rfl h
/-- the first place below n at which f tells a word -/
def firstO {α : Type} (f : Nat → Option α) : Nat → Option (Nat × α)
  | 0 => none
  | n + 1 => match firstO f n with
    | some r => some r
    | none => (f n).map fun w => (n, w)
theorem firstO_none {α : Type} {f : Nat → Option α} : ∀ {n : Nat}, (∀ j, j < n → f j = none) → firstO f n = none
  | 0, _ => rfl
  | n + 1, h => by
    unfold firstO
    rw [firstO_none fun j hj => h j (by omega), h n (by omega)]
    rfl
theorem firstO_some {α : Type} {f : Nat → Option α} {i : Nat} {w : α} : ∀ {n : Nat}, i < n → (∀ j, j < i → f j = none) → f i = some w → firstO f n = some (i, w)
  | 0, h, _, _ => by omega
  | n + 1, h, h0, h1 => by
    unfold firstO
    by_cases e : i = n
    · subst e
      rw [firstO_none h0, h1]
      rfl
    · rw [firstO_some (n := n) (by omega) h0 h1]
theorem firstO_at {α : Type} {f : Nat → Option α} {i : Nat} {w : α} : ∀ {n : Nat}, firstO f n = some (i, w) → i < n ∧ f i = some w ∧ ∀ j, j < i → f j = none
  | 0, h => by cases h
  | n + 1, h => by
    unfold firstO at h
    cases q : firstO f n with
    | some r =>
      rw [q] at h
      dsimp only at h
      subst_vars
      injection h with h
      subst h
      obtain ⟨a, b, c⟩ := firstO_at q
      exact ⟨by omega, b, c⟩
    | none =>
      rw [q] at h
      dsimp only at h
      have nn : ∀ {m : Nat}, firstO f m = none → ∀ j, j < m → f j = none := by
        intro m
        induction m with
        | zero => intro _ j hj; omega
        | succ m ih =>
          intro hm j hj
          unfold firstO at hm
          cases q2 : firstO f m with
          | some r => rw [q2] at hm; cases hm
          | none =>
            rw [q2] at hm
            dsimp only at hm
            by_cases e : j = m
            · subst e
              cases q3 : f j with
              | none => rfl
              | some w => rw [q3] at hm; cases hm
            · exact ih q2 j (by omega)
      cases q3 : f n with
      | none => rw [q3] at h; cases h
      | some w' =>
        rw [q3] at h
        injection h with h
        injection h with h1 h2
        subst h1 h2
        exact ⟨by omega, q3, nn q⟩
theorem firstO_nn {α : Type} {f : Nat → Option α} : ∀ {n : Nat}, firstO f n = none → ∀ j, j < n → f j = none
  | 0, _, j, hj => by omega
  | n + 1, h, j, hj => by
    cases q : f j with
    | none => rfl
    | some w =>
      exfalso
      cases q2 : firstO f n with
      | some r =>
        unfold firstO at h
        rw [q2] at h
        cases h
      | none =>
        unfold firstO at h
        rw [q2] at h
        dsimp only at h
        by_cases e : j = n
        · subst e
          rw [q] at h
          cases h
        · have := firstO_nn q2 j (by omega)
          rw [q] at this
          cases this
end
end DL

set_option maxHeartbeats 1000000
/-! DL15: a dict of owned lists. -/
namespace DL
open PySem PySem.Spec PyProof.Rows L2
def getL : List (Key × List D) → Key → Option (List D)
  | [], _ => none
  | (k', ds) :: r, k => if k' = k then some ds else getL r k
def appL : List (Key × List D) → Key → D → List (Key × List D)
  | [], _, _ => []
  | (k', ds) :: r, k, d => if k' = k then (k', ds ++ [d]) :: r else (k', ds) :: appL r k d
section
variable {K : PySem.W.Frag} {G H : Hp}
theorem NeL.get {k : Key} {ds : List D} : ∀ {es : List (Key × V)} {as : List Addr} {kls : List (Key × List D)}, NeL K G H es as kls → getL kls k = some ds → ∃ a vs, valV es k = some (.ref a) ∧ a ∈ as ∧ H a = some (.lst vs) ∧ DqA K G vs ds
  | _, _, _, .nil, e => by cases e
  | _, _, _, @NeL.cons _ _ _ k' a vs ds' es as kls h r t, e => by
    unfold getL at e
    by_cases q : k' = k
    · rw [if_pos q] at e
      cases e
      exact ⟨a, vs, valV_pos q, List.mem_cons_self .., h, r⟩
    · rw [if_neg q] at e
      obtain ⟨b, us, h1, h2, h3, h4⟩ := NeL.get t e
      exact ⟨b, us, by rw [valV_neg (p := (k', V.ref a)) q]; exact h1, List.mem_cons_of_mem _ h2, h3, h4⟩
theorem NeL.keep {a : Addr} {o : HO} : ∀ {es : List (Key × V)} {as : List Addr} {kls : List (Key × List D)}, NeL K G H es as kls → a ∉ as → NeL K G (upd H a o) es as kls
  | _, _, _, .nil, _ => .nil
  | _, _, _, .cons h r t, n => .cons (by rw [upd_ne fun z => n (by rw [z]; exact List.mem_cons_self ..)]; exact h) r (NeL.keep t fun z => n (List.mem_cons_of_mem _ z))
theorem NeL.upd {k : Key} {ds : List D} {v : V} {d : D} (hv : Dq K G v d) : ∀ {es : List (Key × V)} {as : List Addr} {kls : List (Key × List D)} {a : Addr} {vs : List V}, NeL K G H es as kls → as.Nodup → getL kls k = some ds → valV es k = some (.ref a) → H a = some (.lst vs) → NeL K G (upd H a (.lst (vs ++ [v]))) es as (appL kls k d)
  | _, _, _, _, _, .nil, _, e, _, _ => by cases e
  | _, _, _, a, vs, @NeL.cons _ _ _ k' b us ds' es as kls h r t, nd, e, ev, ha => by
    unfold getL at e
    unfold appL
    obtain ⟨n1, n2⟩ := List.nodup_cons.mp nd
    by_cases q : k' = k
    · rw [valV_pos (p := (k', V.ref b)) q] at ev
      injection ev with ev
      injection ev with ev
      have ev : b = a := ev
      subst ev
      rw [if_pos q]
      rw [h] at ha
      cases ha
      exact .cons upd_same (r.append (.one hv)) (t.keep n1)
    · rw [if_neg q] at e
      rw [valV_neg (p := (k', V.ref b)) q] at ev
      rw [if_neg q]
      have ne : b ≠ a := by
        rintro rfl
        obtain ⟨c, ws, h1, h2, _⟩ := NeL.get t e
        rw [ev] at h1
        cases h1
        exact n1 h2
      exact .cons (by rw [upd_ne ne]; exact h) r (NeL.upd hv t n2 e ev ha)
end
section
variable {K : PySem.W.Frag} {G0 H0 G H : Hp} {σ : L2.St} {ρ : List Sl} {Ex : XK} {ta tb te : TE} {d : D} {P : Oc → Prop}
theorem En.look (E : En K G0 H0 G H σ ρ) {n : Nat} {kls : List (Key × List D)} (hi : ρ[n]? = some (.ne kls)) : ∃ l as es, σ[n]? = some (some (.ref l)) ∧ H l = some (.dK es) ∧ NeL K G H es as kls ∧ (l :: as).Nodup ∧ ∀ a ∈ l :: as, H0 a = none ∧ G a = none ∧ ∀ (j : Nat) (e : D), ρ[j]? = some (Sl.ow e) → σ[j]? ≠ some (some (V.ref a)) := by
  obtain ⟨l, as, h1, ⟨⟨es, h2, h3⟩, h4⟩, h5⟩ := E.ne n kls hi
  exact ⟨l, as, es, h1, h2, h3, h4, h5⟩
/-- one list of it is changed -/
theorem En.writeN (E : En K G0 H0 G H σ ρ) {n : Nat} {kls lls : List (Key × List D)} {l a : Addr} {as : List Addr} {es : List (Key × V)} {o : HO} (hi : ρ[n]? = some (.ne kls)) (hl : σ[n]? = some (some (.ref l))) (hd : H l = some (.dK es)) (nd : (l :: as).Nodup) (ha : a ∈ as)
    (hf : ∀ a ∈ l :: as, H0 a = none ∧ G a = none ∧ ∀ (j : Nat) (e : D), ρ[j]? = some (Sl.ow e) → σ[j]? ≠ some (some (V.ref a))) (h : NeL K G (upd H a o) es as lls) : En K G0 H0 G (upd H a o) σ (ρ.set n (.ne lls)) := by
  obtain ⟨f1, f2, f3⟩ := hf a (List.mem_cons_of_mem _ ha)
  have hla : l ≠ a := fun z => (List.nodup_cons.mp nd).1 (by rw [z]; exact ha)
  have hil : n < ρ.length := (List.getElem?_eq_some_iff.mp hi).1
  have ghn : GH G (upd H a o) := fun b u r => by
    have ne : b ≠ a := by
      rintro rfl
      rw [f2] at r
      cases r
    exact (E.gh b u r).eq (upd_ne ne)
  have old : ∀ {j : Nat} {e : D}, (ρ.set n (.ne lls))[j]? = some (Sl.ow e) → ρ[j]? = some (Sl.ow e) := fun {j e} z => by
    rcases set_get? z with ⟨_, _, x⟩ | ⟨_, z⟩
    · cases x
    · exact z
  refine ⟨by rw [List.length_set, E.len], ⟨E.ext.gg, fun b u e => by rw [upd_ne (ne_of_none e f1)]; exact E.ext.hh b u e, ghn, E.ext.own⟩, fun j e q => ?_, fun j e q => ?_, fun j b dd fl q => ?_, fun j k e e' b q q' => E.dis j k e e' b (old q) (old q'), fun j ks q => ?_, fun j k x y q q' => ?_⟩
  · rcases set_get? q with ⟨_, _, x⟩ | ⟨_, q⟩
    · cases x
    · exact E.fr j e q
  · obtain ⟨b, a1, a2, a3, a4⟩ := E.ow j e (old q)
    have hb : b ≠ a := fun z => f3 j e (old q) (by rw [← z]; exact a1)
    exact ⟨b, a1, a2, a3, a4.ext (Sub.refl G) (upd_ne hb)⟩
  · rcases set_get? q with ⟨_, _, x⟩ | ⟨_, q⟩
    · cases x
    · exact E.ex j b dd fl q
  · rcases set_get? q with ⟨rfl, _, x⟩ | ⟨nj, q⟩
    · cases x
      exact ⟨l, as, hl, ⟨⟨es, by rw [upd_ne hla]; exact hd, h⟩, nd⟩, fun b hb => ⟨(hf b hb).1, (hf b hb).2.1, fun k e z => (hf b hb).2.2 k e (old z)⟩⟩
    · exact absurd (E.ned j n ks kls q hi) nj
  · have hx : ∀ {j : Nat} {x : List (Key × List D)}, (ρ.set n (.ne lls))[j]? = some (Sl.ne x) → j = n := fun {j x} z => by
      rcases set_get? z with ⟨e, _, _⟩ | ⟨_, z⟩
      · exact e
      · exact E.ned j n x kls z hi
    rw [hx q, hx q']
/-- d[k].append(e) -/
theorem st_nappend {n : Nat} {kls : List (Key × List D)} {k : Key} {dk : D} {ds : List D} (hi : ρ[n]? = some (.ne kls)) (hk : EV K tb ρ dk) (ek : dk = kD k) (hg : getL kls k = some ds) (h : EV K te ρ d) (hz : ds.length < 16000000) (q : P (.nx (ρ.set n (.ne (appL kls k d))))) :
    ST K Ex (tDrop (tBM K "list" rAppend (tDGet (tVar n) tb) (tCons te tNil))) ρ P := fun G0 H0 G H σ D E f => by
  obtain ⟨l, _, h1, _⟩ := E.ne n kls hi
  subst ek
  refine ⟨_, h1, hk G0 H0 G H σ _ E fun y G1 H1 e1 hy => ?_⟩
  obtain ⟨l', as, es, g1, g2, g3, g4, g5⟩ := (E.go e1).look hi
  rw [h1] at g1
  cases g1
  obtain ⟨a, vs, b1, b2, b3, b4⟩ := g3.get hg
  have ey := key_dq hy
  subst ey
  refine ⟨l, .ref a, rfl, .inl ⟨es, k, .inl g2, rfl, b1.symm⟩, .inl ⟨rfl, vs, SqL.of b3⟩, h G0 H0 G1 H1 σ _ (E.go e1) fun v G2 H2 e2 hv => ?_⟩
  have E2 := (E.go e1).go e2
  obtain ⟨l2, as2, es2, c1, c2, c3, c4, c5⟩ := E2.look hi
  rw [h1] at c1
  cases c1
  have d2 := e2.at (g5 _ (List.mem_cons_self ..)).2.1 g2
  rw [c2] at d2
  cases d2
  have d3 := g3.det c3
  subst d3
  have d4 := e2.at (g5 _ (List.mem_cons_of_mem _ b2)).2.1 b3
  exact ⟨a, vs, v, rfl, rfl, d4, by rw [b4.length, sizeLine_eq]; omega, f.nx _ _ _ _ q (E2.writeN hi h1 c2 c4 b2 c5 (NeL.upd hv c3 (List.nodup_cons.mp c4).2 hg b1 d4))⟩
/-- what it is when it is frozen -/
def neD (kls : List (Key × List D)) : D := dkD (kls.map fun p => (p.1, .list p.2))
theorem NeL.frz {G' : Hp} (g : Sub G G') : ∀ {es : List (Key × V)} {as : List Addr} {kls : List (Key × List D)}, NeL K G H es as kls → (∀ a ∈ as, G' a = H a) → DqV K G' es (kls.map fun p => (p.1, .list p.2))
  | _, _, _, .nil, _ => .nil
  | _, _, _, .cons h r t, e => .cons (.lst ((e _ (List.mem_cons_self ..)).trans h) (r.mono g)) (NeL.frz g t fun a ha => e a (List.mem_cons_of_mem _ ha))
theorem En.freezeN (E : En K G0 H0 G H σ ρ) {n : Nat} {kls : List (Key × List D)} (hi : ρ[n]? = some (.ne kls)) : ∃ G', En K G0 H0 G' H σ (ρ.set n (.fr (neD kls))) ∧ ∀ l, σ[n]? = some (some (.ref l)) → G' l = H l := by
  obtain ⟨l, as, es, h1, h2, h3, h4, h5⟩ := E.look hi
  let G' : Hp := fun a => if a ∈ l :: as then H a else G a
  have gin : ∀ a ∈ l :: as, G' a = H a := fun a ha => if_pos ha
  have gout : ∀ a, a ∉ l :: as → G' a = G a := fun a ha => if_neg ha
  have gg : ∀ a u, G a = some u → G' a = some u := fun a u e => by
    rw [gout a fun z => by rw [(h5 a z).2.1] at e; cases e]
    exact e
  have gh' : GH G' H := fun a u r => by
    by_cases ha : a ∈ l :: as
    · rw [gin a ha] at r
      exact .of r ((show NeC K G H l as kls from ⟨⟨es, h2, h3⟩, h4⟩).there2 ha r)
    · rw [gout a ha] at r
      exact E.gh a u r
  have hil : n < ρ.length := (List.getElem?_eq_some_iff.mp hi).1
  have old : ∀ {j : Nat} {e : D}, (ρ.set n (.fr (neD kls)))[j]? = some (Sl.ow e) → ρ[j]? = some (Sl.ow e) := fun {j e} z => by
    rcases set_get? z with ⟨_, _, x⟩ | ⟨_, z⟩
    · cases x
    · exact z
  have non : ∀ {j : Nat} {x : List (Key × List D)}, (ρ.set n (.fr (neD kls)))[j]? = some (Sl.ne x) → False := fun {j x} z => by
    rcases set_get? z with ⟨_, _, x⟩ | ⟨nj, z⟩
    · cases x
    · exact nj (E.ned j n x kls z hi)
  refine ⟨G', ⟨by rw [List.length_set, E.len], ⟨fun a u e => gg a u (E.ext.gg a u e), E.ext.hh, gh', fun a u e t z => ?_⟩, fun j e q => ?_, fun j e q => ?_, fun j b dd fl q => ?_, fun j k e e' b q q' => E.dis j k e e' b (old q) (old q'), fun j ks q => (non q).elim, fun j k x y q q' => (non q).elim⟩, fun m hm => gin m (by rw [h1] at hm; injection hm with hm; injection hm with hm; injection hm with hm; rw [← hm]; exact List.mem_cons_self ..)⟩
  · rw [gout a fun m => by rw [(h5 a m).1] at e; cases e]
    exact E.ext.own a u e t z
  · rcases set_get? q with ⟨rfl, _, x⟩ | ⟨_, q⟩
    · cases x
      exact ⟨_, h1, .dK (.inl ((gin l (List.mem_cons_self ..)).trans h2)) (DqV.k (h3.frz (Sub.of gg) fun a ha => gin a (List.mem_cons_of_mem _ ha)))⟩
    · obtain ⟨v, a1, a2⟩ := E.fr j e q
      exact ⟨v, a1, a2.mono (Sub.of gg)⟩
  · obtain ⟨b, a1, a2, a3, a4⟩ := E.ow j e (old q)
    have hb : b ∉ l :: as := fun m => (h5 b m).2.2 j e (old q) a1
    exact ⟨b, a1, a2, by rw [gout b hb]; exact a3, a4.ext (Sub.of gg) rfl⟩
  · rcases set_get? q with ⟨_, _, x⟩ | ⟨_, q⟩
    · cases x
    · obtain ⟨a1, fs, a2, a3⟩ := E.ex j b dd fl q
      exact ⟨a1, fs, gg _ _ a2, a3.mono (Sub.of gg)⟩
theorem q_frzN {t : TS} {n : Nat} {kls : List (Key × List D)} (hi : ρ[n]? = some (.ne kls)) (h : ST K Ex t (ρ.set n (.fr (neD kls))) P) : ST K Ex t ρ P := fun G0 H0 G H σ D E f => by
  obtain ⟨G', E', _⟩ := E.freezeN hi
  exact h G0 H0 G' H σ D E' f
/-! ### laying one -/
theorem NeL.ext {G' H' : Hp} (x : Ext G H G' H') {es : List (Key × V)} {as : List Addr} {kls : List (Key × List D)} (h : NeL K G H es as kls) (hG : ∀ a ∈ as, G a = none) : NeL K G' H' es as kls := h.go x.g fun a ha => by
  obtain ⟨vs, e⟩ := h.there a ha
  exact (x.at (hG a ha) e).trans e.symm
theorem NeL.none {k : Key} : ∀ {es : List (Key × V)} {as : List Addr} {kls : List (Key × List D)}, NeL K G H es as kls → getL kls k = none → valV es k = none
  | _, _, _, .nil, _ => rfl
  | _, _, _, @NeL.cons _ _ _ k' a vs ds es as kls h r t, e => by
    unfold getL at e
    by_cases q : k' = k
    · rw [if_pos q] at e
      cases e
    · rw [if_neg q] at e
      rw [valV_neg (p := (k', V.ref a)) q]
      exact NeL.none t e
theorem NeL.snoc {k : Key} {a : Addr} {vs : List V} {ds : List D} (h : H a = some (.lst vs)) (r : DqA K G vs ds) : ∀ {es : List (Key × V)} {as : List Addr} {kls : List (Key × List D)}, NeL K G H es as kls → NeL K G H (es ++ [(k, .ref a)]) (as ++ [a]) (kls ++ [(k, ds)])
  | _, _, _, .nil => .cons h r .nil
  | _, _, _, .cons h' r' t => .cons h' r' (NeL.snoc h r t)
/-- a new dict of owned lists -/
def EVL (K : PySem.W.Frag) (te : TE) (ρ : List Sl) (kls : List (Key × List D)) : Prop := ∀ (G0 H0 G H : Hp) (σ : L2.St) (Q : VK), En K G0 H0 G H σ ρ → (∀ l as G' H', Ext G H G' H' → (∀ a ∈ l :: as, H a = none ∧ G' a = none) → NeC K G' H' l as kls → Q (.ref l) H') → te σ H Q
def klD (k : Nat → Key) (f : Nat → List D) (n : Nat) : List (Key × List D) := (List.range n).map fun i => (k i, f i)
/-- EI at one state -/
def EIp (K : PySem.W.Frag) (wi : TI) (σ : L2.St) (G H : Hp) (n : Nat) (item : Nat → D) : Prop := ∀ (R : It → Hp → Prop),
  (∀ J G' H' Gd Y, Ext G H G' H' → Walk J n Gd Y → (∀ G2 H2, Ext G' H' G2 H2 → Gd H2) →
    (∀ i G2 H2 x H3, i < n → Ext G' H' G2 H2 → Y i H2 x H3 → ∃ G3, Ext G2 H2 G3 H3 ∧ Dq K G3 x (item i)) → R J H') → wi σ H R
theorem el_dc0 {wi : TI} {g : TG} {tt : TT} {tk tv : TE} {vs : List Nat} {n : Nat} {item : Nat → D} {k : Nat → Key} {f : Nat → List D} (E : En K G0 H0 G H σ ρ) (hi : EIp K wi σ G H n item) (hn : n ≤ 16000000) (hd : ∀ i, i < n → getL (klD k f i) (k i) = none)
    (hs : ∀ i, i < n → ∃ ρ2 ts, GT K g (wipeS ρ vs) (item i) ρ2 ts ∧ (∀ t ∈ ts, t ∈ vs) ∧ ET K tt ρ2 true ∧ EV K tk ρ2 (kD (k i)) ∧ EVN K tv ρ2 (.list (f i)))
    {Q : VK} (q : ∀ l as G' H', Ext G H G' H' → (∀ a ∈ l :: as, H a = none ∧ G' a = none) → NeC K G' H' l as (klD k f n) → Q (.ref l) H') : tDc wi g tt tk tv vs σ H Q :=
  hi _ fun J G1 H1 Gd Y x w hG hY Dl hD => by
    have E1 := E.go x
    refine dc_it w (fun i H' => ∃ G' es as, Ext G1 H1 G' H' ∧ G' Dl = none ∧ H' Dl = some (.dK es) ∧ NeL K G' H' es as (klD k f i) ∧ (Dl :: as).Nodup ∧ ∀ a ∈ as, H a = none ∧ G' a = none) ⟨G1, [], [], .fresh x.gh hD, x.gh.none hD, upd_same, .nil, List.nodup_cons.mpr ⟨fun h => (by cases h), List.nodup_nil⟩, fun a ha => (by cases ha)⟩ (fun i H' _ ⟨G', es, as, e, _⟩ => hG G' H' e) (fun i y H' H3 hlt ⟨G', es, as, e, n1, h1, r1, d1, f1⟩ hy => ?_)
      (fun H' ⟨G', es, as, e, n1, h1, r1, d1, f1⟩ => q Dl as G' H' (x.trans e) (fun a ha => (List.mem_cons.mp ha).elim (fun z => by rw [z]; exact ⟨x.gone hD, n1⟩) fun m => f1 a m) ⟨⟨es, h1, r1⟩, d1⟩)
    obtain ⟨G3, x3, hdq⟩ := hY i G' H' y H3 hlt e hy
    obtain ⟨ρ2, ts, hg, hts, ht, hk, hv⟩ := hs i hlt
    have E3 : En K G0 H0 G3 H3 (L2.wipe σ vs) (wipeS ρ vs) := ((E1.go e).go x3).wipe vs
    refine hg G0 H0 G3 H3 _ y _ E3 hdq fun σ2 E2 hl2 hk2 => ⟨wipe_eq (by rw [hl2, wipe_length]) hk2 hts, ?_⟩
    refine ht G0 H0 G3 H3 σ2 _ E2 fun G4 H4 x4 => ?_
    rw [if_pos rfl]
    refine hk G0 H0 G4 H4 σ2 _ (E2.go x4) fun u G5 H5 x5 hu => hv G0 H0 G5 H5 σ2 _ ((E2.go x4).go x5) fun p G6 H6 x6 hp5 hp6 ho => ?_
    have xx := ((x3.trans x4).trans x5).trans x6
    have eD := xx.at n1 h1
    have nD := xx.own _ _ h1 rfl n1
    have r6 := r1.ext xx fun a ha => (f1 a ha).2
    have e6 := e.trans xx
    cases ho with
    | @lst us _ hq hr =>
      have hpD : p ≠ Dl := fun z => by
        have := ((x3.trans x4).trans x5).at n1 h1
        rw [← z, hp5] at this
        cases this
      have hpa : p ∉ as := fun m => by
        obtain ⟨ws, hw⟩ := r1.there p m
        have := ((x3.trans x4).trans x5).at (f1 p m).2 hw
        rw [hp5] at this
        cases this
      have hpH : H p = none := x.gone (e.gone (((x3.trans x4).trans x5).gone hp5))
      have hput : putK es (k i) (.ref p) = es ++ [(k i, .ref p)] := putK_new _ (r1.none (hd i hlt))
      have hlen : es.length = i := by
        have : ∀ {es : List (Key × V)} {as : List Addr} {kls : List (Key × List D)}, NeL K G' H' es as kls → es.length = kls.length := by
          intro es as kls z
          induction z with
          | nil => rfl
          | cons _ _ _ ih => exact congrArg Nat.succ ih
        rw [this r1]
        unfold klD
        rw [List.length_map, List.length_range]
      obtain ⟨d2, d3⟩ := List.nodup_cons.mp d1
      have dup : Dl ∉ as ++ [p] := fun m => (List.mem_append.mp m).elim d2 fun z => hpD (List.mem_singleton.mp z).symm
      refine ⟨es, k i, key_dq hu, eD, by rw [hlen, sizeLine_eq]; omega, G6, es ++ [(k i, .ref p)], as ++ [p], ?_, nD, by rw [hput]; exact upd_same, ?_, ?_, fun a ha => ?_⟩
      · refine ⟨e6.gg, fun a o z => ?_, fun a o z => ?_, e6.own⟩
        · rw [upd_ne (ne_of_none z hD)]
          exact e6.hh a o z
        · exact (e6.gh a o z).eq (upd_ne (ne_of_none z nD))
      · have hkl : klD k f (i + 1) = klD k f i ++ [(k i, f i)] := by
          unfold klD
          rw [List.range_succ, List.map_append]
          rfl
        rw [hkl]
        exact (r6.snoc hq hr).keep dup
      · refine List.nodup_cons.mpr ⟨dup, List.nodup_append.mpr ⟨d3, List.nodup_cons.mpr ⟨fun h => (by cases h), List.nodup_nil⟩, fun a ha c hc z => ?_⟩⟩
        rw [List.mem_singleton.mp hc] at z
        subst z
        exact hpa ha
      · rcases List.mem_append.mp ha with ha | ha
        · obtain ⟨ws, hw⟩ := r1.there a ha
          exact ⟨(f1 a ha).1, xx.own _ _ hw rfl (f1 a ha).2⟩
        · rw [List.mem_singleton.mp ha]
          exact ⟨hpH, hp6⟩
theorem el_dc {wi : TI} {g : TG} {tt : TT} {tk tv : TE} {vs : List Nat} {n : Nat} {item : Nat → D} {k : Nat → Key} {f : Nat → List D} (hi : EI K wi ρ n item) (hn : n ≤ 16000000) (hd : ∀ i, i < n → getL (klD k f i) (k i) = none)
    (hs : ∀ i, i < n → ∃ ρ2 ts, GT K g (wipeS ρ vs) (item i) ρ2 ts ∧ (∀ t ∈ ts, t ∈ vs) ∧ ET K tt ρ2 true ∧ EV K tk ρ2 (kD (k i)) ∧ EVN K tv ρ2 (.list (f i))) :
    EVL K (tDc wi g tt tk tv vs) ρ (klD k f n) := fun G0 H0 G H σ Q E q => el_dc0 E (fun R z => hi G0 H0 G H σ R E fun J G' H' Gd Y x w hG hY => z J G' H' Gd Y x w (fun G2 H2 e => hG G2 H2 e.gg e.gh) fun i G2 H2 x' H3 l e y => hY i G2 H2 x' H3 l e.gg e.gh y) hn hd hs q
theorem En.setL {G' H' : Hp} (E : En K G0 H0 G H σ ρ) {n : Nat} {l : Addr} {as : List Addr} {kls : List (Key × List D)} (hno : ∀ (j : Nat) (x : List (Key × List D)), j ≠ n → ρ[j]? ≠ some (.ne x)) (x : Ext G H G' H') (hf : ∀ a ∈ l :: as, H a = none ∧ G' a = none) (h : NeC K G' H' l as kls) :
    En K G0 H0 G' H' (σ.set n (some (.ref l))) (ρ.set n (.ne kls)) := by
  have E1 := E.go x
  refine ⟨by rw [List.length_set, List.length_set, E.len], E1.ext, fun j e q => ?_, fun j e q => ?_, fun j b dd fl q => ?_, fun j k e e' b q q' r r' => ?_, fun j ks q => ?_, fun j k y z q q' => ?_⟩
  · rcases set_get? q with ⟨_, _, z⟩ | ⟨nj, q⟩
    · cases z
    · rw [List.getElem?_set_ne (Ne.symm nj)]
      exact E1.fr j e q
  · rcases set_get? q with ⟨_, _, z⟩ | ⟨nj, q⟩
    · cases z
    · rw [List.getElem?_set_ne (Ne.symm nj)]
      exact E1.ow j e q
  · rcases set_get? q with ⟨_, _, z⟩ | ⟨nj, q⟩
    · cases z
    · rw [List.getElem?_set_ne (Ne.symm nj)]
      exact E1.ex j b dd fl q
  · rcases set_get? q with ⟨_, _, z⟩ | ⟨nj, q⟩
    · cases z
    · rcases set_get? q' with ⟨_, _, z⟩ | ⟨nk, q'⟩
      · cases z
      · rw [List.getElem?_set_ne (Ne.symm nj)] at r
        rw [List.getElem?_set_ne (Ne.symm nk)] at r'
        exact E1.dis j k e e' b q q' r r'
  · rcases set_get? q with ⟨rfl, hi, z⟩ | ⟨nj, q⟩
    · cases z
      refine ⟨l, as, by rw [List.getElem?_set_self (by rw [E.len]; exact hi)], h, fun a ha => ⟨?_, (hf a ha).2, fun k e z => ?_⟩⟩
      · exact E.ext.gone (hf a ha).1
      · rcases set_get? z with ⟨_, _, y⟩ | ⟨nk, z⟩
        · cases y
        · rw [List.getElem?_set_ne (Ne.symm nk)]
          intro y
          obtain ⟨b, b1, _, _, b4⟩ := E.ow k e z
          rw [b1] at y
          injection y with y
          injection y with y
          injection y with y
          obtain ⟨o, ho, _⟩ := b4.there
          rw [y, (hf a ha).1] at ho
          cases ho
    · exact absurd q (hno j ks nj)
  · have only : ∀ {j : Nat} {y : List (Key × List D)}, (ρ.set n (Sl.ne kls))[j]? = some (Sl.ne y) → j = n := fun {j y} q => by
      rcases set_get? q with ⟨e, _, _⟩ | ⟨nj, q⟩
      · exact e
      · exact absurd q (hno j y nj)
    rw [only q, only q']
theorem st_asgL {n : Nat} {kls : List (Key × List D)} (h : EVL K te ρ kls) (hno : ∀ (j : Nat) (x : List (Key × List D)), j ≠ n → ρ[j]? ≠ some (.ne x)) (q : P (.nx (ρ.set n (.ne kls)))) : ST K Ex (tAsg te (gName n)) ρ P := fun G0 H0 G H σ D E f =>
  h G0 H0 G H σ _ E fun l as G' H' x hf c => f.nx _ _ G' H' q (E.setL hno x hf c)
theorem el_new : EVL K tDNewK ρ [] := fun G0 H0 G H σ Q E q p hp => q p [] G _ (.fresh E.gh hp) (fun a ha => by
  rw [List.mem_singleton.mp ha]
  exact ⟨hp, E.gh.none hp⟩) ⟨⟨[], upd_same, .nil⟩, List.nodup_cons.mpr ⟨fun h => (by cases h), List.nodup_nil⟩⟩
/-- a list more -/
theorem En.writeD (E : En K G0 H0 G H σ ρ) {n : Nat} {kls lls : List (Key × List D)} {l p : Addr} {as : List Addr} {es es' : List (Key × V)} (hi : ρ[n]? = some (.ne kls)) (hl : σ[n]? = some (some (.ref l))) (nd : (l :: as).Nodup)
    (hf : ∀ a ∈ l :: as, H0 a = none ∧ G a = none ∧ ∀ (j : Nat) (e : D), ρ[j]? = some (Sl.ow e) → σ[j]? ≠ some (some (V.ref a))) (hp : p ∉ l :: as) (fp : H0 p = none ∧ G p = none ∧ ∀ (j : Nat) (e : D), ρ[j]? = some (Sl.ow e) → σ[j]? ≠ some (some (V.ref p)))
    (h : NeL K G (upd H l (.dK es')) es' (as ++ [p]) lls) : En K G0 H0 G (upd H l (.dK es')) σ (ρ.set n (.ne lls)) := by
  obtain ⟨f1, f2, f3⟩ := hf l (List.mem_cons_self ..)
  have ghn : GH G (upd H l (.dK es')) := fun b u r => by
    have ne : b ≠ l := by
      rintro rfl
      rw [f2] at r
      cases r
    exact (E.gh b u r).eq (upd_ne ne)
  have old : ∀ {j : Nat} {e : D}, (ρ.set n (.ne lls))[j]? = some (Sl.ow e) → ρ[j]? = some (Sl.ow e) := fun {j e} z => by
    rcases set_get? z with ⟨_, _, x⟩ | ⟨_, z⟩
    · cases x
    · exact z
  refine ⟨by rw [List.length_set, E.len], ⟨E.ext.gg, fun b u e => by rw [upd_ne (ne_of_none e f1)]; exact E.ext.hh b u e, ghn, E.ext.own⟩, fun j e q => ?_, fun j e q => ?_, fun j b dd fl q => ?_, fun j k e e' b q q' => E.dis j k e e' b (old q) (old q'), fun j ks q => ?_, fun j k x y q q' => ?_⟩
  · rcases set_get? q with ⟨_, _, x⟩ | ⟨_, q⟩
    · cases x
    · exact E.fr j e q
  · obtain ⟨b, a1, a2, a3, a4⟩ := E.ow j e (old q)
    have hb : b ≠ l := fun z => f3 j e (old q) (by rw [← z]; exact a1)
    exact ⟨b, a1, a2, a3, a4.ext (Sub.refl G) (upd_ne hb)⟩
  · rcases set_get? q with ⟨_, _, x⟩ | ⟨_, q⟩
    · cases x
    · exact E.ex j b dd fl q
  · rcases set_get? q with ⟨rfl, _, x⟩ | ⟨nj, q⟩
    · cases x
      obtain ⟨d1, d2⟩ := List.nodup_cons.mp nd
      have hpl : p ≠ l := fun z => hp (by rw [z]; exact List.mem_cons_self ..)
      refine ⟨l, as ++ [p], hl, ⟨⟨es', upd_same, h⟩, List.nodup_cons.mpr ⟨fun m => (List.mem_append.mp m).elim d1 fun z => hpl (List.mem_singleton.mp z).symm, List.nodup_append.mpr ⟨d2, List.nodup_cons.mpr ⟨fun h => (by cases h), List.nodup_nil⟩, fun a ha c hc z => ?_⟩⟩⟩, fun b hb => ?_⟩
      · rw [List.mem_singleton.mp hc] at z
        subst z
        exact hp (List.mem_cons_of_mem _ ha)
      · have hb2 : b ∈ l :: as ∨ b = p := by
          rcases List.mem_cons.mp hb with e | m
          · exact .inl (by rw [e]; exact List.mem_cons_self ..)
          · rcases List.mem_append.mp m with m | m
            · exact .inl (List.mem_cons_of_mem _ m)
            · exact .inr (List.mem_singleton.mp m)
        rcases hb2 with m | rfl
        · exact ⟨(hf b m).1, (hf b m).2.1, fun k e z => (hf b m).2.2 k e (old z)⟩
        · exact ⟨fp.1, fp.2.1, fun k e z => fp.2.2 k e (old z)⟩
    · exact absurd (E.ned j n ks kls q hi) nj
  · have hx : ∀ {j : Nat} {x : List (Key × List D)}, (ρ.set n (.ne lls))[j]? = some (Sl.ne x) → j = n := fun {j x} z => by
      rcases set_get? z with ⟨e, _, _⟩ | ⟨_, z⟩
      · exact e
      · exact E.ned j n x kls z hi
    rw [hx q, hx q']
theorem NeL.len : ∀ {es : List (Key × V)} {as : List Addr} {kls : List (Key × List D)}, NeL K G H es as kls → es.length = kls.length
  | _, _, _, .nil => rfl
  | _, _, _, .cons _ _ t => congrArg Nat.succ (NeL.len t)
/-- d[k] = a fresh list, k new -/
theorem st_nput {n : Nat} {kls : List (Key × List D)} {k : Key} {dk : D} {ds : List D} (hi : ρ[n]? = some (.ne kls)) (hk : EV K tb ρ dk) (ek : dk = kD k) (hg : getL kls k = none) (h : EVN K te ρ (.list ds)) (hz : kls.length < 16000000) (q : P (.nx (ρ.set n (.ne (kls ++ [(k, ds)]))))) :
    ST K Ex (sDPut (tVar n) tb te) ρ P := fun G0 H0 G H σ D E f =>
  h G0 H0 G H σ _ E fun p G1 H1 e1 hpH hpG ho => by
    cases ho with
    | @lst us _ hp hr =>
      obtain ⟨l, as, es, a1, a2, a3, a4, a5⟩ := E.look hi
      refine ⟨_, a1, hk G0 H0 G1 H1 σ _ (E.go e1) fun y G2 H2 e2 hy => ?_⟩
      subst ek
      have ey := key_dq hy
      subst ey
      have E2 := (E.go e1).go e2
      have xx := e1.trans e2
      have d2 := xx.at (a5 _ (List.mem_cons_self ..)).2.1 a2
      have d3 := a3.ext xx fun a ha => (a5 a (List.mem_cons_of_mem _ ha)).2.1
      have np : p ∉ l :: as := fun m => by
        obtain ⟨o, ho, _⟩ := (show NeC K G H l as kls from ⟨⟨es, a2, a3⟩, a4⟩).there p m
        rw [hpH] at ho
        cases ho
      have hput : putK es k (.ref p) = es ++ [(k, .ref p)] := putK_new _ (a3.none hg)
      have hH0 : H0 p = none := by
        exact E.ext.gone hpH
      have f5 : ∀ a ∈ l :: as, H0 a = none ∧ G2 a = none ∧ ∀ (j : Nat) (e : DL.D), ρ[j]? = some (Sl.ow e) → σ[j]? ≠ some (some (V.ref a)) := fun a ha => by
        obtain ⟨o, ho, ht⟩ := (show NeC K G H l as kls from ⟨⟨es, a2, a3⟩, a4⟩).there a ha
        exact ⟨(a5 a ha).1, xx.own _ _ ho ht (a5 a ha).2.1, (a5 a ha).2.2⟩
      have lp : l ∉ as ++ [p] := fun m => (List.mem_append.mp m).elim (List.nodup_cons.mp a4).1 fun z => np (by rw [← List.mem_singleton.mp z]; exact List.mem_cons_self ..)
      refine ⟨l, _, rfl, DPut.k d2 (by rw [a3.len, sizeLine_eq]; omega), f.nx _ _ G2 _ q ?_⟩
      rw [hput]
      refine E2.writeD (es := es) hi a1 a4 f5 np ⟨hH0, e2.own _ _ hp rfl hpG, fun j e z y => ?_⟩ ((d3.snoc (e2.at hpG hp) (hr.mono e2.g)).keep lp)
      obtain ⟨b, b1, _, _, b4⟩ := E.ow j e z
      rw [b1] at y
      injection y with y
      injection y with y
      injection y with y
      obtain ⟨o, ho, _⟩ := b4.there
      rw [y, hpH] at ho
      cases ho
end
end DL

set_option maxHeartbeats 1000000
/-! DL16: d.items() of a local dict of lists, locked; list.pop(); such a dict returned. -/
namespace DL
open PySem PySem.Spec PyProof.Rows L2
section
variable {K : PySem.W.Frag} {G0 H0 G H : Hp} {σ : L2.St} {ρ : List Sl} {Ex : XK} {ta tb te : TE} {tt : TT} {tu : TS} {d : D} {P : Oc → Prop}
theorem dq_kV {G : Hp} : ∀ k : Key, Dq K G (kV k) (kD k)
  | .inl i => .int i
  | .inr z => .str z
theorem En.lock (E : En K G0 H0 G H σ ρ) {l : Addr} {u : HO} {od : Obj} (h0 : H0 l = none) (hG : G l = some u) (hu : isDic u = true) (hno : ∀ (j : Nat) (x : List (Key × List D)), ρ[j]? ≠ some (.ne x)) : En K G0 H0 G (upd H l (.frz od u)) σ ρ := by
  refine ⟨E.len, ⟨E.ext.gg, fun a o e => by rw [upd_ne (ne_of_none e h0)]; exact E.ext.hh a o e, fun a o e => ?_, E.ext.own⟩, E.fr, fun j e q => ?_, E.ex, E.dis, fun j x q => absurd q (hno j x), fun i j x y q => absurd q (hno i x)⟩
  · by_cases ha : a = l
    · subst ha
      rw [hG] at e
      cases e
      exact .inr (.inl ⟨hu, od, upd_same⟩)
    · exact (E.gh a o e).eq (upd_ne ha)
  · obtain ⟨b, a1, a2, a3, a4⟩ := E.ow j e q
    have hb : b ≠ l := fun z => by
      rw [z, hG] at a3
      cases a3
    exact ⟨b, a1, a2, a3, a4.ext (Sub.refl G) (upd_ne hb)⟩
/-- a new dict of lists is frozen -/
theorem nec_frz {G' H' : Hp} {l : Addr} {as : List Addr} {kls : List (Key × List D)} (x : Ext G H G' H') (hf : ∀ a ∈ l :: as, H a = none ∧ G' a = none) (c : NeC K G' H' l as kls) : ∃ G'', Ext G H G'' H' ∧ Dq K G'' (.ref l) (neD kls) := by
  obtain ⟨⟨es, h2, h3⟩, h4⟩ := c
  let G2 : Hp := fun a => if a ∈ l :: as then H' a else G' a
  have gin : ∀ a ∈ l :: as, G2 a = H' a := fun a ha => if_pos ha
  have gout : ∀ a, a ∉ l :: as → G2 a = G' a := fun a ha => if_neg ha
  have gg : ∀ a u, G' a = some u → G2 a = some u := fun a u e => by
    rw [gout a fun z => by rw [(hf a z).2] at e; cases e]
    exact e
  refine ⟨G2, ⟨fun a u e => gg a u (x.gg a u e), x.hh, fun a u r => ?_, fun a u e t n => ?_⟩, .dK (.inl ((gin l (List.mem_cons_self ..)).trans h2)) (DqV.k (h3.frz (Sub.of gg) fun a ha => gin a (List.mem_cons_of_mem _ ha)))⟩
  · by_cases ha : a ∈ l :: as
    · rw [gin a ha] at r
      exact .of r ((show NeC K G' H' l as kls from ⟨⟨es, h2, h3⟩, h4⟩).there2 ha r)
    · rw [gout a ha] at r
      exact x.gh a u r
  · rw [gout a fun m => by rw [(hf a m).1] at e; cases e]
    exact x.own a u e t n
theorem ev_L {kls : List (Key × List D)} (h : EVL K te ρ kls) : EV K te ρ (neD kls) := fun G0 H0 G H σ Q E q => h G0 H0 G H σ Q E fun l as G' H' x hf c => by
  obtain ⟨G'', x', hd⟩ := nec_frz x hf c
  exact q _ _ _ x' hd
theorem DqV.at {κ : Type} {z : κ × D} : ∀ {es : List (κ × V)} {kvs : List (κ × D)} {i : Nat}, DqV K G es kvs → i < kvs.length → ∃ k v, es[i]? = some (k, v) ∧ k = (kvs.getD i z).1 ∧ Dq K G v (kvs.getD i z).2
  | _, _, _, .nil, h => absurd h (Nat.not_lt_zero _)
  | _, _, 0, .cons a b, h => ⟨_, _, rfl, rfl, a⟩
  | _, _, i + 1, .cons a b, h => by
    obtain ⟨k, v, h1, h2, h3⟩ := DqV.at (z := z) (i := i) b (by simpa using h)
    exact ⟨k, v, by rw [List.getElem?_cons_succ]; exact h1, by rw [List.getD_cons_succ]; exact h2, by rw [List.getD_cons_succ]; exact h3⟩
theorem DqA.snoc_inv : ∀ {ds : List D} {us : List V} {d : D}, DqA K G us (ds ++ [d]) → ∃ vs v, us = vs ++ [v] ∧ DqA K G vs ds ∧ Dq K G v d
  | [], _, _, h => by
    cases h with
    | cons a b =>
      cases b
      exact ⟨[], _, rfl, .nil, a⟩
  | _ :: ds, _, d, h => by
    cases h with
    | cons a b =>
      obtain ⟨vs, v, rfl, r1, r2⟩ := DqA.snoc_inv (ds := ds) b
      exact ⟨_ :: vs, v, rfl, .cons a r1, r2⟩
def itemK (kls : List (Key × List D)) (i : Nat) : D := .tuple [kD (kls.getD i (.inl 0, [])).1, .list (kls.getD i (.inl 0, [])).2]
/-- return {k: <fresh list> for a, b in t.items()}, t a dict of lists of one's own -/
theorem st_retI {n : Nat} {kls : List (Key × List D)} {g : TG} {tk tv : TE} {vs : List Nat} {k : Nat → Key} {f : Nat → List D} (hi : ρ[n]? = some (.ne kls)) (hn : kls.length ≤ 16000000) (hd : ∀ i, i < kls.length → getL (klD k f i) (k i) = none)
    (hs : ∀ i, i < kls.length → ∃ ρ2 ts, GT K g (wipeS (ρ.set n (.fr (neD kls))) vs) (itemK kls i) ρ2 ts ∧ (∀ t ∈ ts, t ∈ vs) ∧ ET K tt ρ2 true ∧ EV K tk ρ2 (kD (k i)) ∧ EVN K tv ρ2 (.list (f i)))
    (q : P (.rt (neD (klD k f kls.length)))) : ST K Ex (tRet (tLockE (tDc (iItems (tVar n)) g tt tk tv vs))) ρ P := fun G0 H0 G H σ D E fin => by
  obtain ⟨l, as, es, h1, h2, h3, h4, h5⟩ := E.look hi
  obtain ⟨G', E', hGH⟩ := E.freezeN hi
  have hG : G' l = some (.dK es) := (hGH l h1).trans h2
  have h0 : H0 l = none := (h5 l (List.mem_cons_self ..)).1
  have hno : ∀ (j : Nat) (x : List (Key × List DL.D)), (ρ.set n (.fr (neD kls)))[j]? ≠ some (.ne x) := fun j x z => by
    rcases set_get? z with ⟨_, _, y⟩ | ⟨nj, z⟩
    · cases y
    · exact nj (E.ned j n x kls z hi)
  have hil : n < ρ.length := (List.getElem?_eq_some_iff.mp hi).1
  have hv : DqV K G' es (kls.map fun p => (p.1, PyData.list p.2)) := by
    obtain ⟨v, a1, a2⟩ := E'.fr n (neD kls) (by rw [List.getElem?_set_self hil])
    rw [h1] at a1
    injection a1 with a1
    injection a1 with a1
    obtain ⟨a, es', b1, b2, b3⟩ := dq_dk a2
    rw [← a1] at b1
    injection b1 with b1
    subst b1
    rcases b2 with b2 | ⟨o, b2⟩
    · rw [hG] at b2
      cases b2
      exact b3
    · rw [hG] at b2
      cases b2
  have hle : es.length = kls.length := by rw [hv.length, List.length_map]
  refine ⟨l, .dK es, h2, trivial, fun od => ?_⟩
  have EL := E'.lock (od := od) h0 hG rfl hno
  refine el_dc0 (item := itemK kls) (n := kls.length) EL (fun R z => ?_) hn hd hs fun l2 as2 G2 H2 x hf c => ?_
  · refine ⟨_, h1, l, od, es, rfl, upd_same, z (Iti l od es) G' _ _ _ (.refl EL.gh) (hle ▸ walk_items) (fun G2 H2 e => e.atF hG rfl upd_same) fun i G2 H2 y H3 hlt e hy => ?_⟩
    obtain ⟨T, x, w, rfl, hT, rfl, y1, y2⟩ := hy
    obtain ⟨k', v', b1, b2, b3⟩ := hv.at (z := (Sum.inl 0, PyData.list [])) (i := i) (by rw [List.length_map]; exact hlt)
    dsimp only at y1 y2
    rw [b1] at y1 y2
    cases y1
    cases y2
    have xx := Ext.new (o := .tup [kV k', v']) e.gh hT
    have hget : (kls.map fun p => (p.1, PyData.list p.2)).getD i (Sum.inl 0, PyData.list []) = ((kls.getD i (.inl 0, [])).1, PyData.list (kls.getD i (.inl 0, [])).2) := by
      rw [List.getD_eq_getElem?_getD, List.getD_eq_getElem?_getD, List.getElem?_map, List.getElem?_eq_getElem hlt]
      rfl
    rw [hget] at b2 b3
    refine ⟨_, xx, .tup (SqT.of upd_same) (.cons ?_ (.cons ((b3.mono (Sub.of e.gg)).mono xx.g) .nil))⟩
    rw [b2]
    exact dq_kV _
  · have hfl : H2 l = some (.frz od (.dK es)) := x.atF hG rfl upd_same
    obtain ⟨G3, x3, hd3⟩ := nec_frz x hf c
    refine ⟨hfl, fin.rt _ _ G3 _ q ⟨fun a o e => x3.gg a o (E'.ext.gg a o e), fun a o e => ?_, fun a o e => ?_, fun a o e t nn => ?_⟩ hd3⟩
    · have ne : a ≠ l := ne_of_none e h0
      rw [upd_ne ne]
      rcases E'.ext.hh a o e with q | q
      · exact (x3.hh a o (by rw [upd_ne ne]; exact q)).imp id (E'.ext.mark e)
      · exact .inr q
    · by_cases ha : a = l
      · subst ha
        rw [x3.gg _ _ hG] at e
        cases e
        exact .of upd_same
      · exact (x3.gh a o e).eq (upd_ne ha)
    · have ne : a ≠ l := ne_of_none e h0
      exact x3.own a o (by rw [upd_ne ne]; exact E'.ext.at nn e) t (E'.ext.own a o e t nn)
/-- x = xs.pop() -/
theorem st_pop {n i : Nat} {ds : List D} (hi : ρ[n]? = some (.ow (.list (ds ++ [d])))) (hni : n ≠ i) (q : P (.nx ((ρ.set n (.ow (.list ds))).set i (.fr d)))) : ST K Ex (tAsg (tBM0 K "list" rPop (tVar n)) (gName i)) ρ P := fun G0 H0 G H σ D E f => by
  obtain ⟨l, h1, h2, h3, h4⟩ := E.ow n _ hi
  cases h4 with
  | @lst us _ hl hr =>
    obtain ⟨vs, v, rfl, r1, r2⟩ : ∃ vs v, us = vs ++ [v] ∧ DqA K G vs ds ∧ Dq K G v d := hr.snoc_inv
    refine ⟨_, h1, .inl ⟨rfl, _, SqL.of hl⟩, l, _, v, rfl, rfl, hl, by simp, ?_⟩
    refine f.nx _ _ G _ q ?_
    have E1 := E.write hi h1 (o := .lst ((vs ++ [v]).dropLast)) (d' := .list ds) (.lst upd_same (by rw [List.dropLast_concat]; exact r1))
    exact E1.setF i r2
def notNe : Sl → Bool
  | .ne _ => false
  | _ => true
theorem hno_of {n : Nat} (h : (ρ.set n .no).all notNe = true) (j : Nat) (x : List (Key × List D)) (hj : j ≠ n) : ρ[j]? ≠ some (.ne x) := fun e => by
  have : (ρ.set n Sl.no)[j]? = some (.ne x) := by rw [List.getElem?_set_ne (Ne.symm hj)]; exact e
  have := List.all_eq_true.mp h _ (List.mem_of_getElem? this)
  cases this
/-- x = a new dict of lists -/
theorem q_asgL {n : Nat} {kls : List (Key × List D)} (h : EVL K te ρ kls) (hno : (ρ.set n .no).all notNe = true) (q : ST K Ex tu (ρ.set n (.ne kls)) P) : ST K Ex (tSeq (tAsg te (gName n)) tu) ρ P := st_seq (st_asgL h (hno_of hno) q)
end
end DL

set_option maxHeartbeats 1000000
/-! DL17: lists of texts and of pairs as data, picks by remainder. -/
namespace DL
open PySem PySem.Spec PyProof.Rows L2
def pI (ps : List Int) (i : Int) : Int := ps.getD i.toNat 0
def chS (z : Str) (i : Int) : Str := ⟨#[z.cps.toList.getD i.toNat 0]⟩
def addP (qs : List (Str × Str)) (p : Str × Str) : List (Str × Str) := if p ∈ qs then qs else qs ++ [p]
def sides4 : List Str := ["E", "N", "W", "S"]
theorem mod_nat {p m : Int} {k : Nat} (hm : m = (k : Nat)) (h : 0 < k) : (p % m).toNat < k := by
  subst hm
  have h0 : 0 ≤ p % (k : Int) := Int.emod_nonneg _ (by omega)
  have h1 : p % (k : Int) < k := Int.emod_lt_of_pos _ (by omega)
  omega
theorem chS_list (z : Str) (i : Int) : (chS z i).cps.toList = [z.cps.toList.getD i.toNat 0] := rfl
theorem eqv_str (a b : Str) : PyData.eqv (.str a) (.str b) = decide (a = b) := by
  by_cases h : a = b
  · subst h
    simp [PyData.eqv]
  · simp [PyData.eqv, h]
theorem any_range {α : Type} {p : α → Bool} {z : α} (l : List α) : ((List.range l.length).any fun i => p (l.getD i z)) = l.any p := by
  have : l = (List.range l.length).map fun i => l.getD i z := by
    refine List.ext_getElem? fun i => ?_
    rw [List.getElem?_map]
    by_cases h : i < l.length
    · rw [List.getElem?_range h]
      simp [h]
    · rw [List.getElem?_eq_none (by omega), List.getElem?_eq_none (by rw [List.length_range]; omega)]
      rfl
  conv => rhs; rw [this]
  rw [List.any_map]
  rfl
theorem hasG_put {κ : Type} [DecidableEq κ] (kvs : List (κ × D)) (k j : κ) (d : D) : hasG (putG kvs k d) j = (decide (k = j) || hasG kvs j) := by
  have key : ∀ l : List (κ × D), hasG l j = l.any fun p => decide (p.1 = j) := fun l => by
    unfold hasG getG
    rw [Option.isSome_map]
    refine Bool.eq_iff_iff.mpr ?_
    rw [List.find?_isSome, List.any_eq_true]
  rw [key, key]
  unfold putG
  split
  · rename_i h
    rw [List.any_map]
    have e : (kvs.any ((fun p : κ × D => decide (p.1 = j)) ∘ fun kv => if kv.1 = k then (kv.1, d) else kv)) = kvs.any fun p => decide (p.1 = j) := by
      congr 1
      funext p
      simp only [Function.comp]
      split <;> rfl
    rw [e]
    by_cases q : k = j
    · subst q
      rw [h]
      simp
    · simp [q]
  · rw [List.any_append, Bool.or_comm]
    simp
theorem map_cut {ns : List Int} (lo hi : Option Int) : ∃ ms : List Int, cutDs (ns.map PyData.int) lo hi = ms.map PyData.int ∧ ms.length ≤ ns.length := by
  refine ⟨(ns.drop (HT.sIx ns.length 0 lo)).take (HT.sIx ns.length ns.length hi - HT.sIx ns.length 0 lo), ?_, ?_⟩
  · unfold cutDs
    rw [List.length_map, List.map_take, List.map_drop]
  · rw [List.length_take, List.length_drop]
    omega
theorem lcD_all {b : Nat → Bool} {f : Nat → D} {g : Nat → Int} (hb : ∀ i, b i = true) : ∀ {n : Nat}, (∀ i, i < n → f i = .int (g i)) → lcD n b f = ((List.range n).map g).map PyData.int
  | 0, _ => rfl
  | n + 1, h => by
    unfold lcD
    rw [if_pos (hb n), lcD_all hb (fun i hi => h i (by omega)), List.range_succ, List.map_append, List.map_append, h n (by omega)]
    rfl
theorem getD_map_int {ms : List Int} {i : Nat} (hi : i < ms.length) : (ms.map PyData.int).getD i .none = .int (ms.getD i 0) := by
  rw [List.getD_eq_getElem?_getD, List.getD_eq_getElem?_getD, List.getElem?_map]
  simp [hi]
theorem map_set {ms : List Int} {j : Nat} {v : Int} : (ms.map PyData.int).set j (.int v) = (ms.set j v).map PyData.int := (List.map_set ..).symm
theorem map_add {ms : List Int} {v : Int} : ms.map PyData.int ++ [PyData.int v] = (ms ++ [v]).map PyData.int := by rw [List.map_append]; rfl
theorem pI_get {ps : List Int} {i : Int} (h0 : 0 ≤ i) (h1 : i < ps.length) : atI (ps.map PyData.int) i = some (.int (pI ps i)) := atI_ints h0 h1
theorem ch_at {z : Str} {i : Int} (h0 : 0 ≤ i) (h1 : i < z.cps.toList.length) : atI z.cps.toList i = some (z.cps.toList.getD i.toNat 0) := atI_nn (α := Nat) 0 h0 h1
theorem ite_str {c : Bool} {a b : Str} : (if c = true then (PyData.str a) else .str b) = .str (if c = true then a else b) := by cases c <;> rfl
theorem lc_filter {p : Str → Bool} (rs : List Str) : ∀ n, n ≤ rs.length → lcD n (fun i => p (rs.getD i Str.empty)) (fun i => (rs.map PyData.str).getD i .none) = ((rs.take n).filter p).map PyData.str
  | 0, _ => rfl
  | n + 1, h => by
    unfold lcD
    rw [lc_filter rs n (by omega), List.take_succ, List.getElem?_eq_getElem (by omega), List.filter_append, List.map_append]
    have e1 : rs.getD n Str.empty = rs[n] := by rw [List.getD_eq_getElem?_getD, List.getElem?_eq_getElem (by omega)]; rfl
    have e2 : (rs.map PyData.str).getD n .none = .str rs[n] := by
      rw [List.getD_eq_getElem?_getD, List.getElem?_map, List.getElem?_eq_getElem (by omega)]
      rfl
    show (if p (rs.getD n Str.empty) = true then _ ++ [(rs.map PyData.str).getD n .none] else _) = _
    rw [e1, e2]
    show _ = _ ++ (([rs[n]] : List Str).filter p).map PyData.str
    cases q : p rs[n] with
    | true =>
      rw [if_pos rfl, List.filter_cons_of_pos q]
      rfl
    | false =>
      rw [if_neg Bool.false_ne_true, List.filter_cons_of_neg (by rw [q]; exact Bool.false_ne_true)]
      show _ = _ ++ []
      rw [List.append_nil]
theorem keyQ_inj {p q : Str × Str} (h : keyQ p = keyQ q) : p = q := by
  unfold keyQ at h
  injection h with h1 h2
  injection h2 with h2
  injection h1 with h1
  injection h2 with h2
  exact Prod.ext h1 h2
theorem putQ (qs : List (Str × Str)) (p : Str × Str) : putG (qs.map fun p => (keyQ p, PyData.bool true)) (keyQ p) (.bool true) = (addP qs p).map fun p => (keyQ p, PyData.bool true) := by
  have hany : ((qs.map fun p => (keyQ p, PyData.bool true)).any fun kv => decide (kv.1 = keyQ p)) = decide (p ∈ qs) := by
    rw [List.any_map, Bool.eq_iff_iff, List.any_eq_true, decide_eq_true_eq]
    constructor
    · rintro ⟨q, hq, e⟩
      rw [← keyQ_inj (of_decide_eq_true e)]
      exact hq
    · intro h
      exact ⟨p, h, decide_eq_true rfl⟩
  unfold putG addP
  rw [hany]
  by_cases h : p ∈ qs
  · rw [if_pos (decide_eq_true h), if_pos h, List.map_map]
    refine List.map_congr_left fun q _ => ?_
    simp only [Function.comp]
    split <;> rfl
  · rw [if_neg (by simpa using h), if_neg h, List.map_append]
    rfl
theorem addP_len (qs : List (Str × Str)) (p : Str × Str) : (addP qs p).length ≤ qs.length + 1 := by
  unfold addP
  split
  · omega
  · rw [List.length_append]
    exact Nat.le_refl _
theorem inD_str {z : Str} {ns : List Str} : inD (.str z) (ns.map PyData.str) = decide (z ∈ ns) := by
  unfold inD
  rw [List.any_map, Bool.eq_iff_iff, List.any_eq_true, decide_eq_true_eq]
  constructor
  · rintro ⟨x, hx, e⟩
    have e : PyData.eqv (.str x) (.str z) = true := e
    rw [eqv_str, decide_eq_true_eq] at e
    rw [← e]
    exact hx
  · intro h
    refine ⟨z, h, ?_⟩
    show PyData.eqv (.str z) (.str z) = true
    rw [eqv_str]
    exact decide_eq_true rfl
theorem sorted_lt {α : Type} {lt : α → α → Bool} (O : Sto lt) {l : List α} (hp : l.Pairwise fun x y => lt y x = false) (nd : l.Nodup) : l.Pairwise fun x y => lt x y = true := by
  have := hp.and nd
  refine this.imp fun {x y} h => ?_
  cases q : lt x y with
  | true => rfl
  | false => exact absurd (O.eq q h.1) h.2
theorem pw_at {α : Type} {R : α → α → Prop} {l : List α} (h : l.Pairwise R) {i : Nat} (h0 : 0 < i) (h1 : i < l.length) (z : α) : R (l.getD (i - 1) z) (l.getD i z) := by
  have := List.pairwise_iff_getElem.mp h (i - 1) i (by omega) h1 (by omega)
  rw [List.getD_eq_getElem?_getD, List.getD_eq_getElem?_getD, List.getElem?_eq_getElem h1, List.getElem?_eq_getElem (by omega : i - 1 < l.length)]
  exact this
theorem getD_str {zs : List Str} {i : Nat} (hi : i < zs.length) : (zs.map PyData.str).getD i .none = .str (zs.getD i Str.empty) := by
  rw [List.getD_eq_getElem?_getD, List.getD_eq_getElem?_getD, List.getElem?_map, List.getElem?_eq_getElem hi]
  rfl
theorem getD_mem {α : Type} {zs : List α} {i : Nat} {z : α} (hi : i < zs.length) : zs.getD i z ∈ zs := by
  rw [List.getD_eq_getElem?_getD, List.getElem?_eq_getElem hi]
  exact List.getElem_mem hi
theorem getD_map {qs : List (Str × Str)} {i : Nat} (hi : i < qs.length) : (qs.map pqD).getD i .none = pqD (qs.getD i (Str.empty, Str.empty)) := by
  rw [List.getD_eq_getElem?_getD, List.getD_eq_getElem?_getD, List.getElem?_map, List.getElem?_eq_getElem hi]
  rfl
theorem app_list (a b : Str) : (a ++ b).cps.toList = a.cps.toList ++ b.cps.toList := by
  show (a.cps ++ b.cps).toList = _
  rw [Array.toList_append]
theorem strs_flat (zs : List Str) : (zs.map PyData.str).all flatD = true := by
  rw [List.all_map]
  exact List.all_eq_true.mpr fun _ _ => rfl
theorem getD_all {α : Type} {p : α → Bool} {ds : List α} {z : α} (h : ds.all p = true) {i : Nat} (hi : i < ds.length) : p (ds.getD i z) = true := by
  rw [List.getD_eq_getElem?_getD, List.getElem?_eq_getElem hi]
  exact List.all_eq_true.mp h _ (List.getElem_mem hi)
theorem all_of {p : D → Bool} {ds : List D} (h : ∀ i, i < ds.length → p (ds.getD i .none) = true) : ds.all p = true := by
  refine List.all_eq_true.mpr fun x hx => ?_
  obtain ⟨i, hi, e⟩ := List.getElem_of_mem hx
  have := h i hi
  rw [List.getD_eq_getElem?_getD, List.getElem?_eq_getElem hi] at this
  rw [← e]
  exact this
/-! ### dicts of lists of texts -/
def mkL (keys : List Str) (f : Str → List Str) : List (Key × List D) := keys.map fun k => (.inr k, (f k).map PyData.str)
section
variable {keys : List Str} {f g : Str → List Str} {a v : Str}
theorem getL_mk : ∀ {keys : List Str}, a ∈ keys → getL (mkL keys f) (.inr a) = some ((f a).map PyData.str)
  | k :: ks, h => by
    show (if (Sum.inr k : Key) = .inr a then _ else _) = _
    by_cases e : k = a
    · subst e
      rw [if_pos rfl]
    · rw [if_neg fun z => e (Sum.inr.inj z)]
      exact getL_mk ((List.mem_cons.mp h).resolve_left (Ne.symm e))
theorem getL_mk_none : ∀ {keys : List Str}, a ∉ keys → getL (mkL keys f) (.inr a) = none
  | [], _ => rfl
  | k :: ks, h => by
    show (if (Sum.inr k : Key) = .inr a then _ else _) = _
    rw [if_neg fun z => h (by rw [Sum.inr.inj z]; exact List.mem_cons_self ..)]
    exact getL_mk_none fun z => h (List.mem_cons_of_mem _ z)
theorem mkL_congr (h : ∀ k ∈ keys, f k = g k) : mkL keys f = mkL keys g := List.map_congr_left fun k hk => by rw [h k hk]
theorem appL_mk : ∀ {keys : List Str}, keys.Nodup → appL (mkL keys f) (.inr a) (.str v) = mkL keys fun k => if k = a then f k ++ [v] else f k
  | [], _ => rfl
  | k :: ks, nd => by
    obtain ⟨n1, n2⟩ := List.nodup_cons.mp nd
    show (if (Sum.inr k : Key) = .inr a then (Sum.inr k, (f k).map PyData.str ++ [PyData.str v]) :: mkL ks f else (Sum.inr k, (f k).map PyData.str) :: appL (mkL ks f) (.inr a) (.str v)) = (Sum.inr k, (if k = a then f k ++ [v] else f k).map PyData.str) :: mkL ks _
    by_cases e : k = a
    · subst e
      rw [if_pos rfl, if_pos rfl, List.map_append]
      refine congrArg _ (mkL_congr fun j hj => ?_)
      rw [if_neg fun z => n1 (by rw [← z]; exact hj)]
    · rw [if_neg fun z => e (Sum.inr.inj z), if_neg e, appL_mk n2]
theorem getG_mk : ∀ {keys : List Str}, a ∈ keys → getG ((mkL keys f).map fun p => (p.1, PyData.list p.2)) (.inr a) = some (.list ((f a).map PyData.str))
  | k :: ks, h => by
    by_cases e : k = a
    · subst e
      unfold getG mkL
      simp
    · have ih := getG_mk ((List.mem_cons.mp h).resolve_left (Ne.symm e))
      unfold getG mkL at ih ⊢
      rw [List.map_cons, List.map_cons, List.find?_cons_of_neg (by simpa using e)]
      exact ih
theorem mkL_len : (mkL keys f).length = keys.length := List.length_map ..
theorem mkL_snoc {l : List Str} (h : f a = l) : mkL keys f ++ [(.inr a, l.map PyData.str)] = mkL (keys ++ [a]) f := by
  unfold mkL
  rw [List.map_append, ← h]
  rfl
theorem klD_mk {kf : Nat → Key} {ff : Nat → List D} (hk : ∀ i, i < keys.length → kf i = .inr (keys.getD i Str.empty)) (hf : ∀ i, i < keys.length → ff i = (g (keys.getD i Str.empty)).map PyData.str) : klD kf ff keys.length = mkL keys g := by
  unfold klD mkL
  refine List.ext_getElem (by simp) fun i h1 h2 => ?_
  have hi : i < keys.length := by simpa using h2
  rw [List.getElem_map, List.getElem_range, List.getElem_map, hk i hi, hf i hi, List.getD_eq_getElem?_getD, List.getElem?_eq_getElem hi]
  rfl
theorem klD_new {kf : Nat → Key} {ff : Nat → List D} (nd : keys.Nodup) (hk : ∀ i, i < keys.length → kf i = .inr (keys.getD i Str.empty)) {i : Nat} (hi : i < keys.length) : getL (klD kf ff i) (kf i) = none := by
  have key : ∀ n, n ≤ i → getL (klD kf ff n) (kf i) = none := by
    intro n
    have hgen : ∀ (l : List (Key × List D)) (k : Key), (∀ p ∈ l, p.1 ≠ k) → getL l k = none := by
      intro l k h
      induction l with
      | nil => rfl
      | cons p r ih =>
        obtain ⟨k', ds⟩ := p
        show (if k' = k then _ else _) = _
        rw [if_neg (h (k', ds) (List.mem_cons_self ..))]
        exact ih fun p hp => h p (List.mem_cons_of_mem _ hp)
    intro hn
    refine hgen _ _ fun p hp e => ?_
    unfold klD at hp
    obtain ⟨j, hj, rfl⟩ := List.mem_map.mp hp
    have hj : j < n := List.mem_range.mp hj
    have e : kf j = kf i := e
    rw [hk j (by omega), hk i hi] at e
    have e := Sum.inr.inj e
    rw [List.getD_eq_getElem?_getD, List.getD_eq_getElem?_getD, List.getElem?_eq_getElem hi, List.getElem?_eq_getElem (by omega : j < keys.length)] at e
    exact List.pairwise_iff_getElem.mp nd j i (by omega) hi (by omega) e
  exact key i (Nat.le_refl _)
end
section
variable {K : PySem.W.Frag} {ρ : List Sl} {Ex : XK} {ta tb te : TE} {tt : TT} {u : TS} {P : Oc → Prop} {keys : List Str} {f : Str → List Str} {a v : Str}
theorem ev_nget (h : EV K ta ρ (neD (mkL keys f))) (hk : EV K tb ρ (.str a)) (ha : a ∈ keys) : EV K (tDGet ta tb) ρ (.list ((f a).map PyData.str)) := ev_getD (k := .inr a) h hk rfl (getG_mk ha)
theorem st_napp {n : Nat} (hi : ρ[n]? = some (.ne (mkL keys f))) (hk : EV K tb ρ (.str a)) (ha : a ∈ keys) (nd : keys.Nodup) (h : EV K te ρ (.str v)) (hz : (f a).length < 16000000) (q : P (.nx (ρ.set n (.ne (mkL keys fun k => if k = a then f k ++ [v] else f k))))) :
    ST K Ex (tDrop (tBM K "list" rAppend (tDGet (tVar n) tb) (tCons te tNil))) ρ P := st_nappend (k := .inr a) hi hk rfl (getL_mk ha) h (by rw [List.length_map]; exact hz) (by rw [appL_mk nd]; exact q)
theorem q_napp {n : Nat} (hi : ρ[n]? = some (.ne (mkL keys f))) (hk : EV K tb ρ (.str a)) (ha : a ∈ keys) (nd : keys.Nodup) (h : EV K te ρ (.str v)) (hz : (f a).length < 16000000) (q : ST K Ex u (ρ.set n (.ne (mkL keys fun k => if k = a then f k ++ [v] else f k))) P) :
    ST K Ex (tSeq (tDrop (tBM K "list" rAppend (tDGet (tVar n) tb) (tCons te tNil))) u) ρ P := st_seq (st_napp hi hk ha nd h hz q)
/-- a dict that says True of each of its texts -/
def bS (ys : List Str) : List (Key × D) := ys.map fun y => (.inr y, .bool true)
theorem has_bS {ys : List Str} {y : Str} : hasG (bS ys) (.inr y) = decide (y ∈ ys) := by
  unfold hasG getG bS
  rw [Option.isSome_map, Bool.eq_iff_iff, List.find?_isSome, decide_eq_true_eq]
  constructor
  · rintro ⟨x, hx, e⟩
    obtain ⟨z, hz, rfl⟩ := List.mem_map.mp hx
    rw [← Sum.inr.inj (of_decide_eq_true e)]
    exact hz
  · exact fun h => ⟨_, List.mem_map.mpr ⟨y, h, rfl⟩, decide_eq_true rfl⟩
theorem put_bS {ys : List Str} {y : Str} (h : y ∉ ys) : putG (bS ys) (.inr y) (.bool true) = bS (ys ++ [y]) := by
  have : hasG (bS ys) (.inr y) = false := by rw [has_bS]; exact decide_eq_false h
  unfold putG
  rw [if_neg]
  · unfold bS
    rw [List.map_append]
    rfl
  · rw [List.any_eq_true]
    rintro ⟨x, hx, e⟩
    unfold bS at hx
    obtain ⟨z, hz, rfl⟩ := List.mem_map.mp hx
    exact h (by rw [← Sum.inr.inj (of_decide_eq_true e)]; exact hz)
theorem q_pop {n i : Nat} {ds : List D} {d : D} (hi : ρ[n]? = some (.ow (.list (ds ++ [d])))) (hni : n ≠ i) (q : ST K Ex u ((ρ.set n (.ow (.list ds))).set i (.fr d)) P) : ST K Ex (tSeq (tAsg (tBM0 K "list" rPop (tVar n)) (gName i)) u) ρ P := st_seq (st_pop hi hni q)
theorem st_asgIf {b : Bool} {g : TG} (h : ET K tt ρ b) (h1 : b = true → ST K Ex (tAsg ta g) ρ P) (h2 : b = false → ST K Ex (tAsg tb g) ρ P) : ST K Ex (tAsg (tIf tt ta tb) g) ρ P := fun G0 H0 G H σ D E f =>
  h G0 H0 G H σ _ E fun G' H' x => by
    cases b with
    | true => exact h1 rfl G0 H0 G' H' σ D (E.go x) f
    | false => exact h2 rfl G0 H0 G' H' σ D (E.go x) f
end
/-! ### walking lists of texts, of pairs -/
section
variable {K : PySem.W.Frag} {ρ : List Sl} {te : TE}
theorem ei_tupS {zs : List Str} (h : EV K te ρ (.tuple (zs.map PyData.str))) : EI K (iSeqU K te) ρ zs.length (fun i => .str (zs.getD i Str.empty)) := by
  have e := ei_tup h
  rw [List.length_map] at e
  exact ei_mono e fun i hi => getD_str hi
theorem ei_listS {zs : List Str} (h : EV K te ρ (.list (zs.map PyData.str))) : EI K (iSeqU K te) ρ zs.length (fun i => .str (zs.getD i Str.empty)) := by
  have e := ei_list h
  rw [List.length_map] at e
  exact ei_mono e fun i hi => getD_str hi
theorem ei_tupQ {qs : List (Str × Str)} (h : EV K te ρ (.tuple (qs.map pqD))) : EI K (iSeqU K te) ρ qs.length (fun i => pqD (qs.getD i (Str.empty, Str.empty))) := by
  have e := ei_tup h
  rw [List.length_map] at e
  exact ei_mono e fun i hi => getD_map hi
theorem ei_listQ {qs : List (Str × Str)} (h : EV K te ρ (.list (qs.map pqD))) : EI K (iSeqU K te) ρ qs.length (fun i => pqD (qs.getD i (Str.empty, Str.empty))) := by
  have e := ei_list h
  rw [List.length_map] at e
  exact ei_mono e fun i hi => getD_map hi
theorem itemK_mk {keys : List Str} {f : Str → List Str} {i : Nat} (hi : i < keys.length) : itemK (mkL keys f) i = .tuple [.str (keys.getD i Str.empty), .list ((f (keys.getD i Str.empty)).map PyData.str)] := by
  unfold itemK mkL
  rw [List.getD_eq_getElem?_getD, List.getElem?_map, List.getElem?_eq_getElem hi, List.getD_eq_getElem?_getD, List.getElem?_eq_getElem hi]
  rfl
end
/-! ### plain lists -/
theorem nodup_le {α : Type} [DecidableEq α] : ∀ {l m : List α}, l.Nodup → (∀ x ∈ l, x ∈ m) → l.length ≤ m.length
  | [], _, _, _ => Nat.zero_le _
  | a :: l, m, nd, h => by
    obtain ⟨n1, n2⟩ := List.nodup_cons.mp nd
    have ha := h a (List.mem_cons_self ..)
    have := nodup_le (l := l) (m := m.erase a) n2 fun x hx => (List.mem_erase_of_ne fun e => n1 (by rw [← e]; exact hx)).mpr (h x (List.mem_cons_of_mem _ hx))
    rw [List.length_erase_of_mem ha] at this
    have h1 : 0 < m.length := List.length_pos_of_mem ha
    rw [List.length_cons]
    omega
theorem srt_congr {α : Type} {lt : α → α → Bool} (O : Sto lt) {l m : List α} (h : l.Perm m) : srt lt l = srt lt m := srt_uniq O ((srt_perm l).trans h) (srt_pw O l)
theorem mem_srt {α : Type} {lt : α → α → Bool} {l : List α} {x : α} : x ∈ srt lt l ↔ x ∈ l := (srt_perm l).mem_iff
theorem lc_filterG {α : Type} {p : α → Bool} {h : α → D} (z : α) (rs : List α) : ∀ n, n ≤ rs.length → lcD n (fun i => p (rs.getD i z)) (fun i => h (rs.getD i z)) = ((rs.take n).filter p).map h
  | 0, _ => rfl
  | n + 1, hn => by
    unfold lcD
    rw [lc_filterG z rs n (by omega), List.take_succ, List.getElem?_eq_getElem (by omega), List.filter_append, List.map_append]
    have e1 : rs.getD n z = rs[n] := by rw [List.getD_eq_getElem?_getD, List.getElem?_eq_getElem (by omega)]; rfl
    show (if p (rs.getD n z) = true then _ ++ [h (rs.getD n z)] else _) = _
    rw [e1]
    show _ = _ ++ (([rs[n]] : List α).filter p).map h
    cases q : p rs[n] with
    | true =>
      rw [if_pos rfl, List.filter_cons_of_pos q]
      rfl
    | false =>
      rw [if_neg Bool.false_ne_true, List.filter_cons_of_neg (by rw [q]; exact Bool.false_ne_true)]
      show _ = _ ++ []
      rw [List.append_nil]
theorem lc_filterA {α : Type} {p : α → Bool} {h : α → D} (z : α) (rs : List α) : lcD rs.length (fun i => p (rs.getD i z)) (fun i => h (rs.getD i z)) = (rs.filter p).map h := by
  rw [lc_filterG z rs _ (Nat.le_refl _), List.take_length]
theorem srt_filter {α : Type} {lt : α → α → Bool} (O : Sto lt) (p : α → Bool) (l : List α) : (srt lt l).filter p = srt lt (l.filter p) := srt_uniq O ((srt_perm l).filter p) ((srt_pw O l).filter p)
end DL

set_option maxHeartbeats 1000000
/-! DL18: in, not in of an owned dict. -/
namespace DL
open PySem PySem.Spec PyProof.Rows L2
section
variable {K : PySem.W.Frag} {ρ : List Sl} {ta tb te : TE} {d : D}
theorem has_val {G : Hp} {es : List (Key × V)} {kvs : List (Key × D)} (r : DqV K G es kvs) (k : Key) : (valV es k).isSome = hasG kvs k := by
  unfold hasG
  rcases r.get (k := k) with ⟨h1, h2⟩ | ⟨v, d, h1, h2, h3⟩
  · rw [h1, h2]
    rfl
  · rw [h1, h2]
    rfl
theorem ev_inDO {n : Nat} {kvs : List (Key × D)} {k : Key} {dk : D} (hk : EV K ta ρ dk) (ek : dk = kD k) (hi : ρ[n]? = some (.ow (dkD kvs))) : EV K (tDIn ta (tVar n)) ρ (.bool (hasG kvs k)) := fun G0 H0 G H σ Q E q =>
  hk G0 H0 G H σ _ E fun y G1 H1 e1 hy => by
    subst ek
    obtain ⟨l, h1, h2, h3, h4⟩ := (E.go e1).ow n _ hi
    obtain ⟨es, h5, h6⟩ := own_dk h4
    have e := key_dq hy
    subst e
    exact ⟨_, h1, l, _, rfl, DGet.k h5, q _ G1 H1 e1 (by rw [has_val h6]; exact .bl _)⟩
theorem ev_ninDO {n : Nat} {kvs : List (Key × D)} {k : Key} {dk : D} (hk : EV K ta ρ dk) (ek : dk = kD k) (hi : ρ[n]? = some (.ow (dkD kvs))) : EV K (tDNotIn ta (tVar n)) ρ (.bool (!hasG kvs k)) := fun G0 H0 G H σ Q E q =>
  hk G0 H0 G H σ _ E fun y G1 H1 e1 hy => by
    subst ek
    obtain ⟨l, h1, h2, h3, h4⟩ := (E.go e1).ow n _ hi
    obtain ⟨es, h5, h6⟩ := own_dk h4
    have e := key_dq hy
    subst e
    exact ⟨_, h1, l, _, rfl, DGet.k h5, q _ G1 H1 e1 (by rw [has_val h6]; exact .bl _)⟩
theorem ev_inSO {n : Nat} {ys : List Str} {x : Str} (hk : EV K ta ρ (.str x)) (hi : ρ[n]? = some (.ow (dkD (bS ys)))) : EV K (tDIn ta (tVar n)) ρ (.bool (decide (x ∈ ys))) := by
  rw [← has_bS]
  exact ev_inDO hk rfl hi
theorem ev_ninSO {n : Nat} {ys : List Str} {x : Str} (hk : EV K ta ρ (.str x)) (hi : ρ[n]? = some (.ow (dkD (bS ys)))) : EV K (tDNotIn ta (tVar n)) ρ (.bool (!decide (x ∈ ys))) := by
  rw [← has_bS]
  exact ev_ninDO hk rfl hi
theorem ev_inSF {ys : List Str} {x : Str} (hk : EV K ta ρ (.str x)) (h : EV K tb ρ (dkD (bS ys))) : EV K (tDIn ta tb) ρ (.bool (decide (x ∈ ys))) := by
  rw [← has_bS]
  exact ev_inD hk rfl h
end
end DL

set_option maxHeartbeats 1000000
/-! DL19: values that are told by a predicate (EVX ..): what a def answers that changes a list it was handed. -/
namespace DL
open PySem PySem.Spec PyProof.Rows L2
section
variable (K : PySem.W.Frag)
def EVX (te : TE) (ρ : List Sl) (Pd : D → Prop) : Prop := ∀ (G0 H0 G H : Hp) (σ : L2.St) (Q : VK), En K G0 H0 G H σ ρ → (∀ d v G' H', Pd d → Ext G H G' H' → Dq K G' v d → Q v H') → te σ H Q
def EVNX (te : TE) (ρ : List Sl) (Pd : D → Prop) : Prop := ∀ (G0 H0 G H : Hp) (σ : L2.St) (Q : VK), En K G0 H0 G H σ ρ → (∀ d l G' H', Pd d → Ext G H G' H' → H l = none → G' l = none → OwnC K G' H' l d → Q (.ref l) H') → te σ H Q
def EAX (ta : TA) (ρ : List Sl) (Pl : List D → Prop) : Prop := ∀ (G0 H0 G H : Hp) (σ : L2.St) (Q : List V → Hp → Prop), En K G0 H0 G H σ ρ → (∀ ds vs G' H', Pl ds → Ext G H G' H' → DqA K G' vs ds → Q vs H') → ta σ H Q
def ETX (tt : TT) (ρ : List Sl) (Pb : Bool → Prop) : Prop := ∀ (G0 H0 G H : Hp) (σ : L2.St) (Q : Bool → Hp → Prop), En K G0 H0 G H σ ρ → (∀ b G' H', Pb b → Ext G H G' H' → Q b H') → tt σ H Q
def EIX (wi : TI) (ρ : List Sl) (Pi : Nat → (Nat → D) → Prop) : Prop := ∀ (G0 H0 G H : Hp) (σ : L2.St) (R : It → Hp → Prop), En K G0 H0 G H σ ρ →
  (∀ n item J G' H' Gd Y, Pi n item → Ext G H G' H' → Walk J n Gd Y → (∀ G2 H2, (∀ a o, G' a = some o → G2 a = some o) → GH G2 H2 → Gd H2) →
    (∀ i G2 H2 x H3, i < n → (∀ a o, G' a = some o → G2 a = some o) → GH G2 H2 → Y i H2 x H3 → ∃ G3, Ext G2 H2 G3 H3 ∧ Dq K G3 x (item i)) → R J H') → wi σ H R
end
section
variable {K : PySem.W.Frag} {ρ : List Sl} {Ex : XK} {ta tb te : TE} {tt tu : TT} {t u : TS} {d : D} {P : Oc → Prop} {Pd Pa Pc : D → Prop} {Pl Pm : List D → Prop} {Pb Pe : Bool → Prop}
theorem evx_of (h : EV K te ρ d) (p : Pd d) : EVX K te ρ Pd := fun G0 H0 G H σ Q E q => h G0 H0 G H σ Q E fun v G' H' => q d v G' H' p
theorem evx_mono (h : EVX K te ρ Pa) (k : ∀ d, Pa d → Pd d) : EVX K te ρ Pd := fun G0 H0 G H σ Q E q => h G0 H0 G H σ Q E fun d v G' H' p => q d v G' H' (k d p)
theorem evx_N (h : EVNX K te ρ Pd) : EVX K te ρ Pd := fun G0 H0 G H σ Q E q => h G0 H0 G H σ Q E fun d l G' H' p x hH hG ho => by
  obtain ⟨G'', x', hd⟩ := own_frz x hH hG ho
  exact q d _ _ _ p x' hd
theorem evnx_of (h : EVN K te ρ d) (p : Pd d) : EVNX K te ρ Pd := fun G0 H0 G H σ Q E q => h G0 H0 G H σ Q E fun l G' H' => q d l G' H' p
theorem eax_of {t : TA} {ds : List D} (h : EA K t ρ ds) (p : Pl ds) : EAX K t ρ Pl := fun G0 H0 G H σ Q E q => h G0 H0 G H σ Q E fun vs G' H' => q ds vs G' H' p
theorem etx_of {b : Bool} (h : ET K tt ρ b) (p : Pb b) : ETX K tt ρ Pb := fun G0 H0 G H σ Q E q => h G0 H0 G H σ Q E fun G' H' => q b G' H' p
theorem eax_nil (p : Pl []) : EAX K tNil ρ Pl := eax_of ea_nil p
theorem eax_cons {tr : TA} (h : EVX K ta ρ Pa) (hr : EAX K tr ρ Pl) (k : ∀ d ds, Pa d → Pl ds → Pm (d :: ds)) : EAX K (tCons ta tr) ρ Pm := fun G0 H0 G H σ Q E q =>
  h G0 H0 G H σ _ E fun d x G1 H1 p e1 h1 => hr G0 H0 G1 H1 σ _ (E.go e1) fun ds xs G2 H2 p2 e2 h2 => q _ _ G2 H2 (k d ds p p2) (e1.trans e2) (.cons (h1.mono e2.g) h2)
theorem eax_one (h : EVX K ta ρ Pa) (k : ∀ d, Pa d → Pm [d]) : EAX K (tCons ta tNil) ρ Pm := eax_cons (Pl := fun ds => ds = []) h (eax_nil rfl) fun d ds p e => e ▸ k d p
theorem evx_op {r : R2} (ha : EVX K ta ρ Pa) (hb : EVX K tb ρ Pc) (ho : ∀ a b, Pa a → Pc b → ∃ d, OD K r a b d ∧ Pd d) : EVX K (tOp r ta tb) ρ Pd := fun G0 H0 G H σ Q E q =>
  ha G0 H0 G H σ _ E fun a x G1 H1 p1 e1 h1 => hb G0 H0 G1 H1 σ _ (E.go e1) fun b y G2 H2 p2 e2 h2 => by
    obtain ⟨d, hd, pd⟩ := ho a b p1 p2
    exact hd x y G2 H2 Q e2.gh (h1.mono e2.g) h2 fun v G3 H3 e3 h3 => q d v G3 H3 pd ((e1.trans e2).trans e3) h3
theorem evnx_op {r : R2} (ha : EVX K ta ρ Pa) (hb : EVX K tb ρ Pc) (ho : ∀ a b, Pa a → Pc b → ∃ d, ON K r a b d ∧ Pd d) : EVNX K (tOp r ta tb) ρ Pd := fun G0 H0 G H σ Q E q =>
  ha G0 H0 G H σ _ E fun a x G1 H1 p1 e1 h1 => hb G0 H0 G1 H1 σ _ (E.go e1) fun b y G2 H2 p2 e2 h2 => by
    obtain ⟨d, hd, pd⟩ := ho a b p1 p2
    exact hd x y G2 H2 Q e2.gh (h1.mono e2.g) h2 fun l G3 H3 e3 hH hG h3 => q d l G3 H3 pd ((e1.trans e2).trans e3) (e1.gone (e2.gone hH)) hG h3
theorem evx_cb {r : List V → Hp → VK → Prop} {t : TA} (h : EAX K t ρ Pl) (hc : ∀ ds, Pl ds → ∃ d, CD K r ds d ∧ Pd d) : EVX K (tCB r t) ρ Pd := fun G0 H0 G H σ Q E q =>
  h G0 H0 G H σ _ E fun ds xs G1 H1 p e1 h1 => by
    obtain ⟨d, hd, pd⟩ := hc ds p
    exact hd xs G1 H1 Q e1.gh h1 fun v G2 H2 e2 h2 => q d v G2 H2 pd (e1.trans e2) h2
theorem evnx_cb {r : List V → Hp → VK → Prop} {t : TA} (h : EAX K t ρ Pl) (hc : ∀ ds, Pl ds → ∃ d, CN K r ds d ∧ Pd d) : EVNX K (tCB r t) ρ Pd := fun G0 H0 G H σ Q E q =>
  h G0 H0 G H σ _ E fun ds xs G1 H1 p e1 h1 => by
    obtain ⟨d, hd, pd⟩ := hc ds p
    exact hd xs G1 H1 Q e1.gh h1 fun l G2 H2 e2 hH hG h2 => q d l G2 H2 pd (e1.trans e2) (e1.gone hH) hG h2
theorem evx_tup {t : TA} (h : EAX K t ρ Pl) (hl : ∀ ds, Pl ds → ds.length ≤ sizeLine ∧ Pd (.tuple ds)) : EVX K (tTup t) ρ Pd := fun G0 H0 G H σ Q E q =>
  h G0 H0 G H σ _ E fun ds xs G1 H1 p e1 h1 => ⟨by rw [h1.length]; exact (hl ds p).1, fun a hp => by
    have x := Ext.new (o := .tup xs) e1.gh hp
    exact q _ _ _ _ (hl ds p).2 (e1.trans x) (.tup (SqT.of upd_same) (h1.mono x.g))⟩
theorem evnx_lst {t : TA} (h : EAX K t ρ Pl) (hl : ∀ ds, Pl ds → ds.length ≤ sizeLine ∧ Pd (.list ds)) : EVNX K (tLst t) ρ Pd := fun G0 H0 G H σ Q E q =>
  h G0 H0 G H σ _ E fun ds xs G1 H1 p e1 h1 => ⟨by rw [h1.length]; exact (hl ds p).1, fun a hp => by
    have x := Ext.fresh (o := .lst xs) e1.gh hp
    exact q _ _ _ _ (hl ds p).2 (e1.trans x) (e1.gone hp) (e1.gh.none hp) (.lst upd_same h1)⟩
/-- a call whose answer is told by the arguments | by a predicate -/
theorem evx_call {R : List D → D → Prop} {Ey : XK} {t : TA} (h : EAX K t ρ Pl) (hr : ∀ ds, Pl ds → ∃ d, R ds d ∧ Pd d) : EVX K (tCall (PF K R) [] Ey t) ρ Pd := fun G0 H0 G H σ Q E q =>
  h G0 H0 G H σ _ E fun ds vs G1 H1 p e1 h1 => by
    obtain ⟨d, hd, pd⟩ := hr ds p
    rw [List.append_nil]
    exact ⟨G1, ds, d, e1.gh, h1, hd, fun v G2 H2 x hv => q d v G2 H2 pd (e1.trans x) hv⟩
theorem evx_callQ {Pre : List D → Prop} {Post : List D → D → Prop} {Ey : XK} {t : TA} (h : EAX K t ρ Pl) (hr : ∀ ds, Pl ds → Pre ds ∧ ∀ d, Post ds d → Pd d) : EVX K (tCall (PQ K Pre Post) [] Ey t) ρ Pd := fun G0 H0 G H σ Q E q =>
  h G0 H0 G H σ _ E fun ds vs G1 H1 p e1 h1 => by
    rw [List.append_nil]
    exact ⟨G1, ds, e1.gh, h1, (hr ds p).1, fun d v G2 H2 hd x hv => q d v G2 H2 ((hr ds p).2 d hd) (e1.trans x) hv⟩
/-! tests -/
theorem etx_test (h : EVX K te ρ Pd) (k : ∀ d, Pd d → ∃ b, d = .bool b ∧ Pb b) : ETX K (tTest te) ρ Pb := fun G0 H0 G H σ Q E q =>
  h G0 H0 G H σ _ E fun d v G1 H1 p e1 h1 => by
    obtain ⟨b, rfl, pb⟩ := k d p
    cases h1
    exact ⟨b, rfl, q b G1 H1 pb e1⟩
theorem etx_not (h : ETX K tt ρ Pb) : ETX K (tNot tt) ρ (fun b => Pb (!b)) := fun G0 H0 G H σ Q E q => h G0 H0 G H σ _ E fun b G1 H1 p e1 => q (!b) G1 H1 (by show Pb (!!b); rw [Bool.not_not]; exact p) e1
theorem etx_mono (h : ETX K tt ρ Pe) (k : ∀ b, Pe b → Pb b) : ETX K tt ρ Pb := fun G0 H0 G H σ Q E q => h G0 H0 G H σ Q E fun b G1 H1 p => q b G1 H1 (k b p)
theorem etx_and (h : ETX K tt ρ Pb) (h2 : Pb true → ETX K tu ρ Pe) {Pf : Bool → Prop} (k1 : Pb false → Pf false) (k2 : ∀ b, Pb true → Pe b → Pf b) : ETX K (tAnd tt tu) ρ Pf := fun G0 H0 G H σ Q E q => h G0 H0 G H σ _ E fun a G1 H1 p e1 => by
  cases a with
  | true => exact h2 p G0 H0 G1 H1 σ Q (E.go e1) fun b G2 H2 p2 e2 => q b G2 H2 (k2 b p p2) (e1.trans e2)
  | false => exact q false G1 H1 (k1 p) e1
theorem etx_or (h : ETX K tt ρ Pb) (h2 : Pb false → ETX K tu ρ Pe) {Pf : Bool → Prop} (k1 : Pb true → Pf true) (k2 : ∀ b, Pb false → Pe b → Pf b) : ETX K (tOr tt tu) ρ Pf := fun G0 H0 G H σ Q E q => h G0 H0 G H σ _ E fun a G1 H1 p e1 => by
  cases a with
  | false => exact h2 p G0 H0 G1 H1 σ Q (E.go e1) fun b G2 H2 p2 e2 => q b G2 H2 (k2 b p p2) (e1.trans e2)
  | true => exact q true G1 H1 (k1 p) e1
theorem evx_if (h : ETX K tt ρ Pb) (h1 : Pb true → EVX K ta ρ Pd) (h2 : Pb false → EVX K tb ρ Pd) : EVX K (tIf tt ta tb) ρ Pd := fun G0 H0 G H σ Q E q => h G0 H0 G H σ _ E fun b G1 H1 p e1 => by
  cases b with
  | true => exact h1 p G0 H0 G1 H1 σ Q (E.go e1) fun d v G2 H2 p2 e2 => q d v G2 H2 p2 (e1.trans e2)
  | false => exact h2 p G0 H0 G1 H1 σ Q (E.go e1) fun d v G2 H2 p2 e2 => q d v G2 H2 p2 (e1.trans e2)
/-! statements -/
theorem st_asgV {i : Nat} (h : EVX K te ρ Pd) (q : ∀ d, Pd d → P (.nx (ρ.set i (.fr d)))) : ST K Ex (tAsg te (gName i)) ρ P := fun G0 H0 G H σ D E f =>
  h G0 H0 G H σ _ E fun d v G' H' p x hd => f.nx _ _ G' H' (q d p) ((E.go x).setF i hd)
theorem q_asgV {i : Nat} (h : EVX K te ρ Pd) (q : ∀ d, Pd d → ST K Ex u (ρ.set i (.fr d)) P) : ST K Ex (tSeq (tAsg te (gName i)) u) ρ P := st_seq (st_asgV h q)
theorem st_asgNV {i : Nat} (h : EVNX K te ρ Pd) (q : ∀ d, Pd d → P (.nx (ρ.set i (.ow d)))) : ST K Ex (tAsg te (gName i)) ρ P := fun G0 H0 G H σ D E f =>
  h G0 H0 G H σ _ E fun d l G' H' p x hH hG ho => f.nx _ _ G' H' (q d p) (E.setN i x hH hG ho)
theorem q_asgNV {i : Nat} (h : EVNX K te ρ Pd) (q : ∀ d, Pd d → ST K Ex u (ρ.set i (.ow d)) P) : ST K Ex (tSeq (tAsg te (gName i)) u) ρ P := st_seq (st_asgNV h q)
theorem st_asgGV {g : TG} (h : EVX K te ρ Pd) (q : ∀ d, Pd d → ∃ ρ' ts, GT K g ρ d ρ' ts ∧ P (.nx ρ')) : ST K Ex (tAsg te g) ρ P := fun G0 H0 G H σ D E f =>
  h G0 H0 G H σ _ E fun d v G' H' p x hd => by
    obtain ⟨ρ', ts, hg, hp⟩ := q d p
    exact hg G0 H0 G' H' σ v _ (E.go x) hd fun σ' E' _ _ => f.nx _ _ G' H' hp E'
theorem st_retV (h : EVX K te ρ Pd) (q : ∀ d, Pd d → P (.rt d)) : ST K Ex (tRet te) ρ P := fun G0 H0 G H σ D E f =>
  h G0 H0 G H σ _ E fun d v G' H' p x hd => f.rt d v G' H' (q d p) (E.go x).ext hd
theorem st_ifV (h : ETX K tt ρ Pb) (h1 : Pb true → ST K Ex t ρ P) (h2 : Pb false → ST K Ex u ρ P) : ST K Ex (tIfS tt t u) ρ P := fun G0 H0 G H σ D E f =>
  h G0 H0 G H σ _ E fun b G' H' p x => by
    cases b with
    | true => exact h1 p G0 H0 G' H' σ D (E.go x) f
    | false => exact h2 p G0 H0 G' H' σ D (E.go x) f
theorem q_ifV {v : TS} (h : ETX K tt ρ Pb) (h1 : Pb true → ST K Ex t ρ (seqP K Ex u P)) (h2 : Pb false → ST K Ex v ρ (seqP K Ex u P)) : ST K Ex (tSeq (tIfS tt t v) u) ρ P := st_seq (st_ifV h h1 h2)
theorem q_whenV (h : ETX K tt ρ Pb) (h1 : Pb true → ST K Ex t ρ (seqP K Ex u P)) (h2 : Pb false → ST K Ex u ρ P) : ST K Ex (tSeq (tIfS tt t tNext) u) ρ P := st_seq (st_ifV h h1 fun hb => st_next (h2 hb))
theorem st_dropV (h : EVX K te ρ Pd) (q : P (.nx ρ)) : ST K Ex (tDrop te) ρ P := fun G0 H0 G H σ D E f =>
  h G0 H0 G H σ _ E fun d v G' H' p x hd => f.nx _ _ G' H' q (E.go x)
theorem st_appendV {n : Nat} {ds : List D} (hi : ρ[n]? = some (.ow (.list ds))) (h : EVX K te ρ Pd) (hz : ds.length < 16000000) (q : ∀ d, Pd d → P (.nx (ρ.set n (.ow (.list (ds ++ [d])))))) :
    ST K Ex (tDrop (tBM K "list" rAppend (tVar n) (tCons te tNil))) ρ P := fun G0 H0 G H σ D E f => by
  obtain ⟨l, vs, h1, h2, h3, h0⟩ := own_lookG E hi
  refine ⟨_, h1, .inl ⟨rfl, vs, SqL.of h2⟩, h G0 H0 G H σ _ E fun d v G1 H1 p e1 hv => ?_⟩
  exact ⟨l, vs, v, rfl, rfl, e1.at h0 h2, by rw [h3.length, sizeLine_eq]; omega, f.nx _ _ _ _ (q d p) ((E.go e1).write hi h1 (.lst upd_same ((h3.mono e1.g).append (.one hv))))⟩
/-! loops -/
theorem eix_of {wi : TI} {n : Nat} {item : Nat → D} {Pi : Nat → (Nat → D) → Prop} (h : EI K wi ρ n item) (p : Pi n item) : EIX K wi ρ Pi := fun G0 H0 G H σ R E q => h G0 H0 G H σ R E fun J G' H' Gd Y => q n item J G' H' Gd Y p
theorem eix_rng1 {t : TA} (h : EAX K t ρ Pl) {Pi : Nat → (Nat → D) → Prop} (k : ∀ ds, Pl ds → ∃ n : Int, ds = [.int n] ∧ -(2 ^ 62) ≤ n ∧ n < 2 ^ 62 ∧ Pi n.toNat (fun i => .int (i : Nat))) : EIX K (iRng1 t) ρ Pi := fun G0 H0 G H σ R E q =>
  h G0 H0 G H σ _ E fun ds vs G' H' p x hd => by
    obtain ⟨n, rfl, h1, h2, pi⟩ := k ds p
    cases hd with
    | cons a b =>
      cases b
      cases a
      refine ⟨n, rfl, h1, h2, q _ _ _ G' H' _ _ pi x walk_range (fun _ _ _ _ => trivial) fun i G2 H2 y H3 _ _ g hy => ?_⟩
      obtain ⟨rfl, rfl⟩ := hy
      refine ⟨G2, .refl g, ?_⟩
      show Dq K G2 (.int (0 + (i : Nat))) (.int (i : Nat))
      rw [Int.zero_add]
      exact .int _
theorem st_forV {wi : TI} {g : TG} {Pi : Nat → (Nat → D) → Prop} (hi : EIX K wi ρ Pi)
    (hI : ∀ n item, Pi n item → ∃ I : Nat → List Sl → Prop, I 0 ρ ∧ (∀ i ρ1, i < n → I i ρ1 → ∃ ρ2 ts, GT K g ρ1 (item i) ρ2 ts ∧ ST K Ex t ρ2 (loopP (I (i + 1)) P)) ∧ ∀ ρ1, I n ρ1 → P (.nx ρ1)) : ST K Ex (tFor wi g t) ρ P := fun G0 H0 G H σ D E f =>
  hi G0 H0 G H σ _ E fun n item J G1 H1 Gd Y p x w hG hY => by
    obtain ⟨I, h0, hs, hd⟩ := hI n item p
    have E1 := E.go x
    refine for_it w (fun i σ' H' => ∃ G' ρ', En K G1 H0 G' H' σ' ρ' ∧ I i ρ') ⟨G1, ρ, E1.re, h0⟩ (fun i σ' H' _ ⟨G', ρ', E', _⟩ => hG G' H' E'.ext.gg E'.gh) (fun i y σ' H' H3 hi ⟨G', ρ', E', p⟩ hy => ?_) (fun σ' H' ⟨G', ρ', E', p⟩ => f.nx ρ' σ' G' H' (hd ρ' p) (E'.back E1.ext))
    obtain ⟨G3, x3, hdq⟩ := hY i G' H' y H3 hi E'.ext.gg E'.gh hy
    obtain ⟨ρ2, ts, hg, hb⟩ := hs i ρ' hi p
    exact hg G1 H0 G3 H3 σ' y _ (E'.go x3) hdq fun σ2 E2 _ _ => hb G1 H0 G3 H3 σ2 _ E2 ⟨fun ρ4 σ4 G4 H4 p4 E4 => ⟨G4, ρ4, E4, p4⟩,
      fun d v G4 H4 p4 x4 hd4 => f.rt d v G4 H4 p4 (E1.ext.back x4) hd4, fun ρ4 σ4 G4 H4 p4 E4 => f.nx ρ4 σ4 G4 H4 p4 (E4.back E1.ext), fun ρ4 σ4 G4 H4 p4 E4 => ⟨G4, ρ4, E4, p4⟩,
      fun C fl dd fs G4 H4 p4 x4 h1 h2 => f.ex C fl dd fs G4 H4 p4 (E1.ext.back x4) h1 h2⟩
end
end DL

set_option maxHeartbeats 1000000
/-! DL20: a list [int, list of ints, int, int] that defs change (stD), lists of ints that defs change (opD); abs, max, min; sorted lists of ints. -/
namespace DL
open PySem PySem.Spec PyProof.Rows L2
theorem GH.only {H : Hp} (h : Only H) : GH H H := GH.refl fun a u e => by
  rcases h a with z | ⟨o, xs, z⟩
  · rw [z] at e
    cases e
  · rw [z] at e
    cases e
    rfl
theorem b_abs : bootBuiltins "abs" = some (.builtin "abs") := by decide +kernel
theorem b_max : bootBuiltins "max" = some (.builtin "max") := by decide +kernel
theorem b_min : bootBuiltins "min" = some (.builtin "min") := by decide +kernel
theorem b_zip : bootBuiltins "zip" = some (.type "zip") := by decide +kernel
def rAbs : List V → Hp → VK → Prop := fun xs H Q => ∃ i, xs = [.int i] ∧ Q (.int (if i < 0 then -i else i)) H
def rMax2 : List V → Hp → VK → Prop := fun xs H Q => ∃ i j, xs = [.int i, .int j] ∧ Q (.int (if j > i then j else i)) H
def rMin2 : List V → Hp → VK → Prop := fun xs H Q => ∃ i j, xs = [.int i, .int j] ∧ Q (.int (if j < i then j else i)) H
theorem call_absI {X : Cx} : CallR X (.builtin "abs") rAbs := call_abs
theorem call_maxI {X : Cx} (hc : X.calm = true) : CallR X (.builtin "max") rMax2 := call_max2 hc
theorem call_minI {X : Cx} (hc : X.calm = true) : CallR X (.builtin "min") rMin2 := call_min2 hc
section
variable {K : PySem.W.Frag}
theorem cd_abs {i : Int} : CD K rAbs [.int i] (.int (if i < 0 then -i else i)) := fun xs G H Q g hx q => by
  cases hx with
  | cons a b => cases a; cases b; exact ⟨i, rfl, q _ G H (.refl g) (.int _)⟩
theorem cd_max {i j : Int} : CD K rMax2 [.int i, .int j] (.int (max i j)) := fun xs G H Q g hx q => by
  cases hx with
  | cons a b =>
    cases a
    cases b with
    | cons a b =>
      cases a; cases b
      have e : (if j > i then j else i) = max i j := by split <;> omega
      exact ⟨i, j, rfl, by rw [e]; exact q _ G H (.refl g) (.int _)⟩
theorem cd_min {i j : Int} : CD K rMin2 [.int i, .int j] (.int (min i j)) := fun xs G H Q g hx q => by
  cases hx with
  | cons a b =>
    cases a
    cases b with
    | cons a b =>
      cases a; cases b
      have e : (if j < i then j else i) = min i j := by split <;> omega
      exact ⟨i, j, rfl, by rw [e]; exact q _ G H (.refl g) (.int _)⟩
theorem ints_dq {G : Hp} : ∀ {ns : List Int} {vs : List V}, DqA K G vs (ns.map PyData.int) → vs = ns.map V.int
  | [], _, h => by cases h; rfl
  | n :: ns, _, h => by
    cases h with
    | cons a b => cases a; rw [ints_dq b]; rfl
theorem dq_ints {G : Hp} : ∀ ns : List Int, DqA K G (ns.map V.int) (ns.map PyData.int)
  | [] => .nil
  | n :: ns => .cons (.int n) (dq_ints ns)
end
section
variable {K : PySem.W.Frag} {ρ : List Sl} {Ex : XK} {ta tb te : TE} {tt : TT} {u : TS} {d : D} {P : Oc → Prop} {Pd : D → Prop} {Pl : List D → Prop}
/-- sorted of a list of ints -/
theorem evnx_sortI {t : TA} (h : EAX K t ρ Pl) (k : ∀ ds, Pl ds → ∃ ns : List Int, ds = [.list (ns.map PyData.int)] ∧ ns.length < 64 ∧ ∀ ms : List Int, ms.Perm ns → ms.Pairwise (· ≤ ·) → Pd (.list (ms.map PyData.int))) : EVNX K (tCB (rSorted K) t) ρ Pd := fun G0 H0 G H σ Q E q =>
  h G0 H0 G H σ _ E fun ds vs G1 H1 p e1 h1 => by
    obtain ⟨ns, rfl, hl, pd⟩ := k ds p
    cases h1 with
    | cons a b =>
      cases b
      cases a with
      | @lst a xs _ ha hr =>
        have := ints_dq hr
        subst this
        exact ⟨a, ns, rfl, SqL.of (e1.gh.lst ha), hl, fun ms p hp hw hn => q _ p G1 _ (pd ms hp hw) (e1.trans (.fresh e1.gh hn)) (e1.gone hn) (e1.gh.none hn) (.lst upd_same (dq_ints ms))⟩
/-! ### marks -/
abbrev stD : D := .dict [(.bool true, .none)]
abbrev opD (a : Addr) : D := .dict [(.bool false, .int ((a : Nat) : Int))]
abbrev rwD (a : Addr) : D := .dict [(.bool true, .int ((a : Nat) : Int))]
theorem st_inv {G : Hp} {v : V} (h : Dq K G v stD) : ∃ l r, v = .ref l ∧ G l = some (.own r) ∧ G r = some (.rng 0 0) := by
  replace h : Dq K G v (.dict [(.bool true, .none)]) := h
  generalize e : [(PyData.bool true, PyData.none)] = ls at h
  cases h with
  | dK a b =>
    cases b with
    | nil => cases e
    | cons a b =>
      injection e with e1 _
      injection e1 with e1 _
      exact (kD_bool e1.symm).elim
  | dT a b => injection e with e1 _; injection e1 with e1 _; cases e1
  | scr a => injection e with e1 _; injection e1 with e1 _; cases e1
  | sta a b => exact ⟨_, _, rfl, a, b⟩
  | opq a => injection e with e1 _; injection e1 with e1 _; cases e1
  | raw a => injection e with e1 _; injection e1 with _ e1; cases e1
theorem op_inv {G : Hp} {v : V} {l : Addr} (h : Dq K G v (opD l)) : ∃ lo, v = .ref l ∧ G l = some (.rng lo 1) := by
  replace h : Dq K G v (.dict [(.bool false, .int ((l : Nat) : Int))]) := h
  generalize e : [(PyData.bool false, PyData.int ((l : Nat) : Int))] = ls at h
  cases h with
  | dK a b =>
    cases b with
    | nil => cases e
    | cons a b =>
      injection e with e1 _
      injection e1 with e1 _
      exact (kD_bool e1.symm).elim
  | dT a b => injection e with e1 _; injection e1 with e1 _; cases e1
  | scr a => injection e with e1 _; injection e1 with e1 _; cases e1
  | sta a b => injection e with e1 _; injection e1 with e1 _; cases e1
  | opq a =>
    injection e with e1 _
    injection e1 with _ e1
    injection e1 with e1
    have e1 := Int.ofNat.inj e1
    subst e1
    exact ⟨_, rfl, a⟩
  | raw a => injection e with e1 _; injection e1 with e1 _; cases e1
theorem mk_at {G H : Hp} (g : GH G H) {a : Addr} {u : HO} (h : G a = some u) (hm : isMk u = true) : stH u H a := by
  rcases g a u h with ⟨_, z⟩ | ⟨d, _⟩ | z
  · rw [hm] at z
    cases z
  · cases u <;> first | (cases d; done) | (cases hm; done)
  · exact z
theorem st_at {G H : Hp} (g : GH G H) {l r : Addr} (h : G l = some (.own r)) (k : G r = some (.rng 0 0)) : ∃ (x y z : Int) (ns : List Int), H l = some (.lst [.int x, .ref r, .int y, .int z]) ∧ H r = some (.lst (ns.map V.int)) := by
  obtain ⟨x, y, z, e⟩ := mk_at g h rfl
  obtain ⟨ns, e2, _⟩ := mk_at g k rfl
  exact ⟨x, y, z, ns, e, e2⟩
theorem Ext.wr {G H : Hp} {a : Addr} {u o : HO} (g : GH G H) (hm : G a = some u) (mk : isMk u = true) (h : stH u (upd H a o) a) : Ext G H G (upd H a o) := by
  refine ⟨fun _ _ z => z, fun b w e => ?_, fun b w e => ?_, fun _ _ _ _ n => n⟩
  · by_cases hb : b = a
    · exact .inr ⟨u, by rw [hb]; exact hm, mk⟩
    · exact .inl (by rw [upd_ne hb]; exact e)
  · by_cases hb : b = a
    · subst hb
      rw [hm] at e
      cases e
      exact .inr (.inr h)
    · exact (g b w e).eq (upd_ne hb)
/-- s[0], s[2], s[3] -/
theorem evx_stI {k : Int} (h : EV K ta ρ stD) (hb : EV K tb ρ (.int k)) (hk : k = 0 ∨ k = 2 ∨ k = 3) (p : ∀ i : Int, Pd (.int i)) : EVX K (tOp (rIx K) ta tb) ρ Pd := fun G0 H0 G H σ Q E q =>
  h G0 H0 G H σ _ E fun v G1 H1 e1 h1 => hb G0 H0 G1 H1 σ _ (E.go e1) fun w G2 H2 e2 h2 => by
    cases h2
    obtain ⟨l, r, rfl, a1, a2⟩ := st_inv (h1.mono e2.g)
    obtain ⟨x, y, z, ns, b1, b2⟩ := st_at e2.gh a1 a2
    refine .inl ⟨l, _, k, .int (if k = 0 then x else if k = 2 then y else z), rfl, rfl, SqL.of b1, ?_, q _ _ _ _ (p _) (e1.trans e2) (.int _)⟩
    rcases hk with rfl | rfl | rfl <;> rfl
/-- if s[0] == 0 and len(s[1]) > 0: s[0] = s[1].pop(0) -/
theorem st_stPop {n : Nat} (hi : ρ[n]? = some (.fr stD)) (q : P (.nx ρ)) :
    ST K Ex (tIfS (tAnd (tTest (tOp (rEqU K) (tOp (rIx K) (tVar n) (tC (.int 0))) (tC (.int 0)))) (tTest (tOp rGtU (tCB (rLen K) (tCons (tOp (rIx K) (tVar n) (tC (.int 1))) tNil)) (tC (.int 0))))) (tAsg (tBM K "list" rPopAt (tOp (rIx K) (tVar n) (tC (.int 1))) (tCons (tC (.int 0)) tNil)) (gSub (tVar n) (tC (.int 0)) rSetL)) tNext) ρ P := fun G0 H0 G H σ D E f => by
  obtain ⟨v, h1, h2⟩ := E.fr n _ hi
  obtain ⟨l, r, rfl, a1, a2⟩ := st_inv h2
  obtain ⟨x, y, z, ns, b1, b2⟩ := st_at E.gh a1 a2
  have hlr : l ≠ r := fun e => by
    rw [e, a2] at a1
    cases a1
  -- the test: s[0] == 0
  refine ⟨_, h1, .inl ⟨l, _, 0, .int x, rfl, rfl, SqL.of b1, rfl, .inl ⟨rfl, decide (x = 0), congrArg V.bl (by rw [dec_int, Bool.eq_iff_iff]; simp), ?_⟩⟩⟩
  by_cases hx : x = 0
  · rw [decide_eq_true hx]
    dsimp only
    rw [if_pos rfl]
    refine ⟨_, h1, .inl ⟨l, _, 1, .ref r, rfl, rfl, SqL.of b1, rfl, _, _, rfl, .inl ⟨_, SqL.of b2, rfl⟩, .inl ⟨_, _, rfl, rfl, _, rfl, ?_⟩⟩⟩
    dsimp only
    by_cases hn : (0 : Int) < ((ns.map V.int).length : Nat)
    · rw [if_pos (decide_eq_true hn)]
      cases ns with
      | nil => exact absurd hn (by decide)
      | cons m ms =>
        refine ⟨_, h1, .inl ⟨l, _, 1, .ref r, rfl, rfl, SqL.of b1, rfl, .inl ⟨rfl, _, SqL.of b2⟩, ?_⟩⟩
        refine ⟨r, _, 0, 0, .int m, rfl, rfl, b2, by decide, by decide, by simp [seqIndex?], rfl, ?_⟩
        have x1 : Ext G H G (upd H r (.lst ((V.int m :: ms.map V.int).eraseIdx 0))) := Ext.wr E.gh a2 rfl ⟨ms, upd_same, fun z => by cases z⟩
        have E1 := E.go x1
        refine ⟨_, h1, l, _, 0, 0, rfl, rfl, (upd_ne hlr).trans b1, rfl, ?_⟩
        have x2 : Ext G _ G (upd (upd H r (.lst ((V.int m :: ms.map V.int).eraseIdx 0))) l (.lst ([V.int x, .ref r, .int y, .int z].set 0 (.int m)))) := Ext.wr E1.gh a1 rfl ⟨m, y, z, upd_same⟩
        exact f.nx ρ σ G _ q (E1.go x2)
    · rw [if_neg (by rw [decide_eq_true_eq]; exact hn)]
      exact f.nx ρ σ G H q E
  · rw [decide_eq_false hx]
    simp only [Bool.false_eq_true, if_false]
    exact f.nx ρ σ G H q E
/-- s[k] = e -/
theorem st_stSet {n : Nat} {k : Int} (hi : ρ[n]? = some (.fr stD)) (hk : k = 0 ∨ k = 2 ∨ k = 3) (h : EVX K te ρ Pd) (hd : ∀ d, Pd d → ∃ i : Int, d = .int i) (q : P (.nx ρ)) : ST K Ex (tAsg te (gSub (tVar n) (tC (.int k)) rSetL)) ρ P := fun G0 H0 G H σ D E f =>
  h G0 H0 G H σ _ E fun d v G1 H1 p e1 hv => by
    obtain ⟨i, rfl⟩ := hd d p
    cases hv
    have E1 := E.go e1
    obtain ⟨v, h1, h2⟩ := E1.fr n _ hi
    obtain ⟨l, r, rfl, a1, a2⟩ := st_inv h2
    obtain ⟨x, y, z, ns, b1, b2⟩ := st_at E1.gh a1 a2
    refine ⟨_, h1, l, _, k, k.toNat, rfl, rfl, b1, by rcases hk with rfl | rfl | rfl <;> rfl, f.nx ρ σ G1 _ q (E1.go (Ext.wr E1.gh a1 rfl ?_))⟩
    rcases hk with rfl | rfl | rfl
    · exact ⟨i, y, z, upd_same⟩
    · exact ⟨x, i, z, upd_same⟩
    · exact ⟨x, y, i, upd_same⟩
end
end DL

set_option maxHeartbeats 1000000
/-! DL21: such lists made, asked, lengthened. -/
namespace DL
open PySem PySem.Spec PyProof.Rows L2
def rGetN (K : PySem.W.Frag) : V → V → Hp → VK → Prop := fun x y H Q => ∃ p xs, ∃ i : Nat, ∃ v, x = .ref p ∧ y = .int (i : Int) ∧ SqL K H p xs ∧ xs[i]? = some v ∧ Q v H
theorem get_ixN {X : Cx} : PGet X (rGetN X.K) := by
  intro pins s σ H o i ov iv Q I ro ri h
  obtain ⟨p, xs, k, v, rfl, rfl, hq, hv, q⟩ := h
  cases ro
  obtain ⟨t, rfl⟩ := ri
  obtain ⟨its, r, pl, hz⟩ := I.list hq
  obtain ⟨w, ew, rw'⟩ := r.get hv
  have hl := r.length
  have hk : k < xs.length := (List.getElem?_eq_some_iff.mp hv).1
  have hn := line63
  exact wpAny_getItem_list pl.isList (Int.natCast_nonneg k) (by omega) (by rw [Int.toNat_natCast]; simpa using ew) ⟨v, H, I, rw', q⟩
theorem inV_int {x : Int} : ∀ ns : List Int, inV (.int x) (ns.map V.int) = decide (x ∈ ns)
  | [] => rfl
  | n :: ns => by
    have ih := inV_int (x := x) ns
    unfold inV at ih ⊢
    rw [List.map_cons, List.any_cons, ih, Bool.eq_iff_iff]
    show ((n == x) || decide (x ∈ ns)) = true ↔ _
    rw [Bool.or_eq_true, decide_eq_true_eq, decide_eq_true_eq, List.mem_cons, beq_iff_eq]
    exact ⟨fun h => h.imp Eq.symm id, fun h => h.imp Eq.symm id⟩
theorem okL.len {lo : Int} {ns : List Int} (h : okL lo ns) : ns.length ≤ 5010001 := by
  obtain ⟨h0, h1, h2, h3⟩ := h
  have h4 : (ns.drop lo.toNat).length ≤ 10001 := by
    have := nodup_le (l := ns.drop lo.toNat) (m := (List.range 10001).map Int.ofNat) h2 fun x hx => by
      obtain ⟨a, b⟩ := h3 x hx
      exact List.mem_map.mpr ⟨x.toNat, List.mem_range.mpr (by omega), by show ((x.toNat : Nat) : Int) = x; omega⟩
    rw [List.length_map, List.length_range] at this
    exact this
  rw [List.length_drop] at h4
  omega
theorem okL.push {lo : Int} {ns : List Int} {x : Int} (h : okL lo ns) (hl : lo.toNat ≤ ns.length ∨ True) (hx : 0 ≤ x ∧ x ≤ 10000) (hn : x ∉ ns) : okL lo (ns ++ [x]) := by
  obtain ⟨h0, h1, h2, h3⟩ := h
  refine ⟨h0, h1, ?_, fun n hm => ?_⟩
  · rw [List.drop_append]
    refine List.nodup_append.mpr ⟨h2, (List.nodup_cons.mpr ⟨fun h => (by cases h), List.nodup_nil⟩ : [x].Nodup).sublist (List.drop_sublist _ _), fun a ha b hb e => hn ?_⟩
    have hb := List.mem_of_mem_drop hb
    rw [List.mem_singleton.mp hb] at e
    rw [← e]
    exact List.mem_of_mem_drop ha
  · rw [List.drop_append] at hm
    rcases List.mem_append.mp hm with m | m
    · exact h3 n m
    · rw [List.mem_singleton.mp (List.mem_of_mem_drop m)]
      exact hx
section
variable {K : PySem.W.Frag} {ρ : List Sl} {Ex : XK} {ta tb te tl : TE} {tt : TT} {t u : TS} {d : D} {P : Oc → Prop} {Pd : D → Prop} {Pl : List D → Prop}
/-- a new list is marked -/
theorem Ext.mkNew {G H : Hp} {p : Addr} {u o : HO} (g : GH G H) (h : H p = none) (hs : stH u (upd H p o) p) : Ext G H (upd G p u) (upd H p o) := by
  refine ⟨fun a w e => ?_, fun a w e => .inl ?_, fun a w r => ?_, fun a w e _ n => ?_⟩
  · rw [upd_ne (ne_of_none e (g.none h))]; exact e
  · rw [upd_ne (ne_of_none e h)]; exact e
  · by_cases ha : a = p
    · subst ha
      rw [upd_same] at r
      cases r
      exact .inr (.inr hs)
    · rw [upd_ne ha] at r
      exact (g a w r).eq (upd_ne ha)
  · rw [upd_ne (ne_of_none e h)]; exact n
theorem evx_opNew : EVX K (tLst tNil) ρ (fun d => ∃ a, d = opD a) := fun G0 H0 G H σ Q E q => ⟨Nat.zero_le _, fun p hp => q _ _ _ _ ⟨p, rfl⟩ (Ext.mkNew (u := .rng 0 1) E.gh hp ⟨[], upd_same, fun _ => ⟨by decide, by decide, List.nodup_nil, fun n h => (by cases h)⟩⟩) (.opq upd_same)⟩
theorem ev_stNew {a c s : Int} (h : EVNX K tl ρ fun d => ∃ ns : List Int, d = .list (ns.map PyData.int)) (hb : EV K tb ρ (.int s)) : EV K (tLst (tCons (tC (.int a)) (tCons tl (tCons tb (tCons (tC (.int c)) tNil))))) ρ stD := fun G0 H0 G H σ Q E q =>
  h G0 H0 G H σ _ E fun d r G1 H1 p e1 hr hrG ho => by
    obtain ⟨ns, rfl⟩ := p
    cases ho with
    | @lst us _ hl hq =>
      have := ints_dq hq
      subst this
      refine hb G0 H0 G1 H1 σ _ (E.go e1) fun v G2 H2 e2 h2 => ?_
      cases h2
      refine ⟨by show 4 ≤ sizeLine; rw [sizeLine_eq]; decide, fun p hp => ?_⟩
      have hl2 := e2.at hrG hl
      have hrG2 := e2.own _ _ hl rfl hrG
      have hpr : r ≠ p := fun z => by rw [z, hp] at hl2; cases hl2
      have e12 := e1.trans e2
      have hpG : G2 p = none := e2.gh.none hp
      let G3 : Hp := upd (upd G2 r (.rng 0 0)) p (.own r)
      have g3r : G3 r = some (.rng 0 0) := (upd_ne hpr).trans upd_same
      have x : Ext G H G3 (upd H2 p (.lst [.int a, .ref r, .int s, .int c])) := by
        refine ⟨fun b w z => ?_, fun b w z => ?_, fun b w z => ?_, fun b w z t n => ?_⟩
        · have z2 := e12.gg b w z
          show upd (upd G2 r (.rng 0 0)) p (.own r) b = _
          rw [upd_ne (ne_of_none z2 hpG), upd_ne (ne_of_none z2 hrG2)]
          exact z2
        · rw [upd_ne (ne_of_none z (e12.gone hp))]
          exact e12.hh b w z
        · by_cases hbp : b = p
          · subst hbp
            have : G3 b = some (.own r) := upd_same
            rw [this] at z
            cases z
            exact .inr (.inr ⟨a, s, c, upd_same⟩)
          · have z2 : upd G2 r (.rng 0 0) b = some w := (upd_ne hbp).symm.trans z
            by_cases hbr : b = r
            · subst hbr
              rw [upd_same] at z2
              cases z2
              exact .inr (.inr ⟨ns, (upd_ne hbp).trans hl2, fun z => by cases z⟩)
            · rw [upd_ne hbr] at z2
              exact (e2.gh b w z2).eq (upd_ne hbp)
        · show upd (upd G2 r (.rng 0 0)) p (.own r) b = _
          rw [upd_ne (ne_of_none z (e12.gone hp)), upd_ne (ne_of_none z hr)]
          exact e12.own b w z t n
      exact q _ _ _ x (.sta upd_same g3r)
/-- s[3] += e -/
theorem st_stAug {n : Nat} {i : Int} (hi : ρ[n]? = some (.fr stD)) (q : P (.nx ρ)) : ST K Ex (tAugS (tVar n) (tC (.int 3)) (tC (.int i)) (rGetN K) rIAddU rSetL) ρ P := fun G0 H0 G H σ D E f => by
  obtain ⟨v, h1, h2⟩ := E.fr n _ hi
  obtain ⟨l, r, rfl, a1, a2⟩ := st_inv h2
  obtain ⟨x, y, z, ns, b1, b2⟩ := st_at E.gh a1 a2
  refine ⟨_, h1, l, _, 3, .int z, rfl, rfl, SqL.of b1, rfl, .inl ⟨z, i, rfl, rfl, l, _, 3, 3, rfl, rfl, b1, rfl, f.nx ρ σ G _ q (E.go (Ext.wr E.gh a1 rfl ⟨x, y, z + i, upd_same⟩))⟩⟩
theorem rd_ix {σ : L2.St} {H : Hp} {a : Addr} {n : Nat} {xs : List V} {k : Int} {v : V} {Q : VK} (hs : σ[n]? = some (some (.ref a))) (ha : H a = some (.lst xs)) (e : atI xs k = some v) (q : Q v H) : (tOp (rIx K) (tVar n) (tC (.int k))) σ H Q := ⟨_, hs, .inl ⟨a, xs, k, v, rfl, rfl, SqL.of ha, e, q⟩⟩
theorem rd_in {σ : L2.St} {H : Hp} {l : Addr} {q : Nat} {x : Int} {ns : List Int} {Q : Bool → Hp → Prop} {te : TE} (h : ∀ Q : VK, Q (.int x) H → te σ H Q) (hs : σ[q]? = some (some (.ref l))) (hl : H l = some (.lst (ns.map V.int))) (k : Q (decide (x ∈ ns)) H) : (tTest (tOp (rInU K) te (tVar q))) σ H Q :=
  h _ ⟨_, hs, .inl ⟨l, _, rfl, .inl (SqL.of hl), rfl, by rw [List.all_map]; exact List.all_eq_true.mpr fun _ _ => rfl, _, rfl, by
    show Q (inV (.int x) (ns.map V.int)) H
    rw [inV_int]; exact k⟩⟩
/-- xs.append(x), x not in it -/
theorem rd_app {σ : L2.St} {G H : Hp} {l : Addr} {q : Nat} {x lo : Int} {ns : List Int} {te : TE} {D : Ends} (g : GH G H) (h : ∀ Q : VK, Q (.int x) H → te σ H Q) (hs : σ[q]? = some (some (.ref l))) (hG : G l = some (.rng lo 1)) (hl : H l = some (.lst (ns.map V.int))) (ok : okL lo ns) (hx : 0 ≤ x ∧ x ≤ 10000) (hn : x ∉ ns)
    (k : okL lo (ns ++ [x]) → Ext G H G (upd H l (.lst ((ns ++ [x]).map V.int))) → D.nx σ (upd H l (.lst ((ns ++ [x]).map V.int)))) : (tDrop (tBM K "list" rAppend (tVar q) (tCons te tNil))) D σ H := by
  have ok2 := ok.push (.inr trivial) hx hn
  refine ⟨_, hs, .inl ⟨rfl, _, SqL.of hl⟩, h _ ⟨l, _, _, rfl, rfl, hl, by have := ok.len; rw [List.length_map, sizeLine_eq]; omega, ?_⟩⟩
  rw [show ns.map V.int ++ [V.int x] = (ns ++ [x]).map V.int by rw [List.map_append]; rfl]
  exact k ok2 (Ext.wr g hG rfl ⟨_, upd_same, fun _ => ok2⟩)
/-- if x < e and (not strict or x not in q): q.append(x); .. -/
theorem st_opIf {x e str q : Nat} {xv ev : Int} {l : Addr} (hx : ρ[x]? = some (.fr (.int xv))) (he : ρ[e]? = some (.fr (.int ev))) (hs : ρ[str]? = some (.fr (.bool true))) (hq : ρ[q]? = some (.fr (opD l))) (h0 : 0 ≤ xv ∧ xv ≤ 10000) (h1 : xv < ev → ST K Ex t ρ P) (h2 : P (.nx ρ)) :
    ST K Ex (tIfS (tAnd (tTest (tOp rLtU (tVar x) (tVar e))) (tOr (tNot (tTr K (tVar str))) (tTest (tOp (rNinU K) (tVar x) (tVar q))))) (tSeq (tDrop (tBM K "list" rAppend (tVar q) (tCons (tVar x) tNil))) t) tNext) ρ P := fun G0 H0 G H σ D E f => by
  obtain ⟨_, x1, x2⟩ := E.fr x _ hx
  cases x2
  obtain ⟨_, e1, e2⟩ := E.fr e _ he
  cases e2
  obtain ⟨_, s1, s2⟩ := E.fr str _ hs
  cases s2
  obtain ⟨_, q1, q2⟩ := E.fr q _ hq
  obtain ⟨lo, rfl, hG⟩ := op_inv q2
  obtain ⟨ns, hl, hok⟩ := mk_at E.gh hG rfl
  refine ⟨_, x1, _, e1, .inl ⟨xv, ev, rfl, rfl, _, rfl, ?_⟩⟩
  dsimp only
  by_cases hlt : xv < ev
  · rw [if_pos (decide_eq_true hlt)]
    refine ⟨_, s1, true, rfl, ?_⟩
    simp only [Bool.not_true, Bool.false_eq_true, if_false]
    refine ⟨_, x1, _, q1, .inl ⟨l, _, rfl, .inl (SqL.of hl), rfl, by rw [List.all_map]; exact List.all_eq_true.mpr fun _ _ => rfl, _, rfl, ?_⟩⟩
    rw [inV_int]
    by_cases hm : xv ∈ ns
    · rw [decide_eq_true hm]
      simp only [if_true, Bool.not_true, Bool.false_eq_true, if_false]
      exact f.nx ρ σ G H h2 E
    · rw [decide_eq_false hm]
      simp only [if_true, Bool.not_false]
      exact rd_app (D := { D with nx := t D }) E.gh (fun Q z => ⟨_, x1, z⟩) q1 hG hl (hok rfl) h0 hm fun ok2 x => h1 hlt G0 H0 G _ σ D (E.go x) f
  · rw [if_neg (by rw [decide_eq_true_eq]; exact hlt)]
    simp only [Bool.false_eq_true, if_false]
    exact f.nx ρ σ G H h2 E
/-- p, q = [], [] -/
theorem st_parOp {i j : Nat} (q : ∀ a b : Addr, a ≠ b → P (.nx ((ρ.set i (.fr (opD a))).set j (.fr (opD b))))) : ST K Ex (tPar i j (tCons (tLst tNil) (tCons (tLst tNil) tNil))) ρ P := fun G0 H0 G H σ D E f =>
  ⟨Nat.zero_le _, fun a ha => ⟨Nat.zero_le _, fun b hb => by
    have x1 : Ext G H (upd G a (.rng 0 1)) (upd H a (.lst [])) := Ext.mkNew E.gh ha ⟨[], upd_same, fun _ => ⟨by decide, by decide, List.nodup_nil, fun n h => (by cases h)⟩⟩
    have x2 : Ext _ (upd H a (.lst [])) (upd (upd G a (.rng 0 1)) b (.rng 0 1)) (upd (upd H a (.lst [])) b (.lst [])) := Ext.mkNew x1.gh hb ⟨[], upd_same, fun _ => ⟨by decide, by decide, List.nodup_nil, fun n h => (by cases h)⟩⟩
    have ne : a ≠ b := fun z => by
      rw [← z, upd_same] at hb
      cases hb
    refine ⟨_, _, rfl, ?_⟩
    have d1 : Dq K (upd (upd G a (.rng 0 1)) b (.rng 0 1)) (.ref a) (opD a) := .opq ((upd_ne ne).trans upd_same)
    exact f.nx _ _ _ _ (q a b ne) (((E.go (x1.trans x2)).setF i d1).setF j (.opq upd_same))⟩⟩
/-- the law's mill: where one of the four stands already, back with t; else the four are put in -/
theorem st_mill {x y p q : Nat} {x0 x1 y0 y1 : Int} {l m : Addr} (hx : ρ[x]? = some (.fr (.list [.int x0, .int x1]))) (hy : ρ[y]? = some (.fr (.list [.int y0, .int y1]))) (hp : ρ[p]? = some (.fr (opD l))) (hq : ρ[q]? = some (.fr (opD m))) (hlm : l ≠ m)
    (bx : (0 ≤ x0 ∧ x0 ≤ 10000) ∧ (0 ≤ x1 ∧ x1 ≤ 10000) ∧ x0 ≠ x1) (bym : (0 ≤ y0 ∧ y0 ≤ 10000) ∧ (0 ≤ y1 ∧ y1 ≤ 10000) ∧ y0 ≠ y1) (h1 : ST K Ex t ρ (seqP K Ex (tSeq (tDrop (tBM K "list" rAppend (tVar p) (tCons (tOp (rIx K) (tVar x) (tC (.int 0))) tNil))) (tSeq (tDrop (tBM K "list" rAppend (tVar p) (tCons (tOp (rIx K) (tVar x) (tC (.int 1))) tNil)))
      (tSeq (tDrop (tBM K "list" rAppend (tVar q) (tCons (tOp (rIx K) (tVar y) (tC (.int 0))) tNil))) (tSeq (tDrop (tBM K "list" rAppend (tVar q) (tCons (tOp (rIx K) (tVar y) (tC (.int 1))) tNil))) u)))) P)) (h2 : ST K Ex u ρ P) :
    ST K Ex (tSeq (tIfS (tOr (tTest (tOp (rInU K) (tOp (rIx K) (tVar x) (tC (.int 0))) (tVar p))) (tOr (tTest (tOp (rInU K) (tOp (rIx K) (tVar x) (tC (.int 1))) (tVar p))) (tOr (tTest (tOp (rInU K) (tOp (rIx K) (tVar y) (tC (.int 0))) (tVar q))) (tTest (tOp (rInU K) (tOp (rIx K) (tVar y) (tC (.int 1))) (tVar q)))))) t tNext)
      (tSeq (tDrop (tBM K "list" rAppend (tVar p) (tCons (tOp (rIx K) (tVar x) (tC (.int 0))) tNil))) (tSeq (tDrop (tBM K "list" rAppend (tVar p) (tCons (tOp (rIx K) (tVar x) (tC (.int 1))) tNil)))
      (tSeq (tDrop (tBM K "list" rAppend (tVar q) (tCons (tOp (rIx K) (tVar y) (tC (.int 0))) tNil))) (tSeq (tDrop (tBM K "list" rAppend (tVar q) (tCons (tOp (rIx K) (tVar y) (tC (.int 1))) tNil))) u))))) ρ P := fun G0 H0 G H σ D E f => by
  obtain ⟨_, x1', x2⟩ := E.fr x _ hx
  obtain ⟨_, y1', y2⟩ := E.fr y _ hy
  cases x2 with
  | @lst ax xs _ hax hxs =>
  cases y2 with
  | @lst ay ys _ hay hys =>
  have ex : xs = [V.int x0, V.int x1] := ints_dq (ns := [x0, x1]) hxs
  have ey : ys = [V.int y0, V.int y1] := ints_dq (ns := [y0, y1]) hys
  subst ex
  subst ey
  have hax' := E.gh.lst hax
  have hay' := E.gh.lst hay
  obtain ⟨_, p1, p2⟩ := E.fr p _ hp
  obtain ⟨lo, rfl, hl⟩ := op_inv p2
  obtain ⟨ns, hl', hok⟩ := mk_at E.gh hl rfl
  obtain ⟨_, q1, q2⟩ := E.fr q _ hq
  obtain ⟨lo2, rfl, hm⟩ := op_inv q2
  obtain ⟨ms, hm', hok2⟩ := mk_at E.gh hm rfl
  have hok := hok rfl
  have hok2 := hok2 rfl
  have axl : ax ≠ l := fun z => by rw [z, hl] at hax; cases hax
  have axm : ax ≠ m := fun z => by rw [z, hm] at hax; cases hax
  have ayl : ay ≠ l := fun z => by rw [z, hl] at hay; cases hay
  have aym : ay ≠ m := fun z => by rw [z, hm] at hay; cases hay
  have back := h1 G0 H0 G H σ { D with nx := _ } E ⟨fun ρ' σ' G' H' z E' => z G0 H0 G' H' σ' D E' f, f.rt, f.bk, f.ct, f.ex⟩
  have rx0 : ∀ {H' : Hp}, H' ax = some (.lst [.int x0, .int x1]) → ∀ Q : VK, Q (.int x0) H' → (tOp (rIx K) (tVar x) (tC (.int 0))) σ H' Q := fun h Q z => rd_ix x1' h rfl z
  have rx1 : ∀ {H' : Hp}, H' ax = some (.lst [.int x0, .int x1]) → ∀ Q : VK, Q (.int x1) H' → (tOp (rIx K) (tVar x) (tC (.int 1))) σ H' Q := fun h Q z => rd_ix x1' h rfl z
  have ry0 : ∀ {H' : Hp}, H' ay = some (.lst [.int y0, .int y1]) → ∀ Q : VK, Q (.int y0) H' → (tOp (rIx K) (tVar y) (tC (.int 0))) σ H' Q := fun h Q z => rd_ix y1' h rfl z
  have ry1 : ∀ {H' : Hp}, H' ay = some (.lst [.int y0, .int y1]) → ∀ Q : VK, Q (.int y1) H' → (tOp (rIx K) (tVar y) (tC (.int 1))) σ H' Q := fun h Q z => rd_ix y1' h rfl z
  refine rd_in (rx0 hax') p1 hl' ?_
  by_cases c0 : x0 ∈ ns
  · rw [decide_eq_true c0]
    simp only [if_true]
    exact back
  rw [decide_eq_false c0]
  simp only [Bool.false_eq_true, if_false]
  refine rd_in (rx1 hax') p1 hl' ?_
  by_cases c1 : x1 ∈ ns
  · rw [decide_eq_true c1]
    simp only [if_true]
    exact back
  rw [decide_eq_false c1]
  simp only [Bool.false_eq_true, if_false]
  refine rd_in (ry0 hay') q1 hm' ?_
  by_cases c2 : y0 ∈ ms
  · rw [decide_eq_true c2]
    simp only [if_true]
    exact back
  rw [decide_eq_false c2]
  simp only [Bool.false_eq_true, if_false]
  refine rd_in (ry1 hay') q1 hm' ?_
  by_cases c3 : y1 ∈ ms
  · rw [decide_eq_true c3]
    simp only [if_true]
    exact back
  rw [decide_eq_false c3]
  simp only [Bool.false_eq_true, if_false]
  refine rd_app E.gh (rx0 hax') p1 hl hl' hok bx.1 c0 fun k1 e1 => ?_
  refine rd_app e1.gh (rx1 ((upd_ne axl).trans hax')) p1 hl upd_same k1 bx.2.1 (fun z => ?_) fun k2 e2 => ?_
  · rcases List.mem_append.mp z with z | z
    · exact c1 z
    · exact bx.2.2 (List.mem_singleton.mp z).symm
  refine rd_app e2.gh (ry0 ((upd_ne ayl).trans ((upd_ne ayl).trans hay'))) q1 hm ((upd_ne hlm.symm).trans ((upd_ne hlm.symm).trans hm')) hok2 bym.1 c2 fun k3 e3 => ?_
  refine rd_app e3.gh (ry1 ((upd_ne aym).trans ((upd_ne ayl).trans ((upd_ne ayl).trans hay')))) q1 hm upd_same k3 bym.2.1 (fun z => ?_) fun k4 e4 => ?_
  · rcases List.mem_append.mp z with z | z
    · exact c3 z
    · exact bym.2.2 (List.mem_singleton.mp z).symm
  exact h2 G0 H0 G _ σ D ((((E.go e1).go e2).go e3).go e4) f
end
end DL

set_option maxHeartbeats 1000000
/-! DL22: sorted of a list of pairs of texts, of any length; d[x], x a pair of texts; zip; dict displays. -/
namespace DL
open PySem PySem.Spec PyProof.Rows L2
theorem IsPS.inj {h : Heap} {v : Value} {p q : Str × Str} (x : IsPS h v p) (y : IsPS h v q) : p = q := by
  obtain ⟨a, o, t, u, n, rfl, ho, _, hd⟩ := x
  obtain ⟨b, o', t', u', n', e, ho', _, hd'⟩ := y
  cases e
  rw [ho] at ho'
  cases ho'
  rw [hd] at hd'
  injection hd' with e _
  have e := congrArg Array.toList e
  injection e with e1 e2
  injection e2 with e2 _
  injection e1 with e1 _
  injection e2 with e2 _
  exact Prod.ext e1 e2
open Classical in
noncomputable def pk (h : Heap) (v : Value) : Str × Str := if hx : ∃ p, IsPS h v p then hx.choose else (Str.empty, Str.empty)
theorem pk_is {h : Heap} {v : Value} {p : Str × Str} (x : IsPS h v p) : pk h v = p := by
  have hx : ∃ p, IsPS h v p := ⟨p, x⟩
  unfold pk
  rw [dif_pos hx]
  exact hx.choose_spec.inj x
theorem ref_vals : ∀ {as : List Addr} {us : List Value}, Vals (as.map V.ref) us → us = as.map Value.ref
  | [], _, h => by cases h; rfl
  | a :: as, _, h => by
    cases h with
    | cons x r =>
      cases x
      rw [ref_vals r]
      rfl
def PairsQ (K : PySem.W.Frag) (H : Hp) (as : List Addr) (qs : List (Str × Str)) : Prop := Paired (fun b (q : Str × Str) => SqT K H b [.str q.1, .str q.2]) as qs
/-- sorted of a list of pairs of texts -/
def rSortLQ (K : PySem.W.Frag) : List V → Hp → VK → Prop := fun xs H Q => ∃ (a : Addr) (as : List Addr) (qs : List (Str × Str)), xs = [.ref a] ∧ SqL K H a (as.map V.ref) ∧ PairsQ K H as qs ∧
  ∀ (p : Addr) (zs : List (Addr × (Str × Str))), zs.Perm (as.zip qs) → zs.map (·.2) = srt ltQ qs → H p = none → Q (.ref p) (upd H p (.lst (zs.map fun z => V.ref z.1)))
theorem psq_is {X : Cx} {pins : List (Addr × Obj)} {σ : L2.St} {H : Hp} {s : Shared} (I : Inv X pins σ H s) {b : Addr} {q : Str × Str} (h : SqT X.K H b [.str q.1, .str q.2]) : IsPS s.heap (.ref b) q := by
  obtain ⟨its, r, ⟨o, ho, hc, n, hd⟩, _⟩ := I.tuple h
  obtain ⟨u1, u2, rfl, ri, rj⟩ := vals2 r
  obtain ⟨t1, rfl⟩ := ri
  obtain ⟨t2, rfl⟩ := rj
  exact ⟨b, o, t1, t2, _, rfl, ho, hc, by first | exact hd | simpa using hd⟩
theorem zip_pk {X : Cx} {pins : List (Addr × Obj)} {σ : L2.St} {H : Hp} {s : Shared} (I : Inv X pins σ H s) : ∀ {as : List Addr} {qs : List (Str × Str)}, PairsQ X.K H as qs → as.zip qs = as.map fun b => (b, pk s.heap (.ref b))
  | _, _, .nil => rfl
  | _, _, .cons h t => by
    rw [List.zip_cons_cons, List.map_cons, zip_pk I t, pk_is (psq_is I h)]
theorem map_pk {X : Cx} {pins : List (Addr × Obj)} {σ : L2.St} {H : Hp} {s : Shared} (I : Inv X pins σ H s) : ∀ {as : List Addr} {qs : List (Str × Str)}, PairsQ X.K H as qs → qs = as.map fun b => pk s.heap (.ref b)
  | _, _, .nil => rfl
  | _, _, .cons h t => by
    rw [List.map_cons, ← map_pk I t, pk_is (psq_is I h)]
theorem mem_pk {X : Cx} {pins : List (Addr × Obj)} {σ : L2.St} {H : Hp} {s : Shared} (I : Inv X pins σ H s) : ∀ {as : List Addr} {qs : List (Str × Str)}, PairsQ X.K H as qs → ∀ b ∈ as, IsPS s.heap (.ref b) (pk s.heap (.ref b))
  | _, _, .nil, _, h => by cases h
  | _, _, .cons h t, b, m => by
    rcases List.mem_cons.mp m with rfl | m
    · have := psq_is I h
      rw [pk_is this]
      exact this
    · exact mem_pk I t b m
def adV : Value → Addr
  | .ref a => a
  | _ => 0
theorem call_sortedLQ {X : Cx} : CallR X (.builtin "sorted") (rSortLQ X.K) := by
  intro pins s σ H xs us Q I r h
  obtain ⟨a, as, qs, rfl, hs, hp, q⟩ := h
  obtain ⟨u, rfl, rx⟩ := r.one
  cases rx
  obtain ⟨its, rv, hl, hz⟩ := I.list hs
  have ei := ref_vals rv
  subst ei
  have hzl : (as.map Value.ref).length ≤ sizeLine := by rw [List.length_map] at hz ⊢; exact hz
  have hP : ∀ v ∈ as.map Value.ref, IsPS s.heap v (pk s.heap v) := fun v hv => by
    obtain ⟨b, hb, rfl⟩ := List.mem_map.mp hv
    exact mem_pk I hp b hb
  refine SrtO.sorted_ord (stoQ.swo_of (pk s.heap)) hl.isList hzl (fun h2 h₁ b hb keep => ps_sortable (s := { s with heap := h₁ }) (by omega) (fun v hv => (hP v hv).keeps fun c o e _ => (keep c o e).2) fun o e => ?_) fun out hs' hb' => ?_
  · have e' := e.symm.trans hb
    cases e'
    intro c
    exact absurd (Value.type.inj c) (by decide)
  · have href : ∀ v ∈ out, v = Value.ref (adV v) := fun v hv => by
      obtain ⟨b, _, rfl⟩ := List.mem_map.mp (hb'.perm.mem_iff.mp hv)
      rfl
    obtain ⟨ep, he'⟩ := PyProof.Rows.sortedAll_at s.heap (as.map Value.ref) out.toArray
    have hlen : ((out.map fun v => (adV v, pk s.heap v)).map fun z => V.ref z.1).length ≤ sizeLine := by
      rw [List.length_map, List.length_map, hb'.perm.length_eq]
      exact hzl
    have hvals : Vals ((out.map fun v => (adV v, pk s.heap v)).map fun z => V.ref z.1) out := by
      have e : out = (out.map adV).map Value.ref := by
        rw [List.map_map]
        exact (List.map_id out).symm.trans (List.map_congr_left fun v hv => href v hv)
      have e2 : ((out.map fun v => (adV v, pk s.heap v)).map fun z => V.ref z.1) = (out.map adV).map V.ref := by rw [List.map_map, List.map_map]; rfl
      rw [e2]
      have := vals_refs (out.map adV)
      rw [← e] at this
      exact this
    refine ⟨.ref _, upd H (s.heap.objs.size + 1) (.lst ((out.map fun v => (adV v, pk s.heap v)).map fun z => V.ref z.1)), I.laid (t' := s.toks) (fun _ _ => PyProof.Rows.sortedAll_old) (Nat.le_succ _) ⟨hlen, out, ep, hvals, he'⟩, rfl, q _ _ ?_ ?_ (I.hok.fresh (Nat.le_succ _))⟩
    · rw [zip_pk I hp]
      have := hb'.perm.map fun v => (adV v, pk s.heap v)
      rw [List.map_map] at this
      exact this
    · rw [List.map_map]
      refine srt_uniq stoQ ?_ (List.pairwise_map.mpr hs')
      have := hb'.perm.map (pk s.heap)
      rw [List.map_map] at this
      rw [map_pk I hp]
      exact this
section
variable {K : PySem.W.Frag}
theorem pq_sqt {G H : Hp} (g : GH G H) : ∀ {qs : List (Str × Str)} {vs : List V}, DqA K G vs (qs.map pqD) → ∃ as : List Addr, vs = as.map V.ref ∧ PairsQ K H as qs ∧ ∀ z ∈ as.zip qs, Dq K G (.ref z.1) (pqD z.2)
  | [], _, h => by
    cases h
    exact ⟨[], rfl, .nil, fun z h => (by cases h)⟩
  | q :: qs, _, h => by
    cases h with
    | cons x r =>
      obtain ⟨as, rfl, hp, hz⟩ := pq_sqt g r
      obtain ⟨l, rfl, hl⟩ := ps_sq g x
      refine ⟨l :: as, rfl, .cons hl hp, fun z hz' => ?_⟩
      rw [List.zip_cons_cons] at hz'
      rcases List.mem_cons.mp hz' with rfl | m
      · exact x
      · exact hz z m
theorem dq_zs {G : Hp} : ∀ {zs : List (Addr × (Str × Str))}, (∀ z ∈ zs, Dq K G (.ref z.1) (pqD z.2)) → DqA K G (zs.map fun z => V.ref z.1) ((zs.map (·.2)).map pqD)
  | [], _ => .nil
  | z :: zs, h => .cons (h z (List.mem_cons_self ..)) (dq_zs fun y hy => h y (List.mem_cons_of_mem _ hy))
theorem cn_sortLQ {qs : List (Str × Str)} : CN K (rSortLQ K) [.list (qs.map pqD)] (.list ((srt ltQ qs).map pqD)) := fun xs G H Q g hx q => by
  cases hx with
  | cons a b =>
    cases b
    cases a with
    | @lst a vs _ ha hr =>
      obtain ⟨as, rfl, hp, hz⟩ := pq_sqt g hr
      refine ⟨a, as, qs, rfl, SqL.of (g.lst ha), hp, fun p zs hp2 he hn => ?_⟩
      refine q p G _ (.fresh g hn) hn (g.none hn) (.lst upd_same ?_)
      rw [← he]
      exact dq_zs fun z hz' => hz z (hp2.mem_iff.mp hz')
end
end DL

set_option maxHeartbeats 1000000
/-! DL23: d[x], x a pair of texts; zip of tuples; dict displays; list(d) walked, d a dict with keys that are pairs. -/
namespace DL
open PySem PySem.Spec PyProof.Rows L2 RZ
def tDGetS (K : PySem.W.Frag) (td ty : TE) : TE := fun σ H Q => td σ H fun x H1 => ty σ H1 fun y H2 => ∃ (a b : Addr) (v : V) (kvs : List (List Key × V)) (q : Str × Str), x = .ref a ∧ Rd H2 a (.dT kvs) ∧ y = .ref b ∧ SqT K H2 b [.str q.1, .str q.2] ∧ valV kvs (keyQ q) = some v ∧ Q v H2
theorem pe_dgetS {X : Cx} {o i : Expr} {td ty : TE} {pos : Pos} (hu : X.A.units + 1 < cLine) (ho : PE X o td) (hi : PE X i ty) (hs : NoSl i) : PE X (.Subscript o i pos) (tDGetS X.K td ty) := by
  refine ⟨fun pins s σ H Q I h => subD_of PySem.F.slot_dict_getitem.lookup hs (thn (ho.run pins s σ H _ I h) fun u s1 ⟨x, H1, I1, rx, q1⟩ => thn (hi.run pins s1 σ H1 _ I1 q1) fun iv s2 ⟨y, H2, I2, ry, a, b, v, kvs, q, ex, hd, ey, hb, hv, q2⟩ => ?_)⟩
  subst ex ey
  obtain rfl : u = Value.ref a := rx
  obtain rfl : iv = Value.ref b := ry
  obtain ⟨_, _, xs, rel, dd⟩ := dt_rd I2.hok hd
  obtain ⟨w', hw, rw'⟩ := RelO.some_of (v := v) (o := (atKey xs (keyQ q)).map (·.2)) (by rw [← hv]; exact rel.val (keyQ q))
  obtain ⟨p, hp, hp2⟩ := Option.map_eq_some_iff.mp hw
  have kk : (tupleKind (mixKind X.prog X.w)).is s2.heap (keyQ q) b := by
    obtain ⟨its, r, ⟨o', h1, h2, n, h3⟩, _⟩ := I2.tuple hb
    exact ⟨o', its.toArray, n, h1, h2, h3, by simpa using items_are (ks := keyQ q) r⟩
  refine ⟨dd.typeIs, wpAny_getItem_heap (tupleKind_room_in1 hu) kk dd hp ?_⟩
  rw [hp2]
  exact ⟨v, H2, I2.tok _, rw', q2⟩
section
variable {K : PySem.W.Frag} {ρ : List Sl} {Ex : XK} {ta tb te : TE} {tt : TT} {t u : TS} {d : D} {P : Oc → Prop}
theorem ev_getS {kvs : List (List Key × D)} {q : Str × Str} (h : EV K ta ρ (dtD kvs)) (hk : EV K tb ρ (pqD q)) (e : getG kvs (keyQ q) = some d) : EV K (tDGetS K ta tb) ρ d := fun G0 H0 G H σ Q E k =>
  h G0 H0 G H σ _ E fun x G1 H1 e1 hx => hk G0 H0 G1 H1 σ _ (E.go e1) fun y G2 H2 e2 hy => by
    obtain ⟨a, es, rfl, h1, h2⟩ := dq_dt (hx.mono e2.g)
    obtain ⟨b, rfl, hb⟩ := ps_sq e2.gh hy
    rcases h2.get (k := keyQ q) with ⟨h3, h4⟩ | ⟨v, d', h3, h4, h5⟩
    · rw [e] at h4
      cases h4
    · rw [e] at h4
      cases h4
      exact ⟨a, b, v, es, q, rfl, e2.gh.rd h1, rfl, hb, h3, k v G2 H2 (e1.trans e2) h5⟩
theorem walk_zipT {a b : Addr} {xs ys : List V} {n : Nat} (hx : n = xs.length) (hy : n = ys.length) : Walk (ItzT K a b) n (fun H => SqT K H a xs ∧ SqT K H b ys) (YPair (fun i => xs[i]?) (fun i => ys[i]?)) := by
  refine ⟨fun i H hi q => ⟨xs, ys, xs[i]'(by omega), ys[i]'(by omega), q.1, q.2, by simp [show i < xs.length by omega], by simp [show i < ys.length by omega]⟩, fun H q => ⟨xs, ys, q.1, q.2, by omega⟩, fun i H v H' _ q y => ?_⟩
  obtain ⟨T, x, z, h1, h2, h3, h4, h5⟩ := y
  exact ⟨T, x, z, h1, h2, h3, h4 xs q.1, h5 ys q.2⟩
/-- zip of two tuples of one length -/
theorem ei_zipT {t : TA} {as bs : List D} (h : EA K t ρ [.tuple as, .tuple bs]) (hl : as.length = bs.length) : EI K (iZipA K t) ρ as.length (fun i => .tuple [as.getD i .none, bs.getD i .none]) := fun G0 H0 G H σ R E q =>
  h G0 H0 G H σ _ E fun vs G1 H1 e1 hv => by
    cases hv with
    | cons x r =>
    cases r with
    | cons y r =>
    cases r
    cases x with
    | @tup a xs _ ha hxs =>
    cases y with
    | @tup b ys _ hb hys =>
    refine ⟨a, b, xs, ys, rfl, .inr ⟨e1.gh.t ha, e1.gh.t hb, q _ G1 H1 _ _ e1 (walk_zipT hxs.length.symm (hl.trans hys.length.symm)) (fun G2 H2 g gh => ⟨gh.t ((Sub.of g).t ha), gh.t ((Sub.of g).t hb)⟩) fun i G2 H2 v H3 hi g gh hy => ?_⟩⟩
    obtain ⟨T, x, y, rfl, hT, rfl, h4, h5⟩ := hy
    obtain ⟨d1, e1', r1⟩ := hxs.got h4
    obtain ⟨d2, e2', r2⟩ := hys.got h5
    show ∃ G3, _ ∧ Dq K G3 _ (.tuple [as.getD i .none, bs.getD i .none])
    rw [getD_of e1', getD_of e2']
    exact new_pair gh hT (r1.mono (Sub.of g)) (r2.mono (Sub.of g))
/-! dict displays -/
def mergeG (kvs more : List (Key × D)) : List (Key × D) := more.foldl (fun acc kv => putG acc kv.1 kv.2) kvs
def EPs (K : PySem.W.Frag) (trs : List (TE × TE)) (ρ : List Sl) (kds : List (Key × D)) : Prop := ∀ (G0 H0 G H : Hp) (σ : L2.St) (Q : List (V × V) → Hp → Prop), En K G0 H0 G H σ ρ →
  (∀ (es : List (Key × V)) G' H', Ext G H G' H' → DqV K G' es kds → Q (es.map fun kv => (kV kv.1, kv.2)) H') → tPairs trs σ H Q
theorem eps_nil : EPs K [] ρ [] := fun G0 H0 G H σ Q E q => q [] G H (.refl E.gh) .nil
theorem eps_cons {k : Key} {dk : D} {kds : List (Key × D)} {trs : List (TE × TE)} (hk : EV K ta ρ dk) (ek : dk = kD k) (hv : EV K tb ρ d) (h : EPs K trs ρ kds) : EPs K ((ta, tb) :: trs) ρ ((k, d) :: kds) := fun G0 H0 G H σ Q E q =>
  hk G0 H0 G H σ _ E fun x G1 H1 e1 hx => hv G0 H0 G1 H1 σ _ (E.go e1) fun y G2 H2 e2 hy => h G0 H0 G2 H2 σ _ ((E.go e1).go e2) fun es G3 H3 e3 hes => by
    subst ek
    have := key_dq hx
    subst this
    exact q ((k, y) :: es) G3 H3 ((e1.trans e2).trans e3) (.cons (hy.mono e3.g) hes)
theorem DqV.merge {G : Hp} : ∀ {more : List (Key × V)} {mds : List (Key × D)} {es : List (Key × V)} {kvs : List (Key × D)}, DqV K G more mds → DqV K G es kvs → DqV K G (mergeK es more) (mergeG kvs mds)
  | _, _, _, _, .nil, h => h
  | _, _, _, _, @DqV.cons _ _ _ k v d es' kvs' a b, h => by
    have := DqV.merge b (h.put (k := k) a)
    exact this
theorem en_disp {trs : List (TE × TE)} {kds : List (Key × D)} (h : EPs K trs ρ kds) (hl : kds.length ≤ 15) : EVN K (tDisp trs) ρ (dkD (mergeG [] kds)) := fun G0 H0 G H σ Q E q p hp => by
  have x : Ext G H G (upd H p (.dK [])) := .fresh E.gh hp
  have hG : G p = none := E.gh.none hp
  refine h G0 H0 G _ σ _ (E.go x) fun es G' H' e hes => ?_
  have hp' := e.at hG (upd_same (H := H) (a := p) (o := .dK []))
  have hG' := e.own _ _ (upd_same (H := H) (a := p) (o := .dK [])) rfl hG
  refine ⟨hp', es, rfl, by rw [hes.length]; exact hl, ?_⟩
  refine q p G' _ ⟨fun a o z => e.gg a o z, fun a o z => ?_, fun a o z => ?_, fun a o z t n => ?_⟩ hp hG' (.dK upd_same (hes.merge .nil).k)
  · have ne : a ≠ p := ne_of_none z hp
    rw [upd_ne ne]
    exact e.hh a o (by rw [upd_ne ne]; exact z)
  · exact (e.gh a o z).eq (upd_ne (ne_of_none z hG'))
  · exact e.own a o (by rw [upd_ne (ne_of_none z hp)]; exact z) t n
/-! ### for x in list(d): .., d a dict of one's own whose keys are pairs -/
theorem st_for0 {H0 G H : Hp} {σ : L2.St} {D : Ends} {wi : TI} {g : TG} {n : Nat} {item : Nat → DL.D} (E : En K G H0 G H σ ρ) (f : Fin K Ex G H0 P D) (hi : ∀ (R : It → Hp → Prop), (∀ J Gd Y, Walk J n Gd Y → (∀ G2 H2, Ext G H0 G2 H2 → Gd H2) →
    (∀ i G2 H2 x H3, i < n → Ext G H0 G2 H2 → Y i H2 x H3 → ∃ G3, Ext G2 H2 G3 H3 ∧ Dq K G3 x (item i)) → R J H) → wi σ H R) (I : Nat → List Sl → Prop) (h0 : I 0 ρ)
    (hs : ∀ i ρ1, i < n → I i ρ1 → ∃ ρ2 ts, GT K g ρ1 (item i) ρ2 ts ∧ ST K Ex t ρ2 (loopP (I (i + 1)) P)) (hd : ∀ ρ1, I n ρ1 → P (.nx ρ1)) : tFor wi g t D σ H :=
  hi _ fun J Gd Y w hG hY => by
    refine for_it w (fun i σ' H' => ∃ G' ρ', En K G H0 G' H' σ' ρ' ∧ I i ρ') ⟨G, ρ, E, h0⟩ (fun i σ' H' _ ⟨G', ρ', E', _⟩ => hG G' H' E'.ext) (fun i y σ' H' H3 hi ⟨G', ρ', E', p⟩ hy => ?_) (fun σ' H' ⟨G', ρ', E', p⟩ => f.nx ρ' σ' G' H' (hd ρ' p) E')
    obtain ⟨G3, x3, hdq⟩ := hY i G' H' y H3 hi E'.ext hy
    obtain ⟨ρ2, ts, hg, hb⟩ := hs i ρ' hi p
    exact hg G H0 G3 H3 σ' y _ (E'.go x3) hdq fun σ2 E2 _ _ => hb G H0 G3 H3 σ2 _ E2 ⟨fun ρ4 σ4 G4 H4 p4 E4 => ⟨G4, ρ4, E4, p4⟩, f.rt, fun ρ4 σ4 G4 H4 p4 E4 => f.nx ρ4 σ4 G4 H4 p4 E4, fun ρ4 σ4 G4 H4 p4 E4 => ⟨G4, ρ4, E4, p4⟩, f.ex⟩
theorem En.lockA {G0 H0 G H : Hp} {σ : L2.St} (E : En K G0 H0 G H σ ρ) {l : Addr} {u : HO} {od : Obj} (h0 : H0 l = none) (hG : G l = some u) (hu : isDic u = true) (hm : isMk u = false) : En K G (upd H0 l (.frz od u)) G (upd H l (.frz od u)) σ ρ := by
  have nl : ∀ a, G a = none → a ≠ l := fun a z e => by
    rw [e, hG] at z
    cases z
  refine ⟨E.len, ⟨fun _ _ z => z, fun a o e => ?_, fun a o e => ?_, fun _ _ _ _ z => z⟩, E.fr, fun j e q => ?_, E.ex, E.dis, fun j kls q => ?_, E.ned⟩
  · by_cases ha : a = l
    · subst ha
      rw [upd_same] at e
      exact .inl (by rw [upd_same]; exact e)
    · rw [upd_ne ha] at e
      rw [upd_ne ha]
      exact (E.ext.hh a o e).imp id (mkd.mono E.ext.gg)
  · by_cases ha : a = l
    · subst ha
      rw [hG] at e
      cases e
      exact .inr (.inl ⟨hu, od, upd_same⟩)
    · exact (E.gh a o e).eq (upd_ne ha)
  · obtain ⟨b, a1, a2, a3, a4⟩ := E.ow j e q
    exact ⟨b, a1, by rw [upd_ne (nl b a3)]; exact a2, a3, a4.ext (Sub.refl G) (upd_ne (nl b a3))⟩
  · obtain ⟨b, as, a1, a2, a3⟩ := E.ne j kls q
    exact ⟨b, as, a1, a2.go (Sub.refl G) fun c hc => upd_ne (nl c (a3 c hc).2.1), fun c hc => ⟨by rw [upd_ne (nl c (a3 c hc).2.1)]; exact (a3 c hc).1, (a3 c hc).2⟩⟩
theorem En.unlock {G0 H0 G H G2 H2 : Hp} {σ σ2 : L2.St} {ρ2 : List Sl} (E : En K G0 H0 G H σ ρ) {l : Addr} {u : HO} {od : Obj} (h0 : H0 l = none) (hG : G l = some u) (hu : isDic u = true) (hm : isMk u = false) (E2 : En K G (upd H0 l (.frz od u)) G2 H2 σ2 ρ2) :
    H2 l = some (.frz od u) ∧ En K G0 H0 G2 (upd H2 l u) σ2 ρ2 := by
  have hl2 := E2.ext.gg _ _ hG
  have nl : ∀ a, G2 a = none → a ≠ l := fun a z e => by
    rw [e, hl2] at z
    cases z
  have back : ∀ a, upd H0 l (.frz od u) a = none → H0 a = none := fun a z => by
    by_cases ha : a = l
    · rw [ha]; exact h0
    · rw [upd_ne ha] at z
      exact z
  refine ⟨E2.ext.atF hG hm upd_same, E2.len, ⟨fun a o e => E2.ext.gg a o (E.ext.gg a o e), fun a o e => ?_, fun a o e => ?_, fun a o e t n => ?_⟩, E2.fr, fun j e q => ?_, E2.ex, E2.dis, fun j kls q => ?_, E2.ned⟩
  · have ne : a ≠ l := ne_of_none e h0
    rw [upd_ne ne]
    exact (E2.ext.hh a o (by rw [upd_ne ne]; exact e)).imp id (E.ext.mark e)
  · by_cases ha : a = l
    · subst ha
      rw [hl2] at e
      cases e
      exact .of upd_same hm
    · exact (E2.gh a o e).eq (upd_ne ha)
  · exact E2.ext.own a o (by rw [upd_ne (ne_of_none e h0)]; exact e) t (E.ext.own a o e t n)
  · obtain ⟨b, a1, a2, a3, a4⟩ := E2.ow j e q
    exact ⟨b, a1, back b a2, a3, a4.ext (Sub.refl _) (upd_ne (nl b a3))⟩
  · obtain ⟨b, as, a1, a2, a3⟩ := E2.ne j kls q
    exact ⟨b, as, a1, a2.go (Sub.refl _) fun c hc => upd_ne (nl c (a3 c hc).2.1), fun c hc => ⟨back c (a3 c hc).1, (a3 c hc).2⟩⟩
/-- the frozen dict stays in its slot -/
theorem st_listT {n : Nat} {qs : List (Str × Str)} {kvs : List (List Key × D)} {g : TG} (hi : ρ[n]? = some (.ow (dtD kvs))) (hk : kvs.map (·.1) = qs.map keyQ) (I : Nat → List Sl → Prop) (h0 : I 0 (ρ.set n (.fr (dtD kvs))))
    (hs : ∀ i ρ1, i < qs.length → I i ρ1 → ∃ ρ2 ts, GT K g ρ1 (pqD (qs.getD i (Str.empty, Str.empty))) ρ2 ts ∧ ST K Ex t ρ2 (loopP (I (i + 1)) fun _ => False)) (hd : ∀ ρ1, I qs.length ρ1 → P (.nx ρ1)) : ST K Ex (tLock (tFor (iListT (tVar n)) g t)) ρ P := fun G0 H0 G H σ D E f => by
  obtain ⟨l, h1, h2, h3, h4⟩ := E.ow n _ hi
  obtain ⟨es, h5, h6⟩ := own_dt h4
  have E1 := E.frzAs (o := .dT es) (d' := dtD kvs) hi h1 (.of h5) fun gg => .dT (.inl upd_same) (h6.mono (Sub.of gg)).t
  generalize hG' : upd G l (.dT es) = G' at E1
  have hGl : G' l = some (.dT es) := by rw [← hG']; exact upd_same
  refine ⟨l, .dT es, h5, trivial, fun od => ?_⟩
  have EL := E1.lockA (od := od) h2 hGl rfl rfl
  have hlen : es.length = qs.length := by
    have := congrArg List.length hk
    rw [List.length_map, List.length_map] at this
    rw [h6.length, this]
  refine st_for0 (Ex := Ex) (P := fun o => ∃ ρ1, o = .nx ρ1 ∧ I qs.length ρ1) (item := fun i => pqD (qs.getD i (Str.empty, Str.empty))) EL ⟨fun ρ' σ' G2 H2 p E2 => ?_, fun d v G2 H2 p => ?_, fun ρ' σ' G2 H2 p => ?_, fun ρ' σ' G2 H2 p => ?_, fun C fl dd fs G2 H2 p => ?_⟩ (fun R z => ?_) I h0 (fun i ρ1 hi p => ?_) fun ρ1 p => ⟨ρ1, rfl, p⟩
  · obtain ⟨ρ1, e, p⟩ := p
    cases e
    obtain ⟨q1, q2⟩ := E1.unlock h2 hGl rfl rfl E2
    exact ⟨q1, f.nx _ _ _ _ (hd _ p) q2⟩
  · obtain ⟨ρ1, e, _⟩ := p; cases e
  · obtain ⟨ρ1, e, _⟩ := p; cases e
  · obtain ⟨ρ1, e, _⟩ := p; cases e
  · obtain ⟨ρ1, e, _⟩ := p; cases e
  · refine ⟨_, h1, l, od, es, rfl, upd_same, z _ _ _ (hlen ▸ walk_keysT) (fun G2 H2 e => e.atF hGl rfl upd_same) fun i G2 H2 x H3 hlt e hy => ?_⟩
    obtain ⟨rfl, k, v, q, y1, rfl, y2⟩ := hy
    have hk' : k = keyQ (qs.getD i (Str.empty, Str.empty)) := by
      have e1 := congrArg (fun m : List (List Key) => m[i]?) (h6.keys.trans hk)
      rw [List.getElem?_map, List.getElem?_map, y1, List.getElem?_eq_getElem hlt] at e1
      injection e1 with e1
      rw [List.getD_eq_getElem?_getD, List.getElem?_eq_getElem hlt]
      exact e1
    refine ⟨_, Ext.tups e.gh, .tup (SqT.of (tupG_tup e.gh y2)) ?_⟩
    rw [hk']
    exact .cons (.str _) (.cons (.str _) .nil)
  · obtain ⟨ρ2, ts, a, b⟩ := hs i ρ1 hi p
    refine ⟨ρ2, ts, a, b.mono fun o z => ?_⟩
    cases o <;> first | exact z | exact z.elim
end
end DL

set_option maxHeartbeats 1000000
/-! DL24: defs that answer a new list that the caller may change; boxes.append(rest.pop(i)). -/
namespace DL
open PySem PySem.Spec PyProof.Rows L2
/-- what a def answers: a new list | dict, told by a word about it -/
def PN (K : PySem.W.Frag) (Pre : List D → Prop) (Post : List D → D → Prop) : Sp := fun vs H Q _ => ∃ G ds, GH G H ∧ DqA K G vs ds ∧ Pre ds ∧ ∀ d l G' H', Post ds d → Ext G H G' H' → H l = none → G' l = none → OwnC K G' H' l d → Q (.ref l) H'
/-- a body that ends with the return of an own value -/
def STN (K : PySem.W.Frag) (t : TS) (ρ : List Sl) (Post : D → Prop) : Prop := ∀ (G0 H0 G H : Hp) (σ : L2.St) (Dn : Ends), En K G0 H0 G H σ ρ → (∀ d l G' H', Post d → Ext G0 H0 G' H' → H0 l = none → G' l = none → OwnC K G' H' l d → Dn.rt (.ref l) H') → t Dn σ H
section
variable {K : PySem.W.Frag} {ρ : List Sl} {Ex : XK} {ta tb te : TE} {t u : TS} {d : D} {P : Oc → Prop} {Pd : D → Prop} {Post : D → Prop}
theorem stn_seq (h : ST K Ex t ρ (fun o => ∃ ρ', o = .nx ρ' ∧ STN K u ρ' Post)) : STN K (tSeq t u) ρ Post := fun G0 H0 G H σ Dn E q =>
  h G0 H0 G H σ _ E ⟨(fun _ σ' G' H' ⟨ρ'', e, s⟩ E' => by cases e; exact s G0 H0 G' H' σ' Dn E' q), (fun _ _ _ _ ⟨_, e, _⟩ _ => nomatch e), (fun _ _ _ _ ⟨_, e, _⟩ _ => nomatch e), (fun _ _ _ _ ⟨_, e, _⟩ _ => nomatch e), (fun _ _ _ _ _ _ ⟨_, e, _⟩ => nomatch e)⟩
theorem stn_ret {n : Nat} (hi : ρ[n]? = some (.ow d)) (p : Post d) : STN K (tRet (tVar n)) ρ Post := fun G0 H0 G H σ Dn E q => by
  obtain ⟨l, h1, h2, h3, h4⟩ := E.ow n d hi
  exact ⟨_, h1, q d l G H p E.ext h2 h3 h4⟩
theorem evnx_callN {Pre : List D → Prop} {Po : List D → D → Prop} {Ey : XK} {t : TA} {ds : List D} (h : EA K t ρ ds) (hp : Pre ds) : EVNX K (tCall (PN K Pre Po) [] Ey t) ρ (Po ds) := fun G0 H0 G H σ Q E q =>
  h G0 H0 G H σ _ E fun vs G1 H1 e1 h1 => by
    rw [List.append_nil]
    exact ⟨G1, ds, e1.gh, h1, hp, fun d l G2 H2 hd x hH hG ho => q d l G2 H2 hd (e1.trans x) (e1.gone hH) hG ho⟩
theorem dqa_erase {G : Hp} {us : List V} {es : List D} (h : DqA K G us es) (i : Nat) : DqA K G (us.eraseIdx i) (es.eraseIdx i) := by
  rw [List.eraseIdx_eq_take_drop_succ, List.eraseIdx_eq_take_drop_succ]
  exact (h.take i).append (h.drop (i + 1))
/-- ps.append(qs.pop(i)) -/
theorem st_appPop {p q : Nat} {ds es : List D} (hp : ρ[p]? = some (.ow (.list ds))) (hq : ρ[q]? = some (.ow (.list es))) (hpq : q ≠ p) (h : EVX K te ρ Pd) (hz : ds.length < 16000000) (he : es.length ≤ 16000000)
    (k : ∀ d, Pd d → ∃ i : Nat, d = .int (i : Int) ∧ i < es.length ∧ ∀ e, es[i]? = some e → P (.nx ((ρ.set q (.ow (.list (es.eraseIdx i)))).set p (.ow (.list (ds ++ [e])))))) :
    ST K Ex (tDrop (tBM K "list" rAppend (tVar p) (tCons (tBM K "list" rPopAt (tVar q) (tCons te tNil)) tNil))) ρ P := fun G0 H0 G H σ D E f => by
  obtain ⟨l, vs, h1, h2, h3, h0⟩ := own_lookG E hp
  obtain ⟨m, us, g1, g2, g3, g0⟩ := own_lookG E hq
  have hlm : l ≠ m := fun z => hpq (E.dis q p _ _ l hq hp (z ▸ g1) h1)
  refine ⟨_, h1, .inl ⟨rfl, vs, SqL.of h2⟩, _, g1, .inl ⟨rfl, us, SqL.of g2⟩, h G0 H0 G H σ _ E fun d w G1 H1 pd e1 hw => ?_⟩
  obtain ⟨i, rfl, hi, kk⟩ := k d pd
  cases hw
  have hi' : i < us.length := by rw [g3.length]; exact hi
  obtain ⟨e, he1, he2⟩ := (g3.mono e1.g).got (List.getElem?_eq_getElem hi')
  refine ⟨m, us, i, i, us[i], rfl, rfl, e1.at g0 g2, by omega, by rw [g3.length] at hi'; omega, (ixN_seq ((ixN_nn (by omega) (by omega)).trans (congrArg some (Int.toNat_natCast i)))).1, List.getElem?_eq_getElem hi', ?_⟩
  have E1 := (E.go e1).write hq g1 (o := .lst (us.eraseIdx i)) (d' := .list (es.eraseIdx i)) (.lst upd_same (dqa_erase (g3.mono e1.g) i))
  have hp' : (ρ.set q (.ow (.list (es.eraseIdx i))))[p]? = some (.ow (.list ds)) := by rw [List.getElem?_set_ne hpq]; exact hp
  exact ⟨l, vs, us[i], rfl, rfl, (upd_ne hlm).trans (e1.at h0 h2), by rw [h3.length, sizeLine_eq]; omega, f.nx _ _ _ _ (kk e he1) (E1.write hp' h1 (.lst upd_same ((h3.mono e1.g).append (.one he2))))⟩
end
section
variable {P : Program} {w : World} {K : PySem.W.Frag} {mg : Str → Option Value} {base : Heap}
theorem fn_pn {x qual : Str} {params : Arguments} {body : List Stmt} {scope : Scope} {f : Addr} {fd : FuncData} {N ps : List Str} {k : Nat} {Pre : List D → Prop} {Post : List D → D → Prop} (F : FunD K x qual params body scope [] [] f fd) (S : FnScope N ps scope)
    (len : ∀ ds, Pre ds → ds.length = ps.length)
    (hb : ∀ (cdv : Value) (A : Around) (outer : List PySem.Env) (s : Shared) (H : Hp) (E : XK), Room k (A.deeper (envOfC qual scope s.heap.objs.size f cdv)) →
      ∃ t, PSs (cxOf CX0 P w K mg base N qual scope f cdv A outer s H E) body t ∧ ∀ ds, Pre ds → STN K t (start0 N.length ds) (Post ds)) : FnOk P w K mg base CX0 (k + 1) f fd ps (PN K Pre Post) := by
  refine F.ok S (fun vs H Q E h => ?_) (fun cdv A outer s H vs Q E hr h => ?_)
  · obtain ⟨G, ds, g, ha, hR, q⟩ := h
    exact ha.length.trans (len ds hR)
  · obtain ⟨t, h1, h2⟩ := hb cdv A outer s H E hr
    obtain ⟨G, ds, g, ha, hR, q⟩ := h
    exact ⟨t, h1, h2 ds hR G H G H _ _ (en_start g ha) q⟩
end
end DL

set_option maxHeartbeats 1000000
/-! DL25: counting points: a dict whose keys are pairs of ints, d[p] = d.get(p, 0) + 1; any, sum of lists. -/
namespace DL
open PySem PySem.Spec PyProof.Rows L2
def kI (p : Int × Int) : List Key := [.inl p.1, .inl p.2]
theorem kI_inj {a b : Int × Int} (h : kI a = kI b) : a = b := by
  obtain ⟨a1, a2⟩ := a
  obtain ⟨b1, b2⟩ := b
  unfold kI at h
  injection h with h1 h2
  injection h2 with h2
  injection h1 with h1
  injection h2 with h2
  dsimp only at h1 h2
  rw [h1, h2]
def cK (ps : List ((Int × Int) × Int)) : List (List Key × D) := ps.map fun p => (kI p.1, PyData.int p.2)
def cnt (ps : List ((Int × Int) × Int)) (k : Int × Int) : Int := ((ps.find? fun p => decide (p.1 = k)).map (·.2)).getD 0
def bump (ps : List ((Int × Int) × Int)) (k : Int × Int) : List ((Int × Int) × Int) :=
  if (ps.any fun p => decide (p.1 = k)) = true then ps.map (fun p => if p.1 = k then (p.1, cnt ps k + 1) else p) else ps ++ [(k, cnt ps k + 1)]
theorem dec_kI (a b : Int × Int) : decide (kI a = kI b) = decide (a = b) := by
  by_cases h : a = b
  · rw [h, decide_eq_true rfl, decide_eq_true rfl]
  · rw [decide_eq_false h, decide_eq_false fun e => h (kI_inj e)]
theorem cK_get (ps : List ((Int × Int) × Int)) (k : Int × Int) : getG (cK ps) (kI k) = (ps.find? fun p => decide (p.1 = k)).map fun p => PyData.int p.2 := by
  unfold getG cK
  induction ps with
  | nil => rfl
  | cons p ps ih =>
    rw [List.map_cons, List.find?_cons, List.find?_cons]
    dsimp only
    rw [dec_kI]
    by_cases h : p.1 = k
    · rw [decide_eq_true h]; rfl
    · rw [decide_eq_false h]; exact ih
theorem cK_getD (ps : List ((Int × Int) × Int)) (k : Int × Int) : (getG (cK ps) (kI k)).getD (PyData.int 0) = .int (cnt ps k) := by
  rw [cK_get]
  unfold cnt
  cases ps.find? fun p => decide (p.1 = k) <;> rfl
theorem cK_put (ps : List ((Int × Int) × Int)) (k : Int × Int) : putG (cK ps) (kI k) (.int (cnt ps k + 1)) = cK (bump ps k) := by
  have e : ((cK ps).any fun kv => decide (kv.1 = kI k)) = ps.any fun p => decide (p.1 = k) := by
    unfold cK
    rw [List.any_map]
    congr 1
    funext p
    exact dec_kI _ _
  unfold putG bump
  rw [e]
  by_cases h : (ps.any fun p => decide (p.1 = k)) = true
  · rw [if_pos h, if_pos h]
    unfold cK
    rw [List.map_map, List.map_map]
    refine List.map_congr_left fun p hp => ?_
    show (if kI p.1 = kI k then (kI p.1, PyData.int (cnt ps k + 1)) else (kI p.1, PyData.int p.2)) = _
    by_cases q : p.1 = k
    · rw [if_pos (congrArg kI q)]
      show _ = (kI (if p.1 = k then (p.1, cnt ps k + 1) else p).1, PyData.int (if p.1 = k then (p.1, cnt ps k + 1) else p).2)
      rw [if_pos q]
    · rw [if_neg fun z => q (kI_inj z)]
      show _ = (kI (if p.1 = k then (p.1, cnt ps k + 1) else p).1, PyData.int (if p.1 = k then (p.1, cnt ps k + 1) else p).2)
      rw [if_neg q]
  · rw [if_neg h, if_neg h]
    unfold cK
    rw [List.map_append]
    rfl
theorem bump_len (ps : List ((Int × Int) × Int)) (k : Int × Int) : (bump ps k).length ≤ ps.length + 1 := by
  unfold bump
  split
  · rw [List.length_map]; omega
  · rw [List.length_append]; exact Nat.le_refl _
section
variable (K : PySem.W.Frag)
def AtT (G : Hp) (vs : List V) (kss : List (List Key)) : Prop := vs.length = kss.length ∧ ∀ (i : Nat) (ks : List Key), kss[i]? = some ks → ∃ p, vs[i]? = some (.ref p) ∧ G p = some (.tup (ks.map kV))
def EAT (t : TA) (ρ : List Sl) (kss : List (List Key)) : Prop := ∀ (G0 H0 G H : Hp) (σ : L2.St) (Q : List V → Hp → Prop), En K G0 H0 G H σ ρ → (∀ vs G' H', Ext G H G' H' → AtT G' vs kss → Q vs H') → t σ H Q
/-- a walk over tuples of keys whose addresses are known -/
def EIK (wi : TI) (ρ : List Sl) (kss : List (List Key)) : Prop := ∀ (G0 H0 G H : Hp) (σ : L2.St) (R : It → Hp → Prop), En K G0 H0 G H σ ρ →
  (∀ J G' H' Gd Y, Ext G H G' H' → Walk J kss.length Gd Y → (∀ G2 H2, (∀ a o, G' a = some o → G2 a = some o) → GH G2 H2 → Gd H2) →
    (∀ i G2 H2 x H3, i < kss.length → (∀ a o, G' a = some o → G2 a = some o) → GH G2 H2 → Y i H2 x H3 → H3 = H2 ∧ ∃ p, x = .ref p ∧ G2 p = some (.tup ((kss.getD i []).map kV))) → R J H') → wi σ H R
end
section
variable {K : PySem.W.Frag} {ρ : List Sl} {Ex : XK} {ta tb te : TE} {tt : TT} {t u : TS} {d : D} {P : Oc → Prop}
theorem eat_nil : EAT K tNil ρ [] := fun _ _ G H _ _ E q => q [] G H (.refl E.gh) ⟨rfl, fun i ks h => nomatch h⟩
theorem eat_cons {tr : TA} {ks : List Key} {kss : List (List Key)} (h : EVT K ta ρ ks) (hr : EAT K tr ρ kss) : EAT K (tCons ta tr) ρ (ks :: kss) := fun G0 H0 G H σ Q E q =>
  h G0 H0 G H σ _ E fun p G1 H1 e1 h1 => hr G0 H0 G1 H1 σ _ (E.go e1) fun vs G2 H2 e2 h2 => q _ G2 H2 (e1.trans e2) ⟨congrArg Nat.succ h2.1, fun i ks' hk => by
    cases i with
    | zero =>
      injection hk with hk
      subst hk
      exact ⟨p, rfl, e2.gg _ _ h1⟩
    | succ i => exact h2.2 i ks' hk⟩
theorem eik_tup {t : TA} {kss : List (List Key)} (h : EAT K t ρ kss) (hl : kss.length ≤ sizeLine) : EIK K (iSeqU K (tTup t)) ρ kss := fun G0 H0 G H σ R E q =>
  h G0 H0 G H σ _ E fun vs G1 H1 e1 ⟨a1, a2⟩ => ⟨by rw [a1]; exact hl, fun a hp => by
    have x := Ext.new (o := .tup vs) e1.gh hp
    refine .inr (.inl ⟨a, vs, rfl, SqT.of upd_same, ?_⟩)
    rw [← a1] at q
    refine q _ _ _ _ _ (e1.trans x) (walk_tup (K := K) (a := a) (xs := vs)) (fun G2 H2 hg gh => gh.t ((Sub.of hg).t (SqT.of upd_same))) fun i G2 H2 x H3 hi hg gh hy => ?_
    obtain ⟨rfl, hx⟩ := hy
    obtain ⟨p, hp1, hp2⟩ := a2 i _ (List.getElem?_eq_getElem (by omega))
    rw [hp1] at hx
    injection hx with hx
    subst hx
    refine ⟨rfl, p, rfl, ?_⟩
    rw [List.getD_eq_getElem?_getD, List.getElem?_eq_getElem (show i < kss.length by omega)]
    exact hg _ _ (x.gg _ _ hp2)⟩
theorem eik_lst {t : TA} {kss : List (List Key)} (h : EAT K t ρ kss) (hl : kss.length ≤ sizeLine) : EIK K (iSeqU K (tLst t)) ρ kss := fun G0 H0 G H σ R E q =>
  h G0 H0 G H σ _ E fun vs G1 H1 e1 ⟨a1, a2⟩ => ⟨by rw [a1]; exact hl, fun a hp => by
    have x := Ext.new (o := .lst vs) e1.gh hp
    refine .inl ⟨a, vs, rfl, SqL.of upd_same, ?_⟩
    rw [← a1] at q
    refine q _ _ _ _ _ (e1.trans x) (walk_list (K := K) (a := a) (xs := vs)) (fun G2 H2 hg gh => gh.l ((Sub.of hg).l (SqL.of upd_same))) fun i G2 H2 x2 H3 hi hg gh hy => ?_
    obtain ⟨rfl, hx⟩ := hy
    obtain ⟨p, hp1, hp2⟩ := a2 i _ (List.getElem?_eq_getElem (by omega))
    rw [hp1] at hx
    injection hx with hx
    subst hx
    refine ⟨rfl, p, rfl, ?_⟩
    rw [List.getD_eq_getElem?_getD, List.getElem?_eq_getElem (show i < kss.length by omega)]
    exact hg _ _ (x.gg _ _ hp2)⟩
theorem set_set_comm {l : List Sl} {n i : Nat} (h : n ≠ i) (a b c d : Sl) : (((l.set i a).set n b).set i c).set n d = (l.set i c).set n d := by
  apply List.ext_getElem?
  intro k
  simp only [List.getElem?_set, List.length_set]
  split <;> split <;> simp_all
/-- d[p] = d.get(p, 0) + 1, p told by its address -/
theorem run_bump {G0 H0 G H : Hp} {σ : L2.St} {D : Ends} {n i : Nat} {ps : List ((Int × Int) × Int)} {p : Addr} {k : Int × Int} (E : En K G0 H0 G H σ ρ) (hn : ρ[n]? = some (.ow (dtD (cK ps)))) (hi : σ[i]? = some (some (.ref p))) (hp : G p = some (.tup ((kI k).map kV))) (hz : ps.length < 16000000)
    (q : ∀ H', En K G0 H0 G H' σ (ρ.set n (.ow (dtD (cK (bump ps k))))) → D.nx σ H') : sDPut (tVar n) (tVar i) (tOp (rAddU K) (tDGet2 (tVar n) (tVar i) (tC (.int 0))) (tC (.int 1))) D σ H := by
  obtain ⟨l, h1, _, h0, h4⟩ := E.ow n _ hn
  obtain ⟨es, h5, h6⟩ := own_dt h4
  have hp' := E.gh.tup hp
  have hlen : es.length = ps.length := by rw [h6.length]; unfold cK; rw [List.length_map]
  have main : ∀ v : V, v = .int (cnt ps k + 1) → D.nx σ (upd H l (.dT (putK es (kI k) v))) := fun v e => by
    subst e
    refine q _ (E.write hn h1 ?_)
    rw [← cK_put]
    exact .dT upd_same ((h6.put (.int _)).t)
  have fin : ∀ z : V, z = .int (cnt ps k) → (rAddU K) z (.int 1) H fun v H1 => ∃ v', σ[n]? = some (some v') ∧ (fun x H2 => ∃ w, σ[i]? = some (some w) ∧ (fun y H3 => ∃ a H4, x = .ref a ∧ DPut H3 a y v H4 ∧ D.nx σ H4) w H2) v' H1 := fun z e => by
    subst e
    refine .inl ⟨_, _, rfl, rfl, _, h1, _, hi, l, _, rfl, DPut.t h5 hp' (by rw [hlen, sizeLine_eq]; omega), main _ rfl⟩
  refine ⟨_, h1, l, rfl, .inr ⟨es, .inl h5⟩, _, hi, ?_⟩
  rcases h6.get (k := kI k) with ⟨e1, e2⟩ | ⟨v, d, e1, e2, e3⟩
  · refine ⟨none, ?_, fin _ ?_⟩
    · rw [← e1]; exact DGet.t h5 hp'
    · have := cK_getD ps k
      rw [e2] at this
      injection this with this
      show V.int 0 = _
      rw [this]
  · refine ⟨some v, ?_, fin _ ?_⟩
    · rw [← e1]; exact DGet.t h5 hp'
    · have := cK_getD ps k
      rw [e2] at this
      have this : d = .int (cnt ps k) := this
      subst this
      cases e3
      rfl
theorem st_bumps {n i : Nat} {wi : TI} {ps : List ((Int × Int) × Int)} {ks : List (Int × Int)} (hn : ρ[n]? = some (.ow (dtD (cK ps)))) (hni : n ≠ i) (hil : i < ρ.length) (hw : EIK K wi ρ (ks.map kI)) (hz : ps.length + ks.length < 16000000)
    (q : ∀ s, P (.nx ((ρ.set i s).set n (.ow (dtD (cK (ks.foldl bump ps))))))) :
    ST K Ex (tFor wi (gName i) (sDPut (tVar n) (tVar i) (tOp (rAddU K) (tDGet2 (tVar n) (tVar i) (tC (.int 0))) (tC (.int 1))))) ρ P := fun G0 H0 G H σ D E f =>
  hw G0 H0 G H σ _ E fun J G1 H1 Gd Y x w hG hY => by
    have E1 := E.go x
    have hlen : ∀ j, ((ks.take j).foldl bump ps).length ≤ ps.length + j := by
      intro j
      induction j with
      | zero => exact Nat.le_refl _
      | succ j ih =>
        by_cases hj : j < ks.length
        · rw [List.take_succ_eq_append_getElem hj, List.foldl_append]
          have := bump_len ((ks.take j).foldl bump ps) ks[j]
          show (bump _ _).length ≤ _
          omega
        · rw [List.take_of_length_le (by omega)]
          rw [List.take_of_length_le (by omega)] at ih
          omega
    refine for_it w (fun j σ' H' => ∃ G' s, En K G1 H0 G' H' σ' ((ρ.set i s).set n (.ow (dtD (cK ((ks.take j).foldl bump ps)))))) ⟨G1, ρ.getD i .no, ?_⟩ (fun j σ' H' _ ⟨G', s, E'⟩ => hG G' H' E'.ext.gg E'.gh) (fun j y σ' H' H3 hj ⟨G', s, E'⟩ hy => ?_) (fun σ' H' ⟨G', s, E'⟩ => ?_)
    · have e : (ρ.set i (ρ.getD i .no)).set n (.ow (dtD (cK ((ks.take 0).foldl bump ps)))) = ρ := by
        apply List.ext_getElem?
        intro k
        show _ = ρ[k]?
        rw [show (ks.take 0).foldl bump ps = ps from rfl]
        by_cases h1 : n = k
        · subst h1
          rw [List.getElem?_set_self (by rw [List.length_set]; exact (List.getElem?_eq_some_iff.mp hn).1), hn]
        · rw [List.getElem?_set_ne h1]
          by_cases h2 : i = k
          · subst h2
            by_cases h3 : i < ρ.length
            · rw [List.getElem?_set_self h3, List.getD_eq_getElem?_getD, List.getElem?_eq_getElem h3]
              rfl
            · rw [List.getElem?_eq_none (by rw [List.length_set]; omega), List.getElem?_eq_none (by omega)]
          · rw [List.getElem?_set_ne h2]
      rw [e]
      exact E1.re
    · rw [List.length_map] at hj
      obtain ⟨rfl, p, rfl, hp⟩ := hY j G' H' y H3 (by rw [List.length_map]; exact hj) E'.ext.gg E'.gh hy
      have ek : (ks.map kI).getD j [] = kI ks[j] := by
        rw [List.getD_eq_getElem?_getD, List.getElem?_map, List.getElem?_eq_getElem hj]
        rfl
      rw [ek] at hp
      have nn : n < ρ.length := (List.getElem?_eq_some_iff.mp hn).1
      have E3 := E'.setF i (v := .ref p) (d := .tuple ((kI ks[j]).map kD)) (.tup (SqT.of hp) (.cons (.int _) (.cons (.int _) .nil)))
      show sDPut _ _ _ _ (σ'.set i (some (.ref p))) H3
      · refine run_bump (ps := (ks.take j).foldl bump ps) (p := p) (k := ks[j]) E3 ?_ ?_ hp (by have := hlen j; omega) fun H4 E4 => ⟨G', .fr (.tuple ((kI ks[j]).map kD)), ?_⟩
        · rw [List.getElem?_set_ne hni.symm, List.getElem?_set_self (by rw [List.length_set]; exact nn)]
        · rw [List.getElem?_set_self (by rw [E'.len, List.length_set, List.length_set]; exact hil)]
        · rw [set_set_comm hni] at E4
          rw [List.take_succ_eq_append_getElem hj, List.foldl_append]
          exact E4
    · rw [List.length_map, List.take_of_length_le (Nat.le_refl _)] at E'
      exact f.nx _ _ _ _ (q s) (E'.back E1.ext)
end
end DL

set_option maxHeartbeats 1000000
/-! DL26: any, sum of lists; the values of a dict with tuple keys; for k in list(d), d a dict with tuple keys, with a return within; d[k], k a tuple. -/
namespace DL
open PySem PySem.Spec PyProof.Rows L2
theorem b_any : bootBuiltins "any" = some (.builtin "any") := by decide +kernel
theorem b_sum : bootBuiltins "sum" = some (.builtin "sum") := by decide +kernel
def tDGetP (K : PySem.W.Frag) (td ty : TE) : TE := fun σ H Q => td σ H fun x H1 => ty σ H1 fun y H2 => ∃ (a b : Addr) (v : V) (kvs : List (List Key × V)) (ks : List Key), x = .ref a ∧ Rd H2 a (.dT kvs) ∧ y = .ref b ∧ SqT K H2 b (ks.map kV) ∧ valV kvs ks = some v ∧ Q v H2
theorem pe_dgetP {X : Cx} {o i : Expr} {td ty : TE} {pos : Pos} (hu : X.A.units + 1 < cLine) (ho : PE X o td) (hi : PE X i ty) (hs : NoSl i) : PE X (.Subscript o i pos) (tDGetP X.K td ty) := by
  refine ⟨fun pins s σ H Q I h => subD_of PySem.F.slot_dict_getitem.lookup hs (thn (ho.run pins s σ H _ I h) fun u s1 ⟨x, H1, I1, rx, q1⟩ => thn (hi.run pins s1 σ H1 _ I1 q1) fun iv s2 ⟨y, H2, I2, ry, a, b, v, kvs, ks, ex, hd, ey, hb, hv, q2⟩ => ?_)⟩
  subst ex ey
  obtain rfl : u = Value.ref a := rx
  obtain rfl : iv = Value.ref b := ry
  obtain ⟨_, _, xs, rel, dd⟩ := dt_rd I2.hok hd
  obtain ⟨w', hw, rw'⟩ := RelO.some_of (v := v) (o := (atKey xs ks).map (·.2)) (by rw [← hv]; exact rel.val ks)
  obtain ⟨p, hp, hp2⟩ := Option.map_eq_some_iff.mp hw
  have kk : (tupleKind (mixKind X.prog X.w)).is s2.heap ks b := by
    obtain ⟨its, r, ⟨o', h1, h2, n, h3⟩, _⟩ := I2.tuple hb
    exact ⟨o', its.toArray, n, h1, h2, h3, by simpa using items_are (ks := ks) r⟩
  refine ⟨dd.typeIs, wpAny_getItem_heap (tupleKind_room_in1 hu) kk dd hp ?_⟩
  rw [hp2]
  exact ⟨v, H2, I2.tok _, rw', q2⟩
section
variable {K : PySem.W.Frag} {ρ : List Sl} {Ex : XK} {ta tb te : TE} {tt : TT} {t u : TS} {d : D} {P : Oc → Prop}
theorem sq_of {G H : Hp} (g : GH G H) {y : V} {ds : List D} (h : Dq K G y (.tuple ds)) : ∃ b vs, y = .ref b ∧ SqT K H b vs ∧ DqA K G vs ds := by
  cases h with
  | tup a b => exact ⟨_, _, rfl, g.t a, b⟩
theorem ev_getP {kvs : List (List Key × D)} {ks : List Key} (h : EV K ta ρ (dtD kvs)) (hk : EV K tb ρ (.tuple (ks.map kD))) (e : getG kvs ks = some d) : EV K (tDGetP K ta tb) ρ d := fun G0 H0 G H σ Q E k =>
  h G0 H0 G H σ _ E fun x G1 H1 e1 hx => hk G0 H0 G1 H1 σ _ (E.go e1) fun y G2 H2 e2 hy => by
    obtain ⟨a, es, rfl, h1, h2⟩ := dq_dt (hx.mono e2.g)
    obtain ⟨b, vs, rfl, hb, hvs⟩ := sq_of e2.gh hy
    have := keys_dq hvs
    subst this
    rcases h2.get (k := ks) with ⟨h3, h4⟩ | ⟨v, d', h3, h4, h5⟩
    · rw [e] at h4
      cases h4
    · rw [e] at h4
      cases h4
      exact ⟨a, b, v, es, ks, rfl, e2.gh.rd h1, rfl, hb, h3, k v G2 H2 (e1.trans e2) h5⟩
theorem bools_dq {G : Hp} : ∀ {bs : List Bool} {vs : List V}, DqA K G vs (bs.map PyData.bool) → vs = bs.map V.bl
  | [], _, h => by cases h; rfl
  | b :: bs, _, h => by
    cases h with
    | cons x y =>
      cases x
      rw [bools_dq y]
      rfl
theorem cd_any {bs : List Bool} : CD K (rAny K) [.list (bs.map PyData.bool)] (.bool (bs.any id)) := fun xs G H Q g hx q => by
  cases hx with
  | cons a b =>
    cases b
    cases a with
    | @lst a xs _ ha hr =>
      have := bools_dq hr
      subst this
      exact ⟨a, bs, rfl, SqL.of (g.lst ha), q _ G H (.refl g) (.bl _)⟩
theorem cd_sum {ns : List Int} : CD K (rSum K) [.list (ns.map PyData.int)] (.int ns.sum) := fun xs G H Q g hx q => by
  cases hx with
  | cons a b =>
    cases b
    cases a with
    | @lst a xs _ ha hr =>
      have := ints_dq hr
      subst this
      exact ⟨a, ns, rfl, SqL.of (g.lst ha), q _ G H (.refl g) (.int _)⟩
/-- for k in list(d), d own, keys tuples; a return within is fine -/
theorem st_listK {n : Nat} {kss : List (List Key)} {kvs : List (List Key × D)} {g : TG} (hi : ρ[n]? = some (.ow (dtD kvs))) (hk : kvs.map (·.1) = kss) (I : Nat → List Sl → Prop) (h0 : I 0 (ρ.set n (.fr (dtD kvs))))
    (hs : ∀ i ρ1, i < kss.length → I i ρ1 → ∃ ρ2 ts, GT K g ρ1 (.tuple ((kss.getD i []).map kD)) ρ2 ts ∧ ST K Ex t ρ2 (loopP (I (i + 1)) fun o => ∃ d, o = .rt d ∧ P (.rt d))) (hd : ∀ ρ1, I kss.length ρ1 → P (.nx ρ1)) : ST K Ex (tLock (tFor (iListT (tVar n)) g t)) ρ P := fun G0 H0 G H σ D E f => by
  obtain ⟨l, h1, h2, h3, h4⟩ := E.ow n _ hi
  obtain ⟨es, h5, h6⟩ := own_dt h4
  have E1 := E.frzAs (o := .dT es) (d' := dtD kvs) hi h1 (.of h5) fun gg => .dT (.inl upd_same) (h6.mono (Sub.of gg)).t
  generalize hG' : upd G l (.dT es) = G' at E1
  have hGl : G' l = some (.dT es) := by rw [← hG']; exact upd_same
  refine ⟨l, .dT es, h5, trivial, fun od => ?_⟩
  have EL := E1.lockA (od := od) h2 hGl rfl rfl
  have hlen : es.length = kss.length := by
    have := congrArg List.length hk
    rw [List.length_map] at this
    rw [h6.length, this]
  refine st_for0 (Ex := Ex) (P := fun o => (∃ ρ1, o = .nx ρ1 ∧ I kss.length ρ1) ∨ ∃ d, o = .rt d ∧ P (.rt d)) (item := fun i => .tuple ((kss.getD i []).map kD)) EL ⟨fun ρ' σ' G2 H2 p E2 => ?_, fun d v G2 H2 p x hv => ?_, fun ρ' σ' G2 H2 p => ?_, fun ρ' σ' G2 H2 p => ?_, fun C fl dd fs G2 H2 p => ?_⟩ (fun R z => ?_) I h0 (fun i ρ1 hi p => ?_) fun ρ1 p => .inl ⟨ρ1, rfl, p⟩
  · rcases p with ⟨ρ1, e, p⟩ | ⟨_, e, _⟩
    · cases e
      obtain ⟨q1, q2⟩ := E1.unlock h2 hGl rfl rfl E2
      exact ⟨q1, f.nx _ _ _ _ (hd _ p) q2⟩
    · cases e
  · rcases p with ⟨ρ1, e, _⟩ | ⟨_, e, p⟩
    · cases e
    · cases e
      have E2 : En K G' (upd H0 l (.frz od (.dT es))) G2 H2 [] [] := ⟨rfl, x, (fun i d h => nomatch h), (fun i d h => nomatch h), (fun i a dd fl h => nomatch h), (fun i j d e l h => nomatch h), (fun i kls h => nomatch h), (fun i j x y h => nomatch h)⟩
      obtain ⟨q1, q2⟩ := E1.unlock h2 hGl rfl rfl E2
      exact ⟨q1, f.rt _ _ _ _ p q2.ext hv⟩
  · rcases p with ⟨ρ1, e, _⟩ | ⟨_, e, _⟩ <;> cases e
  · rcases p with ⟨ρ1, e, _⟩ | ⟨_, e, _⟩ <;> cases e
  · rcases p with ⟨ρ1, e, _⟩ | ⟨_, e, _⟩ <;> cases e
  · refine ⟨_, h1, l, od, es, rfl, upd_same, z _ _ _ (hlen ▸ walk_keysT) (fun G2 H2 e => e.atF hGl rfl upd_same) fun i G2 H2 x H3 hlt e hy => ?_⟩
    obtain ⟨rfl, k, v, q, y1, rfl, y2⟩ := hy
    have hk' : k = kss.getD i [] := by
      have e1 := congrArg (fun m : List (List Key) => m[i]?) (h6.keys.trans hk)
      rw [List.getElem?_map, y1, List.getElem?_eq_getElem hlt] at e1
      injection e1 with e1
      rw [List.getD_eq_getElem?_getD, List.getElem?_eq_getElem hlt]
      exact e1
    refine ⟨_, Ext.tups e.gh, .tup (SqT.of (tupG_tup e.gh y2)) ?_⟩
    rw [hk']
    exact dq_keys _
  · obtain ⟨ρ2, ts, a, b⟩ := hs i ρ1 hi p
    refine ⟨ρ2, ts, a, b.mono fun o z => ?_⟩
    cases o with
    | nx _ => exact z
    | ct _ => exact z
    | bk _ => obtain ⟨_, e, _⟩ := z; cases e
    | rt _ => exact .inr z
    | ex _ _ => obtain ⟨_, e, _⟩ := z; cases e
end
end DL

set_option maxHeartbeats 1000000
/-! DL27: d.values() of a dict whose keys are tuples. -/
namespace DL
open PySem PySem.Spec PyProof.Rows L2
section
variable {X : Cx} {pins : List (Addr × Obj)} {σ : L2.St} {H : Hp} {s : Shared} {d : Addr} {o : Obj}
theorem frzTV {kvs : List (List Key × V)} (I : Inv X pins σ H s) (h : H d = some (.frz o (.dT kvs))) :
    (d == sysModules) = false ∧ s.heap.get? d = some o ∧ o.ExactDict ∧ ∃ (es : Array DictEntry) (ep : Nat), o.data = .dict es ep ∧ es.size = kvs.length ∧
      ∀ (i : Nat) (k : List Key) (v : V), kvs[i]? = some (k, v) → ∃ (en : DictEntry), es[i]? = some en ∧ RelV v en.val := by
  obtain ⟨hd, z, hs, xs, pr, o', es, ep, ho, hx, hdt, he, _⟩ := I.hok d _ h
  rw [hd] at ho
  cases ho
  refine ⟨hs, hd, hx, es, ep, hdt, ?_, fun i k v e => ?_⟩
  · have l1 : es.size = xs.length := size_of_entries he
    have l2 : kvs.length = xs.length := Paired.length pr
    omega
  · obtain ⟨b, hb, e1, e2, e3⟩ := paired_get pr e
    have q := entry_at he i
    rw [hb] at q
    exact ⟨_, q, e3⟩
end
def ItdT (d : Addr) (o : Obj) (kvs : List (List Key × V)) : It :=
  ⟨fun i H => H d = some (.frz o (.dT kvs)) ∧ i < kvs.length, fun i H x H' => H' = H ∧ ∃ k, kvs[i]? = some (k, x), fun i H => H d = some (.frz o (.dT kvs)) ∧ kvs.length ≤ i⟩
section
variable {P : Program} {w : World} {K : PySem.W.Frag} {tg : Expr} {d : Addr} {o : Obj} {es : Array DictEntry} {ep : Nat}
theorem turn_valsT {kvs : List (List Key × V)} (it : Addr) (hod : o.data = .dict es ep) : Turn P w K tg (ItdT d o kvs) [it] it (fun i h => h.IsValIter it d i kvs.length ep) where
  mem := by simp
  obj := fun i h st b hb => by
    have e : b = it := by simpa using hb
    subst e
    obtain ⟨oi, e, c, dd⟩ := st
    exact ⟨oi, e, fun v z => by rw [dd] at z; cases z⟩
  keep := fun i h h' st k => st.at fun oi e => k it (by simp) oi e
  item := by
    intro X hP hw hK hc i pins s σ H E I hf st hg
    subst hP hw hK
    obtain ⟨hd, hi⟩ := hg
    obtain ⟨f0, f1, f2, f3, f4, f5⟩ := hf it (by simp)
    obtain ⟨hs, hgd, hx, es', ep', hdt, hsz, ent⟩ := frzTV I hd
    obtain ⟨rfl, rfl⟩ := dict_ep hod hdt
    obtain ⟨⟨k, v⟩, hkv⟩ : ∃ p, kvs[i]? = some p := ⟨kvs[i], List.getElem?_eq_getElem hi⟩
    obtain ⟨en, hen, ru⟩ := ent i k v hkv
    rw [← hsz] at st
    have hi' : i < es'.size := by omega
    have hee : es'[i] = en := by
      rw [Array.getElem?_eq_getElem hi'] at hen
      injection hen
    refine wpAny_pyNext_values_item_raw st ⟨o, hgd, hx, hdt⟩ hi' fun h' st' sb => ?_
    rw [hee]
    have I1 : Inv X pins σ H { s with heap := h' } := I.turned (t' := s.toks) (fun b ob hb e => (sb.2 b hb).trans e) f0 f1 f3 f4 f5
    obtain ⟨oi, e, c, dd⟩ := id st'
    refine ⟨en.val, rfl, go_of (s := { s with heap := h' }) e c dd (by decide) ⟨v, H, I1, ru, ⟨rfl, k, hkv⟩, ?_, fun b hb => (hf b hb).1⟩⟩
    show h'.IsValIter it d (i + 1) kvs.length _
    rw [← hsz]
    exact st'
  done := by
    intro X hP hw hK hc i pins s σ H E I hf st hg
    subst hP hw hK
    obtain ⟨hd, hi⟩ := hg
    obtain ⟨f0, f1, f2, f3, f4, f5⟩ := hf it (by simp)
    obtain ⟨hs, hgd, hx, es', ep', hdt, hsz, ent⟩ := frzTV I hd
    obtain ⟨rfl, rfl⟩ := dict_ep hod hdt
    rw [← hsz] at st
    exact wpAny_pyNext_values_end_raw (I.ok.hd hc) st ⟨o, hgd, hx, hdt⟩ (by omega) fun h' eb => ⟨rfl, I.turned (t' := s.toks) (fun b ob hb e => eb b ob hb e) f0 f1 f3 f4 f5⟩
  self := fun A i s Q E st h => wpAny_pyIter_valiter st h
end
def iValsT (td : TE) : TI := fun σ H R => td σ H fun x H1 => ∃ d o kvs, x = .ref d ∧ H1 d = some (.frz o (.dT kvs)) ∧ R (ItdT d o kvs) H1
section
variable {X : Cx} {tg e : Expr} {td : TE} {apos cpos : Pos}
theorem pi_valuesT (he : PE X e td) (hbase : attributeBase e "values" X.env (eval e X.env) = eval e X.env := by rfl) (hline : (apos.endLine == cpos.line) = true := by rfl) : PI X tg (.Call (.Attribute e "values" apos) [] [] cpos) (iValsT td) := by
  refine ⟨fun pins s σ H R I h => ?_⟩
  refine wpAny_Call_method (T := "dict") (id := "dict.values") hbase rfl hline F.plainAttrs_dict F.slot_dict_values F.type_dict_values (thn (he.run pins s σ H _ I h) fun u s1 ⟨x, H1, I1, rx, d, o, kvs, ex, hd, q⟩ => ?_)
  subst ex
  obtain rfl : u = Value.ref d := rx
  obtain ⟨hs, hgd, hx, es, ep, hdt, hsz, ent⟩ := frzTV I1 hd
  have raw : s1.heap.DictRaw d es ep := ⟨o, hgd, hx, hdt⟩
  refine ⟨raw.typeIs, ?_, ?_⟩
  · intro b e
    cases e
    exact ⟨o, hgd, hx.2.1⟩
  have I2 : Inv X pins σ H1 { s1 with heap := s1.heap.push { cls := .type "dict_values", data := .fields #[.ref d] } } := I1.kept (t' := s1.toks) fun b ob q => Heap.get?_push_of_some _ q
  have fin : wpAny (model X.prog X.w) X.A (pyIter (.ref s1.heap.objs.size)) (PIE X pins σ tg R) X.xe { s1 with heap := s1.heap.push { cls := .type "dict_values", data := .fields #[.ref d] } } := by
    refine wpAny_pyIter_values_raw (d := d) (es := es) (ep := ep) ⟨_, Heap.get?_push_size _ rfl, rfl, rfl⟩ ⟨o, Heap.get?_push_of_some _ hgd, hx, hdt⟩ (pi_one (tk := s1.toks) I2 _ (turn_valsT _ hdt) ⟨_, Heap.get?_push_size _ rfl, rfl, ?_⟩ q)
    rw [hsz] <;> rfl
  show wpAny _ _ (callWith cpos (.builtin "dict.values") [.ref d] [] []) _ X.xe s1
  exact method_meetsIn F.slot_dict_values F.entry_dict_values rfl (PySem.evalArgs_none ⟨rfl, raw.typeIs, F.args_dict_values_1 _, _, meets_dict_values_raw d hs, ⟨es, ep, raw⟩, fin⟩)
end
theorem walk_valuesT {d : Addr} {o : Obj} {kvs : List (List Key × V)} : Walk (ItdT d o kvs) kvs.length (fun H => H d = some (.frz o (.dT kvs))) (fun i H x H' => H' = H ∧ ∃ k, kvs[i]? = some (k, x)) :=
  ⟨fun _ _ hi q => ⟨q, hi⟩, fun _ q => ⟨q, Nat.le_refl _⟩, fun _ _ _ _ _ _ y => y⟩
end DL

set_option maxHeartbeats 1000000
/-! DL28: return any([.. for x in d.values()]). -/
namespace DL
open PySem PySem.Spec PyProof.Rows L2
section
variable {K : PySem.W.Frag} {ρ : List Sl} {Ex : XK} {ta tb te : TE} {tt : TT} {t u : TS} {d : D} {P : Oc → Prop}
theorem en_lc0 {G0 H0 G H : Hp} {σ : L2.St} {wi : TI} {g : TG} {vs : List Nat} {n : Nat} {item : Nat → D} {b : Nat → Bool} {f : Nat → D} (E : En K G0 H0 G H σ ρ) (hi : EIp K wi σ G H n item) (hn : n ≤ 16000000)
    (hs : ∀ i, i < n → ∃ ρ2 ts, GT K g (wipeS ρ vs) (item i) ρ2 ts ∧ (∀ t ∈ ts, t ∈ vs) ∧ ET K tt ρ2 (b i) ∧ (b i = true → EV K te ρ2 (f i)))
    {Q : VK} (q : ∀ l vl G' H', Ext G H G' H' → H l = none → G' l = none → H' l = some (.lst vl) → DqA K G' vl (lcD n b f) → Q (.ref l) H') :
    tLc wi g tt te vs σ H Q :=
  hi _ fun J G1 H1 Gd Y x w hG hY Dl hD => by
    have E1 := E.go x
    have hH : H Dl = none := by
      exact x.gone hD
    have hG1 : G1 Dl = none := x.gh.none hD
    refine lc_it w (fun i H' => ∃ G' vl, Ext G1 H1 G' H' ∧ G' Dl = none ∧ H' Dl = some (.lst vl) ∧ DqA K G' vl (lcD i b f)) ⟨G1, [], .fresh x.gh hD, hG1, upd_same, .nil⟩ (fun i H' _ ⟨G', vl, e, _⟩ => hG G' H' e) (fun i y H' H3 hlt ⟨G', vl, e, n1, h1, r1⟩ hy => ?_)
      (fun H' ⟨G', vl, e, n1, h1, r1⟩ => q Dl vl G' H' (x.trans e) hH n1 h1 r1)
    obtain ⟨G3, x3, hdq⟩ := hY i G' H' y H3 hlt e hy
    obtain ⟨ρ2, ts, hg, hts, ht, he⟩ := hs i hlt
    have E3 : En K G0 H0 G3 H3 (L2.wipe σ vs) (wipeS ρ vs) := ((E1.go e).go x3).wipe vs
    have n3 : G3 Dl = none := x3.own _ _ h1 rfl n1
    refine hg G0 H0 G3 H3 _ y _ E3 hdq fun σ2 E2 hl hk => ⟨wipe_eq (by rw [hl, wipe_length]) hk hts, ?_⟩
    refine ht G0 H0 G3 H3 σ2 _ E2 fun G4 H4 x4 => ?_
    have h4 : H4 Dl = some (.lst vl) := x4.at n3 (x3.at n1 h1)
    have n4 : G4 Dl = none := x4.own _ _ (x3.at n1 h1) rfl n3
    have r4 : DqA K G4 vl (lcD i b f) := (r1.mono x3.g).mono x4.g
    have e4 : Ext G1 H1 G4 H4 := (e.trans x3).trans x4
    cases hb : b i with
    | false =>
      rw [if_neg Bool.false_ne_true]
      refine ⟨G4, vl, e4, n4, h4, ?_⟩
      unfold lcD
      rw [if_neg (by rw [hb]; exact Bool.false_ne_true)]
      exact r4
    | true =>
      rw [if_pos rfl]
      refine he hb G0 H0 G4 H4 σ2 _ (E2.go x4) fun u G5 H5 x5 hu => ?_
      have h5 := x5.at n4 h4
      have n5 := x5.own _ _ h4 rfl n4
      have hlen := lcD_len b f i
      have hl2 := r4.length
      refine ⟨vl, h5, by rw [hl2, sizeLine_eq]; omega, G5, vl ++ [u], ?_, n5, upd_same, ?_⟩
      · have e5 := e4.trans x5
        refine ⟨e5.gg, fun a o ha => ?_, fun a o ha => ?_, e5.own⟩
        · rw [upd_ne (ne_of_none ha hD)]; exact e5.hh a o ha
        · have ne : a ≠ Dl := ne_of_none ha n5
          exact (e5.gh a o ha).eq (upd_ne ne)
      · have hb' : lcD (i + 1) b f = lcD i b f ++ [f i] := by
          unfold lcD
          rw [if_pos hb]
          cases i <;> rfl
        rw [hb']
        exact (r4.mono x5.g).append (.one hu)
theorem lcD_bools (n : Nat) (b : Nat → Bool) : lcD n (fun _ => true) (fun i => .bool (b i)) = ((List.range n).map b).map PyData.bool := by
  induction n with
  | zero => rfl
  | succ n ih =>
    unfold lcD
    rw [if_pos rfl, ih, List.range_succ, List.map_append, List.map_append]
    rfl
/-- return any([b for x in d.values()]), d own -/
theorem st_retAny {n : Nat} {ps : List ((Int × Int) × Int)} {g : TG} {vs : List Nat} {b : Nat → Bool} (hi : ρ[n]? = some (.ow (dtD (cK ps)))) (hl : ps.length ≤ 16000000)
    (hs : ∀ i, i < ps.length → ∃ ρ2 ts, GT K g (wipeS (ρ.set n (.fr (dtD (cK ps)))) vs) (.int (ps.getD i ((0, 0), 0)).2) ρ2 ts ∧ (∀ t ∈ ts, t ∈ vs) ∧ EV K te ρ2 (.bool (b i)))
    (q : P (.rt (.bool (((List.range ps.length).map b).any id)))) : ST K Ex (tRet (tCB (rAny K) (tCons (tLockE (tLc (iValsT (tVar n)) g tYes te vs)) tNil))) ρ P := fun G0 H0 G H σ D E f => by
  obtain ⟨l, h1, h2, h3, h4⟩ := E.ow n _ hi
  obtain ⟨es, h5, h6⟩ := own_dt h4
  have E1 := E.frzAs (o := .dT es) (d' := dtD (cK ps)) hi h1 (.of h5) fun gg => .dT (.inl upd_same) (h6.mono (Sub.of gg)).t
  have h7 : DqV K (upd G l (.dT es)) es (cK ps) := h6.mono (Sub.of fun a o z => (by rw [upd_ne (ne_of_none z h3)]; exact z))
  generalize hG' : upd G l (.dT es) = G' at E1 h7
  have hGl : G' l = some (.dT es) := by rw [← hG']; exact upd_same
  refine ⟨l, .dT es, h5, trivial, fun od => ?_⟩
  have EL := E1.lockA (od := od) h2 hGl rfl rfl
  have hlen : es.length = ps.length := by
    rw [h7.length]
    unfold cK
    rw [List.length_map]
  refine en_lc0 (n := ps.length) (item := fun i => .int (ps.getD i ((0, 0), 0)).2) (b := fun _ => true) (f := fun i => .bool (b i)) EL (fun R z => ?_) hl (fun i hi => ?_) fun Dl vl G2 H2 x hD hn hv hr => ?_
  · refine ⟨_, h1, l, od, es, rfl, upd_same, z (ItdT l od es) G' _ _ _ (.refl EL.gh) (hlen ▸ walk_valuesT) (fun G2 H2 e => e.atF hGl rfl upd_same) fun i G2 H2 y H3 hlt e hy => ?_⟩
    obtain ⟨rfl, k, y1⟩ := hy
    obtain ⟨k', v', b1, b2, b3⟩ := h7.at (z := ([], PyData.none)) (i := i) (by unfold cK; rw [List.length_map]; exact hlt)
    rw [y1] at b1
    injection b1 with b1
    injection b1 with b0 b1
    subst b1
    have e2 : ((cK ps).getD i ([], PyData.none)).2 = .int (ps.getD i ((0, 0), 0)).2 := by
      unfold cK
      rw [List.getD_eq_getElem?_getD, List.getD_eq_getElem?_getD, List.getElem?_map, List.getElem?_eq_getElem hlt]
      rfl
    rw [e2] at b3
    exact ⟨_, .refl e.gh, b3.mono (Sub.of e.gg)⟩
  · obtain ⟨ρ2, ts, a1, a2, a3⟩ := hs i hi
    exact ⟨ρ2, ts, a1, a2, et_yes, fun _ => a3⟩
  · have E2 : En K G' (upd H0 l (.frz od (.dT es))) G2 H2 [] [] := ⟨rfl, EL.ext.trans x, (fun i d h => nomatch h), (fun i d h => nomatch h), (fun i a dd fl h => nomatch h), (fun i j d e l h => nomatch h), (fun i kls h => nomatch h), (fun i j x y h => nomatch h)⟩
    obtain ⟨q1, q2⟩ := E1.unlock h2 hGl rfl rfl E2
    refine ⟨q1, ?_⟩
    rw [lcD_bools] at hr
    have hb := bools_dq hr
    subst hb
    have ne : Dl ≠ l := fun z => by
      rw [z, x.gg _ _ hGl] at hn
      cases hn
    exact ⟨Dl, (List.range ps.length).map b, rfl, SqL.of ((upd_ne ne).trans hv), f.rt _ _ G2 _ q q2.ext (.bl _)⟩
end
end DL

set_option maxHeartbeats 1000000
/-! DL29: a < b < c < d. -/
namespace DL
open PySem PySem.Spec PyProof.Rows L2
def tChain3 (r r' r2 : R2) (ta tb tc td : TE) : TE := fun σ H Q => ta σ H fun x H1 => tb σ H1 fun y H2 => r x y H2 fun z H3 => ∃ k, z = .bl k ∧
  (if k = true then tc σ H3 fun w' H4 => r' y w' H4 fun z2 H5 => ∃ k2, z2 = .bl k2 ∧ (if k2 = true then td σ H5 fun w2 H6 => r2 w' w2 H6 Q else Q (.bl false) H5) else Q (.bl false) H3)
section
variable {X : Cx} {a b c d : Expr} {ta tb tc td : TE} {pos : Pos}
theorem pe_chain3 {op op' op2 : CmpOp} {r r' r2 : R2} (ho : OpR X (compareOp op) r) (ho' : OpR X (compareOp op') r') (ho2 : OpR X (compareOp op2) r2) (ha : PE X a ta) (hb : PE X b tb) (hc : PE X c tc) (hd : PE X d td)
    (hm : lastMarks [op, op', op2] [b, c, d] = false := by with_unfolding_all rfl) : PE X (.Compare a [op, op', op2] [b, c, d] pos) (tChain3 r r' r2 ta tb tc td) := by
  refine ⟨fun pins s σ H Q I h => ?_⟩
  refine Compare_chain (thn (ha.run pins s σ H _ I h) fun v s1 ⟨x, H1, I1, r1, q1⟩ => chain_link (thn (hb.run pins s1 σ H1 _ I1 q1) fun u s2 ⟨y, H2, I2, r2, q2⟩ =>
    thn (ho pins s2 σ H2 x y v u _ I2 r1 r2 q2) fun d s3 ⟨z, H3, I3, r3, k, e, q3⟩ => ?_)) hm
  subst e
  cases r3
  refine wpAny_truthy_bool ?_
  cases k with
  | false => exact ite_ff ⟨.bl false, H3, I3, rfl, q3⟩
  | true =>
    refine ite_tt (chain_link (thn (hc.run pins s3 σ H3 _ I3 q3) fun w' s4 ⟨z', H4, I4, r4, q4⟩ => thn (ho' pins s4 σ H4 y z' u w' _ I4 r2 r4 q4) fun d2 s5 ⟨z5, H5, I5, r5, k2, e2, q5⟩ => ?_))
    subst e2
    cases r5
    refine wpAny_truthy_bool ?_
    cases k2 with
    | false => exact ite_ff ⟨.bl false, H5, I5, rfl, q5⟩
    | true => exact ite_tt (chain_last (thn (hd.run pins s5 σ H5 _ I5 q5) fun w2 s6 ⟨z6, H6, I6, r6, q6⟩ => ho2 pins s6 σ H6 z' z6 w' w2 Q I6 r4 r6 q6))
end
section
variable {K : PySem.W.Frag} {ρ : List Sl} {ta tb tc td : TE}
theorem ev_chain3 {r r' r2 : R2} {d1 d2 d3 d4 : D} {b1 b2 b3 : Bool} (ha : EV K ta ρ d1) (hb : EV K tb ρ d2) (ho : OD K r d1 d2 (.bool b1)) (hc : b1 = true → EV K tc ρ d3) (ho' : b1 = true → OD K r' d2 d3 (.bool b2)) (hd : b1 = true → b2 = true → EV K td ρ d4) (ho2 : b1 = true → b2 = true → OD K r2 d3 d4 (.bool b3)) : EV K (tChain3 r r' r2 ta tb tc td) ρ (.bool (b1 && (b2 && b3))) := fun G0 H0 G H σ Q E q =>
  ha G0 H0 G H σ _ E fun x G1 H1 e1 h1 => hb G0 H0 G1 H1 σ _ (E.go e1) fun y G2 H2 e2 h2 => ho x y G2 H2 _ e2.gh (h1.mono e2.g) h2 fun v G3 H3 e3 h3 => by
    cases h3
    refine ⟨b1, rfl, ?_⟩
    have E3 := ((E.go e1).go e2).go e3
    cases b1 with
    | false =>
      rw [if_neg Bool.false_ne_true]
      exact q _ _ _ ((e1.trans e2).trans e3) (.bl _)
    | true =>
      rw [if_pos rfl]
      refine hc rfl G0 H0 G3 H3 σ _ E3 fun w G4 H4 e4 h4 => ho' rfl y w G4 H4 _ e4.gh ((h2.mono e3.g).mono e4.g) h4 fun v2 G5 H5 e5 h5 => ?_
      cases h5
      refine ⟨b2, rfl, ?_⟩
      cases b2 with
      | false =>
        rw [if_neg Bool.false_ne_true]
        exact q _ _ _ ((((e1.trans e2).trans e3).trans e4).trans e5) (.bl _)
      | true =>
        rw [if_pos rfl]
        refine hd rfl rfl G0 H0 G5 H5 σ _ ((E3.go e4).go e5) fun w2 G6 H6 e6 h6 => ho2 rfl rfl w w2 G6 H6 _ e6.gh ((h4.mono e5.g).mono e6.g) h6 fun v3 G7 H7 e7 h7 => ?_
        exact q _ _ _ ((((((e1.trans e2).trans e3).trans e4).trans e5).trans e6).trans e7) h7
end
end DL

set_option maxHeartbeats 1000000
/-! DL30: a def that is lent two lists of ints and puts more into them. -/
namespace DL
open PySem PySem.Spec PyProof.Rows L2
theorem rw_inv {K : PySem.W.Frag} {G : Hp} {v : V} {l : Addr} (h : Dq K G v (rwD l)) : v = .ref l := by
  replace h : Dq K G v (.dict [(.bool true, .int ((l : Nat) : Int))]) := h
  generalize e : [(PyData.bool true, PyData.int ((l : Nat) : Int))] = ls at h
  cases h with
  | dK a b =>
    cases b with
    | nil => cases e
    | cons a b =>
      injection e with e1 _
      injection e1 with e1 _
      exact (kD_bool e1.symm).elim
  | dT a b => injection e with e1 _; injection e1 with e1 _; cases e1
  | scr a => injection e with e1 _; injection e1 with e1 _; cases e1
  | sta a b => injection e with e1 _; injection e1 with _ e1; cases e1
  | opq a => injection e with e1 _; injection e1 with e1 _; cases e1
  | raw a =>
    injection e with e1 _
    injection e1 with _ e1
    injection e1 with e1
    have e1 := Int.ofNat.inj e1
    subst e1
    rfl
/-- as Ext, but for what stands at a, b -/
structure ExtL (G H G' H' : Hp) (a b : Addr) (ns ms : List Int) : Prop where
  gg : ∀ c o, G c = some o → G' c = some o
  hh : ∀ c o, c ≠ a → c ≠ b → H c = some o → H' c = some o ∨ mkd G c
  gh : GH G' H'
  own : ∀ c o, c ≠ a → c ≠ b → H c = some o → noTup o = true → G c = none → G' c = none
  ga : G' a = none
  gb : G' b = none
  la : H' a = some (.lst (ns.map V.int))
  lb : H' b = some (.lst (ms.map V.int))
theorem ExtL.of {G H G' H' : Hp} {a b : Addr} {ns ms : List Int} (x : Ext G H G' H') (ga : G a = none) (gb : G b = none) (la : H a = some (.lst (ns.map V.int))) (lb : H b = some (.lst (ms.map V.int))) : ExtL G H G' H' a b ns ms :=
  ⟨x.gg, fun c o _ _ => x.hh c o, x.gh, fun c o _ _ => x.own c o, x.own a _ la rfl ga, x.own b _ lb rfl gb, x.at ga la, x.at gb lb⟩
def PM (K : PySem.W.Frag) (Pre : List D → List Int → List Int → Prop) (Post : List D → List Int → List Int → D → List Int → List Int → Prop) : Sp := fun vs H Q _ => ∃ G ds us a b ns ms, GH G H ∧ DqA K G us ds ∧ vs = us ++ [.ref a, .ref b] ∧ H a = some (.lst (ns.map V.int)) ∧ H b = some (.lst (ms.map V.int)) ∧ a ≠ b ∧ G a = none ∧ G b = none ∧ Pre ds ns ms ∧
  ∀ d v G' H' ns' ms', Post ds ns ms d ns' ms' → ExtL G H G' H' a b ns' ms' → Dq K G' v d → Q v H'
section
variable (K : PySem.W.Frag)
/-- a body that is lent the lists at a and b -/
def STM (t : TS) (ρ : List Sl) (a b : Addr) (ns ms : List Int) (Post : D → List Int → List Int → Prop) : Prop := ∀ (G0 H0 G H : Hp) (σ : L2.St) (Dn : Ends), En K G0 H0 G H σ ρ → a ≠ b → H0 a = some (.lst (ns.map V.int)) → H0 b = some (.lst (ms.map V.int)) → G0 a = none → G0 b = none →
  (∀ d v G' H' ns' ms', Post d ns' ms' → ExtL G0 H0 G' H' a b ns' ms' → Dq K G' v d → Dn.rt v H') → t Dn σ H
def ETM (tt : TT) (ρ : List Sl) (a b : Addr) (ns ms : List Int) (k : Bool) : Prop := ∀ (G0 H0 G H : Hp) (σ : L2.St) (Q : Bool → Hp → Prop), En K G0 H0 G H σ ρ → H0 a = some (.lst (ns.map V.int)) → H0 b = some (.lst (ms.map V.int)) → G0 a = none → G0 b = none →
  (∀ G' H', Ext G H G' H' → Q k H') → tt σ H Q
end
section
variable {K : PySem.W.Frag} {ρ : List Sl} {Ex : XK} {ta tb te : TE} {tt tu : TT} {t u : TS} {d : D} {P : Oc → Prop} {a b : Addr} {ns ms : List Int} {Post : D → List Int → List Int → Prop}
theorem stm_st (h : ST K Ex t ρ (fun o => ∃ d, o = .rt d ∧ Post d ns ms)) : STM K t ρ a b ns ms Post := fun G0 H0 G H σ Dn E _ la lb ga gb q =>
  h G0 H0 G H σ _ E ⟨(fun _ _ _ _ ⟨_, e, _⟩ _ => nomatch e), (fun _ v G' H' ⟨d', e, p⟩ x hv => by cases e; exact q _ v G' H' ns ms p (.of x ga gb la lb) hv), (fun _ _ _ _ ⟨_, e, _⟩ _ => nomatch e), (fun _ _ _ _ ⟨_, e, _⟩ _ => nomatch e), (fun _ _ _ _ _ _ ⟨_, e, _⟩ => nomatch e)⟩
theorem stm_seq (h : ST K Ex t ρ (fun o => (∃ ρ', o = .nx ρ' ∧ STM K u ρ' a b ns ms Post) ∨ ∃ d, o = .rt d ∧ Post d ns ms)) : STM K (tSeq t u) ρ a b ns ms Post := fun G0 H0 G H σ Dn E ab la lb ga gb q =>
  h G0 H0 G H σ _ E ⟨(fun _ σ' G' H' p E' => by
      rcases p with ⟨ρ'', e, s⟩ | ⟨_, e, _⟩
      · cases e
        exact s G0 H0 G' H' σ' Dn E' ab la lb ga gb q
      · cases e), (fun _ v G' H' p x hv => by
      rcases p with ⟨_, e, _⟩ | ⟨d', e, p⟩
      · cases e
      · cases e
        exact q _ v G' H' ns ms p (.of x ga gb la lb) hv), (fun _ _ _ _ p _ => by rcases p with ⟨_, e, _⟩ | ⟨_, e, _⟩ <;> cases e), (fun _ _ _ _ p _ => by rcases p with ⟨_, e, _⟩ | ⟨_, e, _⟩ <;> cases e), (fun _ _ _ _ _ _ p => by rcases p with ⟨_, e, _⟩ | ⟨_, e, _⟩ <;> cases e)⟩
theorem etm_in {p : Nat} {i : Int} (h : EV K te ρ (.int i)) (hp : ρ[p]? = some (.fr (rwD a))) : ETM K (tTest (tOp (rInU K) te (tVar p))) ρ a b ns ms (decide (i ∈ ns)) := fun G0 H0 G H σ Q E la lb ga gb q =>
  h G0 H0 G H σ _ E fun v G1 H1 e1 h1 => by
    cases h1
    obtain ⟨w, x1, x2⟩ := (E.go e1).fr p _ hp
    have := rw_inv x2
    subst this
    have hl : H1 a = some (.lst (ns.map V.int)) := (E.ext.trans e1).at ga la
    refine ⟨_, x1, .inl ⟨a, _, rfl, .inl (SqL.of hl), rfl, by rw [List.all_map]; exact List.all_eq_true.mpr fun _ _ => rfl, _, rfl, ?_⟩⟩
    rw [inV_int]
    exact q G1 H1 e1
theorem etm_inB {p : Nat} {i : Int} (h : EV K te ρ (.int i)) (hp : ρ[p]? = some (.fr (rwD b))) : ETM K (tTest (tOp (rInU K) te (tVar p))) ρ a b ns ms (decide (i ∈ ms)) := fun G0 H0 G H σ Q E la lb ga gb q => etm_in (a := b) (b := a) (ns := ms) (ms := ns) h hp G0 H0 G H σ Q E lb la gb ga q
theorem etm_or {k1 k2 : Bool} (h1 : ETM K tt ρ a b ns ms k1) (h2 : ETM K tu ρ a b ns ms k2) : ETM K (tOr tt tu) ρ a b ns ms (k1 || k2) := fun G0 H0 G H σ Q E la lb ga gb q => h1 G0 H0 G H σ _ E la lb ga gb fun G1 H1 e1 => by
  cases k1 with
  | true => exact q G1 H1 e1
  | false => exact h2 G0 H0 G1 H1 σ Q (E.go e1) la lb ga gb fun G2 H2 e2 => q G2 H2 (e1.trans e2)
theorem stm_when {k : Bool} (h : ETM K tt ρ a b ns ms k) (h1 : k = true → STM K t ρ a b ns ms Post) (h2 : k = false → STM K u ρ a b ns ms Post) : STM K (tSeq (tIfS tt t tNext) u) ρ a b ns ms Post := fun G0 H0 G H σ Dn E ab la lb ga gb q =>
  h G0 H0 G H σ _ E la lb ga gb fun G1 H1 e1 => by
    cases k with
    | true => exact h1 rfl G0 H0 G1 H1 σ _ (E.go e1) ab la lb ga gb q
    | false => exact h2 rfl G0 H0 G1 H1 σ Dn (E.go e1) ab la lb ga gb q
/-- a thing that no slot knows is changed: a new start -/
theorem En.poke {G0 H0 G H : Hp} {σ : L2.St} (E : En K G0 H0 G H σ ρ) {c : Addr} {o0 o : HO} (h0 : H0 c = some o0) (hG : G c = none) : En K G (upd H0 c o) G (upd H c o) σ ρ := by
  have ne : ∀ x, H0 x = none → x ≠ c := fun x z e => by rw [e, h0] at z; cases z
  have gh : GH G (upd H c o) := fun x u r => (E.gh x u r).eq (upd_ne fun e => by rw [e, hG] at r; cases r)
  refine ⟨E.len, ⟨fun _ _ z => z, fun x o' e => ?_, gh, fun _ _ _ _ z => z⟩, E.fr, fun j e q => ?_, E.ex, E.dis, fun j kls q => ?_, E.ned⟩
  · by_cases hx : x = c
    · subst hx
      rw [upd_same] at e ⊢
      exact .inl e
    · rw [upd_ne hx] at e ⊢
      exact (E.ext.hh x o' e).imp id (mkd.mono E.ext.gg)
  · obtain ⟨l, a1, a2, a3, a4⟩ := E.ow j e q
    exact ⟨l, a1, by rw [upd_ne (ne l a2)]; exact a2, a3, a4.ext (Sub.refl G) (upd_ne (ne l a2))⟩
  · obtain ⟨l, as, a1, a2, a3⟩ := E.ne j kls q
    exact ⟨l, as, a1, a2.go (Sub.refl G) fun x hx => upd_ne (ne x (a3 x hx).1), fun x hx => ⟨by rw [upd_ne (ne x (a3 x hx).1)]; exact (a3 x hx).1, (a3 x hx).2⟩⟩
theorem ExtL.back {G0 H0 G H G' H' : Hp} {ns' ms' : List Int} {o : HO} {c : Addr} (x : Ext G0 H0 G H) (hc : c = a ∨ c = b) (y : ExtL G (upd H0 c o) G' H' a b ns' ms') : ExtL G0 H0 G' H' a b ns' ms' := by
  have nc : ∀ z, z ≠ a → z ≠ b → z ≠ c := fun z h1 h2 e => by rcases hc with h | h <;> rw [h] at e <;> contradiction
  refine ⟨fun z o h => y.gg z o (x.gg z o h), fun z o' h1 h2 h => ?_, y.gh, fun z o' h1 h2 h t n => ?_, y.ga, y.gb, y.la, y.lb⟩
  · exact (y.hh z o' h1 h2 (by rw [upd_ne (nc z h1 h2)]; exact h)).imp id (x.mark h)
  · exact y.own z o' h1 h2 (by rw [upd_ne (nc z h1 h2)]; exact h) t (x.own z o' h t n)
theorem stm_app {p : Nat} {i : Int} (h : EV K te ρ (.int i)) (hp : ρ[p]? = some (.fr (rwD a))) (hz : ns.length < 16000000) (q : STM K u ρ a b (ns ++ [i]) ms Post) :
    STM K (tSeq (tDrop (tBM K "list" rAppend (tVar p) (tCons te tNil))) u) ρ a b ns ms Post := fun G0 H0 G H σ Dn E ab la lb ga gb k => by
  obtain ⟨w, x1, x2⟩ := E.fr p _ hp
  have := rw_inv x2
  subst this
  refine ⟨_, x1, .inl ⟨rfl, _, SqL.of (E.ext.at ga la)⟩, h G0 H0 G H σ _ E fun v G1 H1 e1 h1 => ?_⟩
  cases h1
  have E1 := E.go e1
  have hl : H1 a = some (.lst (ns.map V.int)) := E1.ext.at ga la
  have ga1 : G1 a = none := E1.ext.own a _ la rfl ga
  have gb1 : G1 b = none := E1.ext.own b _ lb rfl gb
  refine ⟨a, _, _, rfl, rfl, hl, by rw [List.length_map, sizeLine_eq]; omega, ?_⟩
  rw [show ns.map V.int ++ [V.int i] = (ns ++ [i]).map V.int by rw [List.map_append]; rfl]
  exact q G1 _ G1 _ σ Dn (E1.poke la ga1) ab upd_same ((upd_ne ab.symm).trans lb) ga1 gb1 fun d v G' H' ns' ms' pp y hv => k d v G' H' ns' ms' pp (y.back E1.ext (.inl rfl)) hv
theorem ExtL.swap {G H G' H' : Hp} (y : ExtL G H G' H' a b ns ms) : ExtL G H G' H' b a ms ns := ⟨y.gg, fun c o h1 h2 => y.hh c o h2 h1, y.gh, fun c o h1 h2 => y.own c o h2 h1, y.gb, y.ga, y.lb, y.la⟩
theorem STM.swap (h : STM K t ρ b a ms ns fun d x y => Post d y x) : STM K t ρ a b ns ms Post := fun G0 H0 G H σ Dn E ab la lb ga gb q => h G0 H0 G H σ Dn E ab.symm lb la gb ga fun d v G' H' ns' ms' p y hv => q d v G' H' ms' ns' p y.swap hv
theorem stm_appB {p : Nat} {i : Int} (h : EV K te ρ (.int i)) (hp : ρ[p]? = some (.fr (rwD b))) (hz : ms.length < 16000000) (q : STM K u ρ a b ns (ms ++ [i]) Post) :
    STM K (tSeq (tDrop (tBM K "list" rAppend (tVar p) (tCons te tNil))) u) ρ a b ns ms Post := STM.swap (stm_app h hp hz (STM.swap q))
/-- the caller lends two own lists -/
theorem q_asgM {Pre : List D → List Int → List Int → Prop} {Po : List D → List Int → List Int → D → List Int → List Int → Prop} {Ey : XK} {p q i : Nat} {d0 d1 : D} (hp : ρ[p]? = some (.ow (.list (ns.map PyData.int)))) (hq : ρ[q]? = some (.ow (.list (ms.map PyData.int)))) (hpq : p ≠ q) (h0 : EV K ta ρ d0) (h1 : EV K tb ρ d1) (pre : Pre [d0, d1] ns ms)
    (k : ∀ d ns' ms', Po [d0, d1] ns ms d ns' ms' → ST K Ex u (((ρ.set p (.ow (.list (ns'.map PyData.int)))).set q (.ow (.list (ms'.map PyData.int)))).set i (.fr d)) P) :
    ST K Ex (tSeq (tAsg (tCall (PM K Pre Po) [] Ey (tCons ta (tCons tb (tCons (tVar p) (tCons (tVar q) tNil))))) (gName i)) u) ρ P :=
  st_seq fun G0 H0 G H σ D E f => h0 G0 H0 G H σ _ E fun v0 G1 H1 e1 g1 => h1 G0 H0 G1 H1 σ _ (E.go e1) fun v1 G2 H2 e2 g2 => by
    have E2 := (E.go e1).go e2
    obtain ⟨a, a1, a2, a3, a4⟩ := E2.ow p _ hp
    obtain ⟨b, b1, b2, b3, b4⟩ := E2.ow q _ hq
    have hab : a ≠ b := fun z => hpq (E2.dis p q _ _ a hp hq a1 (z ▸ b1))
    cases a4 with
    | @lst us _ a5 a6 =>
    cases b4 with
    | @lst ws _ b5 b6 =>
    have := ints_dq a6
    subst this
    have := ints_dq b6
    subst this
    refine ⟨_, a1, _, b1, ?_⟩
    show PM K Pre Po ([v0, v1, .ref a, .ref b] ++ []) H2 _ Ey
    rw [List.append_nil]
    refine ⟨G2, [d0, d1], [v0, v1], a, b, ns, ms, E2.gh, .cons (g1.mono e2.g) (.cons g2 .nil), rfl, a5, b5, hab, a3, b3, pre, fun d v G' H' ns' ms' pp x hv => ?_⟩
    have E3 := E2.write (o := .lst (ns'.map V.int)) (d' := .list (ns'.map PyData.int)) hp a1 (.lst upd_same (dq_ints ns'))
    have hq' : (ρ.set p (.ow (.list (ns'.map PyData.int))))[q]? = some (.ow (.list (ms.map PyData.int))) := by rw [List.getElem?_set_ne hpq]; exact hq
    have E4 := E3.write (o := .lst (ms'.map V.int)) (d' := .list (ms'.map PyData.int)) hq' b1 (.lst upd_same (dq_ints ms'))
    have X : Ext G2 (upd (upd H2 a (.lst (ns'.map V.int))) b (.lst (ms'.map V.int))) G' H' := by
      refine ⟨x.gg, fun c o e => ?_, x.gh, fun c o e t n => ?_⟩
      · by_cases hb : c = b
        · subst hb
          rw [upd_same] at e
          rw [← e]
          exact .inl x.lb
        · rw [upd_ne hb] at e
          by_cases ha : c = a
          · subst ha
            rw [upd_same] at e
            rw [← e]
            exact .inl x.la
          · rw [upd_ne ha] at e
            exact x.hh c o ha hb e
      · by_cases hb : c = b
        · subst hb; exact x.gb
        · rw [upd_ne hb] at e
          by_cases ha : c = a
          · subst ha; exact x.ga
          · rw [upd_ne ha] at e
            exact x.own c o ha hb e t n
    exact f.nx _ _ G' H' (k d ns' ms' pp) ((E4.go X).setF i hv)
end
section
variable {P : Program} {w : World} {K : PySem.W.Frag} {mg : Str → Option Value} {base : Heap}
theorem fn_pm {x qual : Str} {params : Arguments} {body : List Stmt} {scope : Scope} {f : Addr} {fd : FuncData} {N ps : List Str} {k : Nat} {Pre : List D → List Int → List Int → Prop} {Post : List D → List Int → List Int → D → List Int → List Int → Prop} (F : FunD K x qual params body scope [] [] f fd) (S : FnScope N ps scope)
    (len : ∀ ds ns ms, Pre ds ns ms → ds.length + 2 = ps.length)
    (hb : ∀ (cdv : Value) (A : Around) (outer : List PySem.Env) (s : Shared) (H : Hp) (E : XK), Room k (A.deeper (envOfC qual scope s.heap.objs.size f cdv)) →
      ∃ t, PSs (cxOf CX0 P w K mg base N qual scope f cdv A outer s H E) body t ∧ ∀ ds ns ms, Pre ds ns ms → ∀ a b, STM K t (start0 N.length (ds ++ [rwD a, rwD b])) a b ns ms (Post ds ns ms)) : FnOk P w K mg base CX0 (k + 1) f fd ps (PM K Pre Post) := by
  refine F.ok S (fun vs H Q E h => ?_) (fun cdv A outer s H vs Q E hr h => ?_)
  · obtain ⟨G, ds, us, a, b, ns, ms, g, ha, rfl, la, lb, ab, ga, gb, hR, q⟩ := h
    rw [List.length_append, ha.length]
    exact len ds ns ms hR
  · obtain ⟨t, h1, h2⟩ := hb cdv A outer s H E hr
    obtain ⟨G, ds, us, a, b, ns, ms, g, ha, rfl, la, lb, ab, ga, gb, hR, q⟩ := h
    exact ⟨t, h1, h2 ds ns ms hR a b G H G H _ _ (en_start g (ha.append (.cons (.raw a) (.cons (.raw b) .nil)))) ab la lb ga gb q⟩
end
end DL

set_option maxHeartbeats 2000000
/-! DL31: raising with a known context (L2N), parallel assignments within an except suite. -/
namespace DL
open PySem PySem.Spec PyProof.Rows L2

section
variable {prog : Program} {w : World} {A : Around} {E : Value → Shared → Prop} {s : Shared}
theorem next_tuple_end_hot {it t x1 : Addr} {i : Nat} {items} {Q : Option Value → Shared → Prop} (hot : HotX.HotAt A x1 s.heap) (hne1 : x1 ≠ it)
    (hit : IsTupIter s.heap it t i) (ht : IsTup s.heap t items) (hx : items[i]? = none)
    (hQ : ∀ h', Heap.ExtBut it s.heap h' → Q none { s with heap := h' }) : wpAny (model prog w) A (pyNext (.ref it)) Q E s := by
  obtain ⟨o, ho, hc, hd⟩ := id hit
  obtain ⟨ol, hol, _, nl, hdl⟩ := ht
  obtain ⟨hh, o1, vs1, h1, d1, c1⟩ := hot
  unfold pyNext
  refine wpAny_bind (wpAny_attempt (wpAny_callSpecial?_slot (name := Str.ofString "__next__") hit.typeIs slot_tupleiter_next
    (wpAny_call_entry slot_tupleiter_next hit.typeIs entry_tupleiter_next ?_ (args_tupleiter_next _))))
  show wpAny _ _ (field (.ref it) 0 >>= _) _ _ s
  refine wpAny_bind (wpAny_field ho hd (x := .ref t) rfl ?_)
  show wpAny _ _ (if (Value.ref t == Value.none) = true then _ else _) _ _ s
  rw [if_neg (show ¬ ((Value.ref t == Value.none) = true) from Bool.false_ne_true)]
  show wpAny _ _ (field (.ref it) 1 >>= _) _ _ s
  refine wpAny_bind (wpAny_field ho hd (x := .int i 0) rfl ?_)
  show wpAny _ _ (seqItems? (.ref t) >>= _) _ _ s
  refine wpAny_bind (wpAny_seqItems hol hdl ?_)
  simp only [Int.toNat_natCast, hx]
  refine wpAny_bind (wpAny_rule (wpAny_bind (wpAny_setField ho hd (by simp) ?_)))
  show wpAny _ _ (newExc (.type "StopIteration") [] >>= _) _ _ _
  refine wpAny_bind ?_
  simp only [newExc, newTuple]
  refine wpAny_bind (wpAny_newObj_type ?_ (by size_fits))
  refine wpAny_bind (m := firstArgMember _ _) (wpAny_of_eq (a := Value.none) (by first | rfl | (simp only [firstArgMember]; rfl)) ?_)
  refine wpAny_newObj_type ?_ (by size_fits)
  have g1 := (Heap.get?_update_other (h := s.heap) (Obj.mapFields (·.setIfInBounds 0 Value.none)) (a := it) (b := x1) ?_).trans h1
  · refine HotX.raiseNew_hot ⟨hh, o1, vs1, Heap.get?_push_of_some _ (Heap.get?_push_of_some _ g1), d1, c1⟩ (Nat.ne_of_lt (Heap.lt_size (Heap.get?_push_of_some _ g1))) (Heap.get?_push_size _ rfl) rfl (by first | (simp; done) | (simp; omega) | (simp only [Array.size_append]; simp; omega)) ?_
    refine wpAny_bind (wpAny_isInstance (T := "StopIteration") (b := true) ⟨_, Heap.get?_update_self _ (Heap.get?_push_size _ rfl) rfl, rfl⟩ isSubtype_stop ?_)
    refine wpAny_pure (hQ _ fun b o hb e => ?_)
    have e1 := (Heap.get?_update_other (h := s.heap) (Obj.mapFields (·.setIfInBounds 0 Value.none)) (a := it) (b := b) (Ne.symm hb)).trans e
    rw [Heap.get?_update_other _ _ (Nat.ne_of_gt (Heap.lt_size (Heap.get?_push_of_some _ e1)))]
    exact Heap.get?_push_of_some _ (Heap.get?_push_of_some _ e1)
  · exact Ne.symm hne1
theorem unpackItems_tuple_hot {t x1 : Addr} {items : Array Value} {Q : List Value → Shared → Prop} (hot : HotX.HotAt A x1 s.heap) (ht : IsTup s.heap t items)
    (hQ : ∀ h', Heap.ExtBut s.heap.objs.size s.heap h' → Q items.toList { s with heap := h' }) : wpAny (model prog w) A (unpackItems (.ref t) items.size none) Q E s := by
  have hlt : t ≠ s.heap.objs.size := by obtain ⟨o, ho, _⟩ := ht; exact Nat.ne_of_lt (Heap.lt_size ho)
  obtain ⟨hh, o1, vs1, h1, d1, c1⟩ := hot
  have hx1 : x1 ≠ s.heap.objs.size := Nat.ne_of_lt (Heap.lt_size h1)
  unfold unpackItems
  refine wpAny_bind ?_
  · unfold notIterableAtAll
    refine wpAny_bind (wpAny_specialOf ht.typeIs slot_tuple_iter.lookup ?_)
    refine wpAny_pure ?_
    simp only [Bool.false_eq_true, if_false]
    refine wpAny_bind (wpAny_holding (iter_tuple ht ?_))
    refine wpAny_bind (wpAny_holding (draw_tuple hlt items.size 0 _ _ ⟨_, Heap.get?_push_size _ rfl, rfl, rfl⟩ (ht.push _) (by omega) fun h₁ hit₁ hs₁ => ?_))
    have hall : List.take items.size (List.drop 0 items.toList) = items.toList := by
      rw [List.drop_zero]; exact List.take_of_length_le (by simp)
    rw [hall]
    rw [if_neg (by simp)]
    have ht₁ : IsTup h₁ t items := (ht.push _).extBut hs₁.extBut hlt
    have g1 : h₁.get? x1 = some o1 := hs₁.extBut x1 o1 hx1 (Heap.get?_push_of_some _ h1)
    refine wpAny_bind (wpAny_holding (next_tuple_end_hot ⟨hh, o1, vs1, g1, d1, c1⟩ hx1 hit₁ ht₁ (by simp) fun h₂ he₂ => ?_))
    simp only [Option.isSome_none, Bool.false_eq_true, if_false]
    refine wpAny_pure (hQ h₂ fun b o hb e => he₂ b o hb (hs₁.extBut b o hb (Heap.get?_push_of_some _ e)))
end

section
variable {X : Cx} {pos p : Pos}
theorem ps_parH {i j : Nat} {x y : Str} {a b : Expr} {ta : TA} {px py pt : Pos} {kt k2 pt2} (hc : L2H.HotC X) (hN : X.N.Nodup) (hi : X.N[i]? = some x) (hj : X.N[j]? = some y) (hij : i ≠ j)
    (hx : X.env.scope.names.lookup x = some .local) (hy : X.env.scope.names.lookup y = some .local) (ha : PA X [a, b] ta)
    (hw : swappedStores [.Tuple [.Name x px, .Name y py] kt pt] (.Tuple [a, b] k2 pt2) X.env = pure (some [x, y]))
    (hs : swapsWithSole [.Tuple [.Name x px, .Name y py] kt pt] (.Tuple [a, b] k2 pt2) pos.line X.env = pure false := by rfl) :
    PS X (.Assign [.Tuple [.Name x px, .Name y py] kt pt] (.Tuple [a, b] k2 pt2) pos) (tPar i j ta) := by
  refine ⟨fun pins s σ H D I h => ?_⟩
  rw [exec_Assign_arm]
  refine wpAny_bind (wpAny_standAt ?_)
  rw [hs]
  refine wpAny_bind (wpAny_pure ?_)
  rw [if_neg (by decide)]
  refine wpAny_bind (Tuple_ (thn (ha.run _ pins s σ H _ I h) fun us s1 ⟨vs, H1, I1, r1, q1⟩ => ?_))
  obtain ⟨v, w, e1, q1⟩ := q1
  subst e1
  obtain ⟨u1, u2, rfl, rv, rw'⟩ : ∃ u1 u2, us = [u1, u2] ∧ RelV v u1 ∧ RelV w u2 := by
    cases r1 with
    | cons p q =>
      cases q with
      | cons p' q' =>
        cases q'
        exact ⟨_, _, rfl, p, p'⟩
  refine wpAny_newObj_type ?_ (by show 2 ≤ sizeLine; decide)
  have I2 : Inv X pins σ H1 { s1 with heap := s1.heap.push { cls := .type "tuple", data := .seq [u1, u2].toArray } } := I1.kept (t' := s1.toks) fun b o e => Heap.get?_push_of_some _ e
  rw [hw]
  refine wpAny_bind (wpAny_pure ?_)
  show wpAny (model X.prog X.w) X.A (do rule "assign.swapped-stores"; let items ← unpackItems (.ref s1.heap.objs.size) 2 none; assignInOrder [fun v => bindName X.env y v, fun v => bindName X.env x v] items.reverse; pure Flow.next) _ _ _
  obtain ⟨x1, hot⟩ := hc.at I2
  refine wpAny_bind (wpAny_rule (wpAny_bind (unpackItems_tuple_hot (items := #[u1, u2]) hot (IsTup.new s1.heap _) fun h' hx' => ?_)))
  have I3 := I2.kept (h' := h') (t' := s1.toks) fun b o e => hx' b o (Nat.ne_of_lt (Heap.lt_size e)) e
  show wpAny _ _ (assignInOrder [fun v => bindName X.env y v, fun v => bindName X.env x v] [u2, u1] >>= fun _ => pure Flow.next) _ _ _
  refine wpAny_bind (assignInOrder_cons (wpAny_bindName (store_ok I3 hN hj (.inl hy) rw' (fun s2 I4 => ?_) (.inr hy))))
  refine assignInOrder_cons (wpAny_bindName (store_ok I4 hN hi (.inl hx) rv (fun s3 I5 => assignInOrder_nil (wpAny_pure ?_)) (.inr hx)))
  rw [List.set_comm _ _ (Ne.symm hij)] at I5
  exact ⟨_, H1, I5, q1⟩
/-- the suite's context bears the exception -/
theorem hot_suite {a : Addr} {oe : Obj} {cls : Value} {d : Option Addr} {pn : List (Addr × Obj)} (hz : L2N.Zn cls d oe) (hf : ∃ vs, oe.data = .fields vs) : L2H.HotC (X.suite a ((a, oe) :: pn)) := by
  obtain ⟨vs, hv⟩ := hf
  exact ⟨(a, oe), ⟨rfl, vs, hv, hz.2.2 vs hv⟩, List.mem_cons_self⟩
/-- C(e, ..), its context None -/
theorem pmk_oexN {X : Cx} {CX : CXT} {x : Str} {e : Expr} {es : List Expr} {ta : TA} {p pos : Pos} {C fI : Addr} {k : Nat} {fd : FuncData} {ps : List Str} {sp : Sp} (T : OexC X.K C) (iC : PySem.W.findIn X.K (.ref C) "__init__" = some (some (.ref fI))) (tI : PySem.W.typeIn X.K (.ref fI) = some (.type "function"))
    (F1 : FnOk X.prog X.w X.K X.mg X.base CX k fI fd ps sp) (hr : Room (k + 1) X.A) (hb : Binds X.K fd ps []) (hx : Passes CX X (fun _ _ _ => False)) (hg : Gl X x) (hm : X.mg x = some (.ref C)) (ha : PA X (e :: es) ta)
    (hdb : (x == ("__debug__" : Str)) = false := by decide) (he : starEach (e :: es) X.env = (false, eval e X.env) :: starEach es X.env := by rfl) (hpl : (backTo pos (starEach es X.env)).any (·.1) = false := by rfl) :
    L2N.PMk X (.Call (.Name x p) (e :: es) [] pos) (tMkO C sp [] ta) := by
  intro pins s σ H Q I h
  obtain ⟨nm, q, N, bs, bm, sn, sub, ab, col, dd, k0, k1, k2, k3, k5, hC, hbm⟩ := T.cls
  refine wpAny_Call_Name_kw (ld_glob I hg hm ?_ hdb)
  refine PySem.W.callWith_K (h₀ := X.base) I.ok.mod.kin T.kC (thn (ha.run pos pins s σ H _ I h) fun us s1 ⟨vs, H1, I1, r1, hz, q1⟩ => ⟨I1.kIn, ?_⟩) he hpl
  show wpAny _ _ (call (.ref C) us) _ _ _
  obtain ⟨hp, g, dr, tk, os⟩ := s1
  have hsz : hp.objs.size ≤ hp.objs.size + 1 := Nat.le_succ _
  have hn : H1 (hp.objs.size + 1) = none := I1.hok.fresh hsz
  have hq := q1 (hp.objs.size + 1) hn
  rw [List.append_nil] at hq
  have kk : ∀ b o, hp.get? b = some o → ((hp.push (PySem.W.kdv_tup us)).push (PySem.HandSPX.excO C hp.objs.size)).get? b = some o := fun b o e => Heap.get?_push_of_some _ (Heap.get?_push_of_some _ e)
  have hget : ((hp.push (PySem.W.kdv_tup us)).push (PySem.HandSPX.excO C hp.objs.size)).get? (hp.objs.size + 1) = some (PySem.HandSPX.excO C hp.objs.size) := by heap_get
  have I2 : Inv X pins σ (upd H1 (hp.objs.size + 1) (exo (hp.objs.size + 1) C none)) ⟨(hp.push (PySem.W.kdv_tup us)).push (PySem.HandSPX.excO C hp.objs.size), g, dr, tk, os⟩ :=
    I1.laid (t' := tk) (a := hp.objs.size + 1) (o := exo (hp.objs.size + 1) C none) (h' := (hp.push (PySem.W.kdv_tup us)).push (PySem.HandSPX.excO C hp.objs.size)) kk hsz (exo_ok hget)
  have r2 : Vals (V.ref (hp.objs.size + 1) :: vs) (Value.ref (hp.objs.size + 1) :: us) := .cons rfl r1
  have hl : (Value.ref (hp.objs.size + 1) :: us ++ []).length = ps.length := by
    have e := r2.length
    rw [F1.len _ _ _ _ hq] at e
    rw [List.append_nil]
    exact e.symm
  have hus : us.length ≤ sizeLine := by
    rw [← Paired.length r1, sizeLine_eq]
    omega
  have b2 := hb _ (Value.ref (hp.objs.size + 1) :: us) I2.kIn hl
  rw [List.append_nil] at b2
  refine wpAny_call (PySem.HandSPX.call_own F.excBase_ValueError (fun Y => PySem.HandSPX.refsVE_contains Y bm hbm) (I1.kIn _ _ hC) (PySem.W.looks_findIn I1.kIn iC) (fun self => PySem.W.bind_fn I1.kIn self tI) hus
    (codeAny_mono (F1.run _ X.stack _ _ ⟨Value.ref (hp.objs.size + 1) :: us, []⟩ (Value.ref (hp.objs.size + 1) :: us) _ _ (fun _ _ _ => False) (hr.make C us []) (I2.env0.make C us []) b2 r2 hq) fun r s' hq' => ?_))
  cases r with
  | error er => exact hx pins σ _ _ er s' I2 hq'
  | ok fl =>
    cases fl with
    | ret u =>
      obtain ⟨v, H2, os2, bare2, un2, hok2, rv, ev, d, fs, ea, ed, hd1, q2⟩ := hq'
      subst ev
      obtain ⟨h2, g2, d2, t2, os'⟩ := s'
      obtain ⟨t0, G, J, kG, ge, hoe, na⟩ := mk_end0 (d2 := d2) (t2 := t2) I1 hsz kk un2 hok2 os2 bare2 ea ed hd1
      refine ⟨rv, hp.objs.size + 1, _, _, ⟨G, g2, d2, t2, os'⟩, _, .ref C, some d, rfl, J, kG, ge, hoe, ⟨rfl, rfl, fun vs hv => ?_⟩, rfl, rfl, na, rfl, bare2, raises_own T.exC T.tyC, q2⟩
      cases hv
      rfl
    | next => exact False.elim hq'
    | brk => exact False.elim hq'
    | cont => exact False.elim hq'
theorem ps_raiseON {k j : Nat} {x : Str} {fls : List Str} {Ex : XK} {e : Expr} {es : List Expr} {t : TA} {pos2 : Pos} (O : ExOk X.prog X.w X.K X.mg X.base k x fls) (hr : Room j X.A) (hk : k + 1 ≤ j) (hc : X.calm = true) (tk : L2N.Takes X (fun cls d _ H => Ex cls d H)) (ha : PA X (e :: es) t) (hg : Gl X x := by rfl)
    (hdb : (x == ("__debug__" : Str)) = false := by decide) (he : starEach (e :: es) X.env = (false, eval e X.env) :: starEach es X.env := by rfl) (hpl : (backTo pos (starEach es X.env)).any (·.1) = false := by rfl) :
    PS X (.Raise (some (.Call (.Name x p) (e :: es) [] pos)) none pos2) (tRaiseO X.K (He.ga X.K x) fls Ex t) := by
  obtain ⟨m, ef, ⟨i1, i2⟩, fd, F, b⟩ := O
  exact L2N.ps_raise hc tk (pmk_oexN ef.oex i1 i2 F (hr.mono hk) b (fun _ _ _ _ _ _ _ h => h.elim) hg m ha hdb he hpl)
theorem pe_callDSN {k j : Nat} {x : Str} {ps : List Str} {sp : Sp} {e : Expr} {es : List Expr} {t : TA} {W : WX} (O : Okd X.prog X.w X.K X.mg X.base (L2N.CX X.prog X.w) k x ps sp) (hr : Room j X.A) (hk : k ≤ j) (tk : L2N.Takes X W) (ha : PA X (e :: es) t) (hg : Gl X x := by rfl)
    (hdb : (x == ("__debug__" : Str)) = false := by decide) (he : starEach (e :: es) X.env = (false, eval e X.env) :: starEach es X.env := by rfl) (hpl : (backTo pos (starEach es X.env)).any (·.1) = false := by rfl) :
    PE X (.Call (.Name x p) (e :: es) [] pos) (tCallS sp (WE W) t) := by
  obtain ⟨m, fd, F, b, kp⟩ := O
  exact pe_callS F (hr.mono hk) hg m kp b (fun σ => L2N.passAt tk σ) ha hdb he hpl
theorem takes0N {X : Cx} : L2N.Takes X (fun _ _ _ _ => False) := fun u s' ⟨a, B, sI, pins, σ, H, cls, d, e, I, nb, up, sky, na, os, ag, h⟩ => h.elim
end
section
variable {P : Program} {w : World} {K : PySem.W.Frag} {mg : Str → Option Value} {base : Heap}
/-- a def that may raise keeps its word, by its body's (any wish about exceptions) -/
theorem fn_pxC {CX : CXT} {x qual : Str} {params : Arguments} {body : List Stmt} {scope : Scope} {f : Addr} {fd : FuncData} {N ps : List Str} {k : Nat} {R : List D → D → Prop} {Y : List D → Addr → List (Str × D) → Prop} (F : FunD K x qual params body scope [] [] f fd) (S : FnScope N ps scope)
    (len : ∀ ds d, R ds d → ds.length = ps.length) (lenY : ∀ ds C fl, Y ds C fl → ds.length = ps.length)
    (hb : ∀ (cdv : Value) (A : Around) (outer : List PySem.Env) (s : Shared) (H : Hp) (E : XK), Room k (A.deeper (envOfC qual scope s.heap.objs.size f cdv)) →
      ∃ t, PSs (cxOf CX P w K mg base N qual scope f cdv A outer s H E) body t ∧ (∀ ds d, R ds d → DL.ST K E t (start0 N.length ds) (fun o => o = .rt d ∨ (d = .none ∧ ∃ ρ, o = .nx ρ))) ∧
        (∀ ds C fl, Y ds C fl → DL.ST K E t (start0 N.length ds) (fun o => o = .ex C fl))) : FnOk P w K mg base CX (k + 1) f fd ps (PX K R Y) := by
  refine F.ok S (fun vs H Q E h => ?_) (fun cdv A outer s H vs Q E hr h => ?_)
  · obtain ⟨G, ds, g, ha, h⟩ := h
    rcases h with ⟨d, hR, _⟩ | ⟨C, fl, hY, _⟩
    · exact ha.length.trans (len ds d hR)
    · exact ha.length.trans (lenY ds C fl hY)
  · obtain ⟨t, h1, h2, h3⟩ := hb cdv A outer s H E hr
    obtain ⟨G, ds, g, ha, h⟩ := h
    rcases h with ⟨d, hR, q⟩ | ⟨C, fl, hY, q⟩
    · refine ⟨t, h1, h2 ds d hR G H G H _ _ (en_start g ha) ⟨fun ρ' σ' G' H' p E' => ?_, fun d' v G' H' p x hv => ?_, fun ρ' σ' G' H' p E' => ?_, fun ρ' σ' G' H' p E' => ?_, fun C fl dd fs G' H' p => ?_⟩⟩
      · rcases p with p | ⟨rfl, _⟩
        · cases p
        · exact q _ G' H' E'.ext .non
      · rcases p with p | ⟨rfl, ρ, p⟩
        · cases p
          exact q v G' H' x hv
        · cases p
      · rcases p with p | ⟨_, _, p⟩ <;> cases p
      · rcases p with p | ⟨_, _, p⟩ <;> cases p
      · rcases p with p | ⟨_, _, p⟩ <;> cases p
    · exact ⟨t, h1, h3 ds C fl hY G H G H _ _ (en_start g ha) ⟨(fun _ _ _ _ p _ => nomatch p), (fun _ _ _ _ p _ => nomatch p), (fun _ _ _ _ p _ => nomatch p), (fun _ _ _ _ p _ => nomatch p), fun C' fl' dd fs G' H' p x h4 h5 => by
        cases p
        exact q dd fs G' H' x h4 h5⟩⟩
end
end DL

set_option maxHeartbeats 1000000
/-! DL32: lists and tuples of values that pass a test (AllP, LstP, OkP); parallel assignment by data. -/
namespace DL
open PySem PySem.Spec PyProof.Rows L2
def AllP (n : Nat) (p : D → Bool) : List D → Prop := fun ds => ds.length = n ∧ ds.all p = true
def LstP (n : Nat) (p : D → Bool) : D → Prop := fun d => ∃ ds, d = .list ds ∧ AllP n p ds
abbrev OkP (p : D → Bool) : D → Prop := fun d => p d = true
def IsI : D → Prop := fun d => ∃ i : Int, d = .int i
theorem AllP.app {n m : Nat} {p : D → Bool} {ds es : List D} (h : AllP n p ds) (k : AllP m p es) : AllP (n + m) p (ds ++ es) := ⟨by rw [List.length_append, h.1, k.1], by rw [List.all_append, h.2, k.2]; rfl⟩
theorem AllP.one {p : D → Bool} {d : D} (h : p d = true) : AllP 1 p [d] := ⟨rfl, by rw [List.all_cons, h]; rfl⟩
theorem strI_nat (k : Nat) : strI (k : Int) = ⟨((Nat.toDigits 10 k).map Char.toNat).toArray⟩ := by
  show Str.ofString (Nat.repr k) = _
  rw [Str.ofString_eq_toList]
  show Str.mk (((String.ofList (Nat.toDigits 10 k)).toList.map Char.toNat).toArray) = _
  rw [String.toList_ofList]
theorem strI_len {k n : Nat} (hn : 0 < n) (h : k < 10 ^ n) : (strI (k : Int)).length ≤ n := by
  rw [strI_nat]
  show ((Nat.toDigits 10 k).map Char.toNat).toArray.size ≤ n
  rw [List.size_toArray, List.length_map]
  exact (Nat.length_toDigits_le_iff (by decide) hn).mpr h
section
variable {K : PySem.W.Frag} {ρ : List Sl} {Ex : XK} {ta tb te : TE} {tr : TA} {t u : TS} {d d1 d2 : D} {P : Oc → Prop} {p q : D → Bool} {n m : Nat}
theorem eap_nil : EAX K tNil ρ (AllP 0 p) := eax_nil ⟨rfl, rfl⟩
theorem eap_cons (h : EVX K ta ρ (OkP p)) (hr : EAX K tr ρ (AllP n p)) : EAX K (tCons ta tr) ρ (AllP (n + 1) p) := eax_cons h hr fun d ds a b => ⟨by rw [List.length_cons, b.1], by rw [List.all_cons, b.2, show p d = true from a]; rfl⟩
theorem evp_tup (h : EAX K tr ρ (AllP n p)) (k : ∀ ds, ds.all p = true → ds.length ≤ 1000 → q (.tuple ds) = true) (hl : n ≤ 1000 := by decide) : EVX K (tTup tr) ρ (OkP q) := evx_tup h fun ds a => ⟨by rw [a.1, sizeLine_eq]; omega, k ds a.2 (by rw [a.1]; exact hl)⟩
theorem evnp_lst (h : EAX K tr ρ (AllP n p)) (hl : n ≤ 1000 := by decide) : EVNX K (tLst tr) ρ (LstP n p) := evnx_lst h fun ds a => ⟨by rw [a.1, sizeLine_eq]; omega, ds, rfl, a⟩
theorem evp_lst (h : EAX K tr ρ (AllP n p)) (k : ∀ ds, q (.list ds) = true) (hl : n ≤ 1000 := by decide) : EVX K (tLst tr) ρ (OkP q) := evx_N (evnx_lst h fun ds a => ⟨by rw [a.1, sizeLine_eq]; omega, k ds⟩)
theorem evp_i (h : EVX K te ρ IsI) (k : ∀ i, p (.int i) = true := by intro i; rfl) : EVX K te ρ (OkP p) := evx_mono h fun d ⟨i, e⟩ => e ▸ k i
theorem evi_var {i : Int} (hi : ρ[n]? = some (.fr (.int i))) : EVX K (tVar n) ρ IsI := evx_of (ev_var hi) ⟨i, rfl⟩
theorem evi_int {i : Int} : EVX K (tC (.int i)) ρ IsI := evx_of ev_int ⟨i, rfl⟩
theorem evi_add (h1 : EVX K ta ρ IsI) (h2 : EVX K tb ρ IsI) : EVX K (tOp (rAddU K) ta tb) ρ IsI := evx_op h1 h2 (by rintro a b ⟨i, rfl⟩ ⟨j, rfl⟩; exact ⟨_, od_addI, _, rfl⟩)
theorem evi_sub (h1 : EVX K ta ρ IsI) (h2 : EVX K tb ρ IsI) : EVX K (tOp rSubU ta tb) ρ IsI := evx_op h1 h2 (by rintro a b ⟨i, rfl⟩ ⟨j, rfl⟩; exact ⟨_, od_sub, _, rfl⟩)
theorem evi_neg {i : Int} : EVX K (tUn (rU fun i => .int (-i)) (tC (.int i))) ρ IsI := evx_of (ev_neg ev_int) ⟨_, rfl⟩
theorem evi_pow {i j : Int} (h : 0 ≤ j ∧ j ≤ 1000000 ∧ i.natAbs < 2 ^ 64 := by decide) : EVX K (tOp rPowU (tC (.int i)) (tC (.int j))) ρ IsI := evx_of (ev_op ev_int ev_int (od_pow h)) ⟨_, rfl⟩
theorem st_par {i j : Nat} (ha : EV K ta ρ d1) (hb : EV K tb ρ d2) (q : P (.nx ((ρ.set i (.fr d1)).set j (.fr d2)))) : ST K Ex (tPar i j (tCons ta (tCons tb tNil))) ρ P := fun G0 H0 G H σ D E f =>
  ha G0 H0 G H σ _ E fun v G1 H1 e1 h1 => hb G0 H0 G1 H1 σ _ (E.go e1) fun w G2 H2 e2 h2 => ⟨v, w, rfl, f.nx _ _ G2 H2 q ((((E.go e1).go e2).setF i (h1.mono e2.g)).setF j h2)⟩
theorem q_par {i j : Nat} (ha : EV K ta ρ d1) (hb : EV K tb ρ d2) (q : ST K Ex u ((ρ.set i (.fr d1)).set j (.fr d2)) P) : ST K Ex (tSeq (tPar i j (tCons ta (tCons tb tNil))) u) ρ P := st_seq (st_par ha hb q)
theorem st_parV {i j : Nat} {Pa Pb : D → Prop} (ha : EVX K ta ρ Pa) (hb : EVX K tb ρ Pb) (q : ∀ a b, Pa a → Pb b → P (.nx ((ρ.set i (.fr a)).set j (.fr b)))) : ST K Ex (tPar i j (tCons ta (tCons tb tNil))) ρ P := fun G0 H0 G H σ D E f =>
  ha G0 H0 G H σ _ E fun a v G1 H1 pa e1 h1 => hb G0 H0 G1 H1 σ _ (E.go e1) fun b w G2 H2 pb e2 h2 => ⟨v, w, rfl, f.nx _ _ G2 H2 (q a b pa pb) ((((E.go e1).go e2).setF i (h1.mono e2.g)).setF j h2)⟩
theorem q_parV {i j : Nat} {Pa Pb : D → Prop} (ha : EVX K ta ρ Pa) (hb : EVX K tb ρ Pb) (q : ∀ a b, Pa a → Pb b → ST K Ex u ((ρ.set i (.fr a)).set j (.fr b)) P) : ST K Ex (tSeq (tPar i j (tCons ta (tCons tb tNil))) u) ρ P := st_seq (st_parV ha hb q)
theorem st_augP {i : Nat} {ds : List D} (hi : ρ[i]? = some (.ow (.list ds))) (h : EVX K te ρ (LstP m p)) (hz : ds.length + m ≤ 16000000) (q : ∀ es, AllP m p es → P (.nx (ρ.set i (.ow (.list (ds ++ es)))))) : ST K Ex (tAug i te rIAddU) ρ P := fun G0 H0 G H σ D E f => by
  obtain ⟨l, vs, h1, h2, h3, h0⟩ := own_lookG E hi
  refine ⟨_, h1, h G0 H0 G H σ _ E fun dd y G1 H1 pd e1 hy => ?_⟩
  obtain ⟨es, rfl, al⟩ := pd
  cases hy with
  | @lst b xs _ hb hr =>
    have h4 := e1.at h0 h2
    have r4 := h3.mono e1.g
    refine .inr (.inr ⟨l, b, vs, xs, rfl, rfl, h4, e1.gh.lst hb, by rw [h3.length, hr.length, sizeLine_eq, al.1]; omega, ?_⟩)
    have E2 := (E.go e1).write hi h1 (.lst (upd_same (H := H1) (a := l) (o := .lst (vs ++ xs))) (r4.append hr))
    have E3 := f.nx _ σ G1 _ (q es al) E2
    have : σ.set i (some (V.ref l)) = σ := by
      refine List.ext_getElem? fun k => ?_
      by_cases e : i = k
      · subst e
        rw [List.getElem?_set_self (List.getElem?_eq_some_iff.mp h1).1, h1]
      · rw [List.getElem?_set_ne e]
    show D.nx (σ.set i (some (V.ref l))) _
    rw [this]
    exact E3
theorem q_augP {i : Nat} {ds : List D} (hi : ρ[i]? = some (.ow (.list ds))) (h : EVX K te ρ (LstP m p)) (hz : ds.length + m ≤ 16000000) (q : ∀ es, AllP m p es → ST K Ex u (ρ.set i (.ow (.list (ds ++ es)))) P) : ST K Ex (tSeq (tAug i te rIAddU) u) ρ P := st_seq (st_augP hi h hz q)
theorem st_augL {i : Nat} {ds : List D} {Pd : D → Prop} (hi : ρ[i]? = some (.ow (.list ds))) (h : EVX K te ρ Pd) (k : ∀ d, Pd d → ∃ es, d = .list es ∧ ds.length + es.length ≤ 16000000 ∧ P (.nx (ρ.set i (.ow (.list (ds ++ es)))))) : ST K Ex (tAug i te rIAddU) ρ P := fun G0 H0 G H σ D E f => by
  obtain ⟨l, vs, h1, h2, h3, h0⟩ := own_lookG E hi
  refine ⟨_, h1, h G0 H0 G H σ _ E fun dd y G1 H1 pd e1 hy => ?_⟩
  obtain ⟨es, rfl, hz, q⟩ := k dd pd
  cases hy with
  | @lst b xs _ hb hr =>
    have h4 := e1.at h0 h2
    have r4 := h3.mono e1.g
    refine .inr (.inr ⟨l, b, vs, xs, rfl, rfl, h4, e1.gh.lst hb, by rw [h3.length, hr.length, sizeLine_eq]; omega, ?_⟩)
    have E2 := (E.go e1).write hi h1 (.lst (upd_same (H := H1) (a := l) (o := .lst (vs ++ xs))) (r4.append hr))
    have E3 := f.nx _ σ G1 _ q E2
    have : σ.set i (some (V.ref l)) = σ := by
      refine List.ext_getElem? fun k => ?_
      by_cases e : i = k
      · subst e
        rw [List.getElem?_set_self (List.getElem?_eq_some_iff.mp h1).1, h1]
      · rw [List.getElem?_set_ne e]
    show D.nx (σ.set i (some (V.ref l))) _
    rw [this]
    exact E3
theorem q_augL {i : Nat} {ds : List D} {Pd : D → Prop} (hi : ρ[i]? = some (.ow (.list ds))) (h : EVX K te ρ Pd) (k : ∀ d, Pd d → ∃ es, d = .list es ∧ ds.length + es.length ≤ 16000000 ∧ ST K Ex u (ρ.set i (.ow (.list (ds ++ es)))) P) : ST K Ex (tSeq (tAug i te rIAddU) u) ρ P := st_seq (st_augL hi h k)
theorem q_appendV {i : Nat} {ds : List D} {Pd : D → Prop} (hi : ρ[i]? = some (.ow (.list ds))) (h : EVX K te ρ Pd) (hz : ds.length < 16000000) (q : ∀ d, Pd d → ST K Ex u (ρ.set i (.ow (.list (ds ++ [d])))) P) :
    ST K Ex (tSeq (tDrop (tBM K "list" rAppend (tVar i) (tCons te tNil))) u) ρ P := st_seq (st_appendV hi h hz q)
/-- a comprehension without a test: the list of what it tells, by a word about each element -/
theorem enx_lc {wi : TI} {g : TG} {vs : List Nat} {n : Nat} {item : Nat → D} {R : Nat → D → Prop} (hi : EI K wi ρ n item) (hn : n ≤ 16000000)
    (hs : ∀ i, i < n → ∃ ρ2 ts, GT K g (wipeS ρ vs) (item i) ρ2 ts ∧ (∀ t ∈ ts, t ∈ vs) ∧ EVX K te ρ2 (R i)) :
    EVNX K (tLc wi g tYes te vs) ρ (fun d => ∃ ds : List D, d = .list ds ∧ ds.length = n ∧ ∀ i, i < n → R i (ds.getD i .none)) := fun G0 H0 G H σ Q E q =>
  hi G0 H0 G H σ _ E fun J G1 H1 Gd Y x w hG hY Dl hD => by
    have E1 := E.go x
    have hH : H Dl = none := x.gone hD
    have hG1 : G1 Dl = none := x.gh.none hD
    refine lc_it w (fun i H' => ∃ G' vl ds, Ext G1 H1 G' H' ∧ G' Dl = none ∧ H' Dl = some (.lst vl) ∧ DqA K G' vl ds ∧ ds.length = i ∧ ∀ j, j < i → R j (ds.getD j .none)) ⟨G1, [], [], .fresh x.gh hD, hG1, upd_same, .nil, rfl, fun j hj => absurd hj (Nat.not_lt_zero _)⟩ (fun i H' _ ⟨G', vl, ds, e, _⟩ => hG G' H' e.gg e.gh) (fun i y H' H3 hlt ⟨G', vl, ds, e, n1, h1, r1, l1, k1⟩ hy => ?_)
      (fun H' ⟨G', vl, ds, e, n1, h1, r1, l1, k1⟩ => q _ Dl G' H' ⟨ds, rfl, l1, k1⟩ (x.trans e) hH n1 (.lst h1 r1))
    obtain ⟨G3, x3, hdq⟩ := hY i G' H' y H3 hlt e.gg e.gh hy
    obtain ⟨ρ2, ts, hg, hts, he⟩ := hs i hlt
    have E3 : En K G0 H0 G3 H3 (L2.wipe σ vs) (wipeS ρ vs) := ((E1.go e).go x3).wipe vs
    have n3 : G3 Dl = none := x3.own _ _ h1 rfl n1
    refine hg G0 H0 G3 H3 _ y _ E3 hdq fun σ2 E2 hl hk => ⟨wipe_eq (by rw [hl, wipe_length]) hk hts, ?_⟩
    refine et_yes G0 H0 G3 H3 σ2 _ E2 fun G4 H4 x4 => ?_
    have h4 : H4 Dl = some (.lst vl) := x4.at n3 (x3.at n1 h1)
    have n4 : G4 Dl = none := x4.own _ _ (x3.at n1 h1) rfl n3
    have r4 : DqA K G4 vl ds := (r1.mono x3.g).mono x4.g
    have e4 : Ext G1 H1 G4 H4 := (e.trans x3).trans x4
    rw [if_pos rfl]
    refine he G0 H0 G4 H4 σ2 _ (E2.go x4) fun d u G5 H5 pd x5 hu => ?_
    have h5 := x5.at n4 h4
    have n5 := x5.own _ _ h4 rfl n4
    have hl2 := r4.length
    refine ⟨vl, h5, by rw [hl2, sizeLine_eq]; omega, G5, vl ++ [u], ds ++ [d], ?_, n5, upd_same, (r4.mono x5.g).append (.one hu), by rw [List.length_append, l1]; rfl, fun j hj => ?_⟩
    · have e5 := e4.trans x5
      refine ⟨e5.gg, fun a o ha => ?_, fun a o ha => ?_, e5.own⟩
      · rw [upd_ne (ne_of_none ha hD)]; exact e5.hh a o ha
      · have ne : a ≠ Dl := ne_of_none ha n5
        exact (e5.gh a o ha).eq (upd_ne ne)
    · rw [List.getD_eq_getElem?_getD]
      by_cases z : j < i
      · rw [List.getElem?_append_left (by omega), ← List.getD_eq_getElem?_getD]
        exact k1 j z
      · have : j = ds.length := by omega
        rw [this, List.getElem?_append_right (Nat.le_refl _), Nat.sub_self]
        rw [l1]
        exact pd
theorem enp_lc {wi : TI} {g : TG} {vs : List Nat} {n : Nat} {item : Nat → D} (hi : EI K wi ρ n item) (hn : n ≤ 16000000)
    (hs : ∀ i, i < n → ∃ ρ2 ts, GT K g (wipeS ρ vs) (item i) ρ2 ts ∧ (∀ t ∈ ts, t ∈ vs) ∧ EVX K te ρ2 (OkP p)) : EVNX K (tLc wi g tYes te vs) ρ (LstP n p) := fun G0 H0 G H σ Q E q => enx_lc (R := fun _ => OkP p) hi hn hs G0 H0 G H σ Q E fun d l G' H' ⟨ds, e, hl, h⟩ => q d l G' H' ⟨ds, e, hl, List.all_eq_true.mpr fun x hx => by
    obtain ⟨i, hi, rfl⟩ := List.getElem_of_mem hx
    have := h i (by omega)
    rw [List.getD_eq_getElem?_getD, List.getElem?_eq_getElem hi] at this
    exact this⟩
/-- one of a list's elements, all of which pass the test, at a place told by a predicate -/
theorem evp_ixL {ds : List D} {Pc : D → Prop} (h : EV K ta ρ (.list ds)) (hp : ds.all p = true) (hb : EVX K tb ρ Pc) (hc : ∀ d, Pc d → ∃ k : Nat, d = .int (k : Int) ∧ k < ds.length) : EVX K (tOp (rIx K) ta tb) ρ (OkP p) := by
  refine evx_op (Pa := fun d => d = .list ds) (evx_of h rfl) hb ?_
  rintro a b rfl hb
  obtain ⟨k, rfl, hk⟩ := hc b hb
  refine ⟨ds.getD k .none, od_ixL (atI_nn PyData.none (by omega) (by omega)), ?_⟩
  exact List.all_eq_true.mp hp _ (by rw [List.getD_eq_getElem?_getD, List.getElem?_eq_getElem hk]; exact List.getElem_mem hk)
end
end DL

set_option maxHeartbeats 2000000
/-! DL33: sets of tuples of keys (ints, texts): the search, adding. The tables' theory is HandS.TupSets'; here it is used for keys whose hash is not told by the value alone. -/
namespace DL
open PySem PySem.Spec PyProof.Rows L2

abbrev ksH (P : Program) (w : World) (k : List Key) : Int := tupleKeyHash (mixKind P w) k
abbrev IsK (P : Program) (w : World) (h : Heap) (k : List Key) (a : Addr) : Prop := IsTupleKey (mixKind P w) h k a
abbrev KRow := Addr × List Key
/-- where the search for k stands behind c steps -/
abbrev Wy (P : Program) (w : World) (t : SetTable) (k : List Key) (c : Nat) : Nat := way t.mask (ksH P w k) c
abbrev Pr (P : Program) (w : World) (t : SetTable) (k : List Key) (c : Nat) : SetTable.Probe := nth t.mask (runAt t.mask (SetTable.bits (ksH P w k) % (t.mask + 1)) (SetTable.bits (ksH P w k))) c

section
variable {P : Program} {w : World} {A : Around} {E : Value → Shared → Prop} {s : Shared}
theorem items_key {k : List Key} {vs : List Value} (h : ItemsAre (mixKind P w) k vs) : ∀ v ∈ vs, (∃ i t, v = Value.int i t) ∨ ∃ x t, v = Value.str x t := by
  induction h with
  | nil => intro v hv; cases hv
  | @cons k0 v' ks vs h1 _ ih =>
    intro v hv
    rcases List.mem_cons.mp hv with rfl | hv
    · rcases keyIs_shape h1 with ⟨i, t, _, e⟩ | ⟨x, t, _, e⟩
      · exact .inl ⟨i, t, e⟩
      · exact .inr ⟨x, t, e⟩
    · exact ih v hv
theorem ofA_key (n : Nat) {v : Value} (h : (∃ i t, v = Value.int i t) ∨ ∃ x t, v = Value.str x t) : ofAClassStatement n v = pure false := by
  rcases h with ⟨i, t, rfl⟩ | ⟨x, t, rfl⟩ <;> cases n <;> rfl
theorem hashBy_key (n : Nat) {v : Value} (h : (∃ i t, v = Value.int i t) ∨ ∃ x t, v = Value.str x t) : ∃ b, hashByValue n v = pure b := by
  rcases h with ⟨i, t, rfl⟩ | ⟨x, t, rfl⟩
  · exact ⟨true, by cases n <;> rfl⟩
  · exact ⟨false, by cases n <;> rfl⟩
theorem ofA_ks {k : List Key} {b : Addr} {Q : Bool → Shared → Prop} (hk : IsK P w s.heap k b) (h : Q false s) : wpAny (model P w) A (ofAClassStatement 8 (.ref b)) Q E s := by
  have hT := hk.typeIs
  obtain ⟨o, items, n, ho, _, hd, hi⟩ := hk
  unfold ofAClassStatement
  refine wpAny_bind (wpAny_typeOf hT ?_)
  dsimp only
  have e : (("tuple" : String) == "tuple") = true := by decide
  simp only [e, if_true, Bool.not_true, Bool.false_eq_true, if_false]
  try refine wpAny_bind (wpAny_pure ?_)
  try simp only [Bool.not_true, Bool.false_eq_true, if_false]
  show wpAny _ _ (seqItems? (.ref b) >>= _) _ _ s
  refine wpAny_bind (wpAny_seqItems ho hd ?_)
  dsimp only
  refine wpAny_bind ?_
  show wpAny _ _ (forIn items _ _) _ _ s
  rw [← Array.forIn_toList]
  refine wpAny_forIn_list _ (fun rest r s' => r.1 = none ∧ s' = s ∧ ∀ v ∈ rest, (∃ i t, v = Value.int i t) ∨ ∃ x t, v = Value.str x t) _ ?_ ?_ _ _ ⟨rfl, rfl, items_key hi⟩
  · rintro v rest r s' ⟨hr, rfl, hall⟩
    rw [ofA_key _ (hall v List.mem_cons_self)]
    refine wpAny_bind (wpAny_pure ?_)
    simp only [Bool.false_eq_true, if_false]
    exact wpAny_pure ⟨rfl, rfl, fun u hu' => hall u (List.mem_cons_of_mem _ hu')⟩
  · rintro ⟨r1, r2⟩ s' ⟨hr, rfl, _⟩
    simp only at hr
    subst hr
    exact wpAny_pure h
/-- whether a tuple's hash is told by its value: nobody asks -/
theorem hashBy_ks {k : List Key} {b : Addr} {Q : Bool → Shared → Prop} (hk : IsK P w s.heap k b) (h : ∀ x, Q x s) : wpAny (model P w) A (hashByValue 8 (.ref b)) Q E s := by
  have hT := hk.typeIs
  obtain ⟨o, items, n, ho, _, hd, hi⟩ := hk
  unfold hashByValue
  refine wpAny_bind (wpAny_specialOf hT F.slot_tuple_hash.lookup ?_)
  show wpAny _ _ (seqItems? (.ref b) >>= _) _ _ s
  refine wpAny_bind (wpAny_seqItems ho hd ?_)
  refine wpAny_bind ?_
  show wpAny _ _ (forIn items _ _) _ _ s
  rw [← Array.forIn_toList]
  refine wpAny_forIn_list _ (fun rest r s' => s' = s ∧ ∀ v ∈ rest, (∃ i t, v = Value.int i t) ∨ ∃ x t, v = Value.str x t) _ ?_ ?_ _ _ ⟨rfl, items_key hi⟩
  · rintro v rest r s' ⟨rfl, hall⟩
    obtain ⟨x, hx⟩ := hashBy_key 7 (hall v List.mem_cons_self)
    rw [hx]
    refine wpAny_bind (wpAny_pure ?_)
    cases x with
    | true =>
      simp only [Bool.not_true, Bool.false_eq_true, if_false]
      exact wpAny_pure ⟨rfl, fun u hu' => hall u (List.mem_cons_of_mem _ hu')⟩
    | false =>
      simp only [Bool.not_false, if_true]
      exact wpAny_pure (wpAny_pure (h _))
  · rintro ⟨r1, r2⟩ s' ⟨rfl, _⟩
    cases r1 with
    | none => exact wpAny_pure (h _)
    | some b => exact wpAny_pure (h _)
theorem seen_ks {k : List Key} {b : Addr} {Q : Bool → Shared → Prop} (hk : IsK P w s.heap k b) {ys : List Value} (hy : ∀ y ∈ ys, ∃ k' c, y = Value.ref c ∧ IsK P w s.heap k' c) (h : Q false s) :
    wpAny (model P w) A (searchCouldBeSeen (.ref b) ys) Q E s := by
  unfold searchCouldBeSeen
  refine wpAny_bind ?_
  refine wpAny_forIn_list _ (fun rest r s' => r.1 = none ∧ s' = s ∧ ∀ y ∈ rest, ∃ k' c, y = Value.ref c ∧ IsK P w s.heap k' c) _ ?_ ?_ _ _ ⟨rfl, rfl, hy⟩
  · rintro v rest r s' ⟨hr, rfl, hall⟩
    obtain ⟨k', c, rfl, hc⟩ := hall v List.mem_cons_self
    have later : ∀ y ∈ rest, ∃ k' c, y = Value.ref c ∧ IsK P w s'.heap k' c := fun u hu' => hall u (List.mem_cons_of_mem _ hu')
    dsimp only
    by_cases hv : (b == c || (carriedByValue (.ref b) && carriedByValue (.ref c))) = true
    · exact wp_if_pos hv (wpAny_pure ⟨rfl, rfl, later⟩)
    · refine wp_if_neg hv ?_
      refine wpAny_bind (wpAny_eqIsQuiet_tuple hk ?_)
      simp only [Bool.not_true, Bool.false_eq_true, if_false]
      refine wpAny_bind (wpAny_eqIsQuiet_tuple hc ?_)
      simp only [Bool.not_true, Bool.false_eq_true, if_false]
      refine wpAny_bind (ofA_ks hk ?_)
      simp only [Bool.false_eq_true, if_false]
      refine wpAny_bind (ofA_ks hc ?_)
      simp only [Bool.false_eq_true, if_false]
      exact wpAny_pure ⟨rfl, rfl, later⟩
  · rintro ⟨r1, r2⟩ s' ⟨hr, rfl, _⟩
    simp only at hr
    subst hr
    exact wpAny_pure h

/-! ### the set -/
def ksRows (P : Program) (w : World) (L : List KRow) : List (Int × Value) := L.map fun p => (ksH P w p.2, Value.ref p.1)
structure SetK3 (P : Program) (w : World) (h : Heap) (a : Addr) (L : List KRow) (es : Array (Int × Value)) (ep : Nat) (t : SetTable) : Prop where
  ob : ∃ o, h.get? a = some o ∧ o.ExactSet ∧ o.data = .set es ep t
  rows : es.toList = ksRows P w L
  tab : TabOk t (L.map fun p => ksH P w p.2)
  nd : (L.map (·.2)).Nodup
  tup : ∀ p ∈ L, IsK P w h p.2 p.1
  led : w.params.followText "set-order" = true ∨ t.led = true
  room : L.length * 5 < t.mask * 3
  few : L.length ≤ 76
variable {a : Addr} {L : List KRow} {es : Array (Int × Value)} {ep : Nat} {t : SetTable}
theorem rows_len (h : es.toList = ksRows P w L) : es.size = L.length := by
  have h := congrArg List.length h
  unfold ksRows at h
  rw [Array.length_toList, List.length_map] at h
  exact h
theorem rows_at (h : es.toList = ksRows P w L) {i : Nat} {p : KRow} (hi : L[i]? = some p) : es[i]? = some (ksH P w p.2, Value.ref p.1) := by
  rw [← Array.getElem?_toList, h]
  unfold ksRows
  rw [List.getElem?_map, hi] <;> rfl
theorem fits_of (hs : t.place.size = es.size) (hd : t.dummies = #[]) (hl : es.size ≤ t.mask) : t.fits es.size = true := by
  unfold SetTable.fits SetTable.fill
  rw [hd, Bool.and_eq_true, beq_iff_eq, decide_eq_true_eq]
  show t.place.size = es.size ∧ t.place.size + 0 ≤ t.mask
  omega
theorem SetK3.psz (R : SetK3 P w s.heap a L es ep t) : t.place.size = es.size := by
  have h := R.tab.sz
  rw [List.length_map] at h
  rw [h, rows_len R.rows]
theorem SetK3.fits (R : SetK3 P w s.heap a L es ep t) : t.fits es.size = true := fits_of R.psz R.tab.dm (by
  have := R.room
  rw [rows_len R.rows]
  omega)
theorem SetK3.gw (R : SetK3 P w s.heap a L es ep t) : ¬ t.gaveWay = true := by
  unfold SetTable.gaveWay
  rw [mask_odd R.tab.mok]
  decide
theorem pr_dummy (t : SetTable) (k : List Key) (c : Nat) : (Pr P w t k c).dummy = none := by
  have key : ∀ (n : Nat) (p : SetTable.Probe), p.dummy = none → (nth t.mask p n).dummy = none := by
    intro n
    induction n with
    | zero => intro p h; exact h
    | succ n ih =>
      intro p h
      refine ih (adv t.mask p) ?_
      unfold adv
      split <;> exact h
  exact key c _ rfl
theorem pr_add (t : SetTable) (k : List Key) (c q : Nat) : nth t.mask (Pr P w t k c) q = Pr P w t k (c + q) := (nth_add t.mask c _ q).symm
/-- the search for k from the step c of its way on: it ends at the row of k, or at the first empty slot K -/
theorem k_search_from (R : SetK3 P w s.heap a L es ep t) {x : Addr} {k : List Key} (hx : IsK P w s.heap k x) (hu : A.units < cLine) {K : Nat} (hKf : K < 10 * SetTable.turns t.mask)
    (hK : Wy P w t k K ∉ t.place.toList) (hKb : ∀ c, c < K → Wy P w t k c ∈ t.place.toList) {Q : SetFound → Shared → Prop}
    (hin : k ∈ L.map (·.2) → Q (.there none) s) (hout : k ∉ L.map (·.2) → Q (.free (Wy P w t k K) false) s) :
    ∀ (f c : Nat) (stand : Option SetTable.Probe), stand.getD (t.probeStart (ksH P w k)) = Pr P w t k c → c ≤ K → K - c < f →
      (∀ (i : Nat) p, L[i]? = some p → p.2 = k → ∃ c', c ≤ c' ∧ c' < K ∧ t.place.toList[i]? = some (Wy P w t k c')) →
      wpAny (model P w) A (setSearchFrom a (.ref x) (ksH P w k) true f stand) Q E s
  | 0, c, stand, _, _, hf, _ => absurd hf (Nat.not_lt_zero _)
  | f + 1, c, stand, hst, hc, hf, hre => by
    obtain ⟨o, ho, hex, hd⟩ := R.ob
    rw [setSearchFrom_succ]
    refine wpAny_bind (wpAny_setState_of ho hd R.fits ?_)
    dsimp only
    refine wp_if_neg R.gw ?_
    try refine wpAny_bind (wpAny_pure ?_)
    have e1 : ∀ q, (nth t.mask (Pr P w t k c) q).j = Wy P w t k (c + q) := fun q => congrArg SetTable.Probe.j (pr_add t k c q)
    have spec := go_spec t R.tab.ris R.tab.dm (fun i => (es[i]?.map (·.1)).getD 0) (ksH P w k) (10 * SetTable.turns t.mask) (K - c) _ (pr_dummy (P := P) (w := w) t k c) (by omega)
      (fun q hq => by rw [e1]; exact hKb (c + q) (by omega)) (by rw [e1, show c + (K - c) = K by omega]; exact hK)
    have hashAt : ∀ (i : Nat) p, L[i]? = some p → (fun i => (es[i]?.map (·.1)).getD 0) i = ksH P w p.2 := fun i p hp => by
      show (es[i]?.map (·.1)).getD 0 = _
      rw [rows_at R.rows hp] <;> rfl
    rcases spec with ⟨q, i, hq, hi, hh, hno, hpr⟩ | ⟨hno, hpr⟩
    · have hpr' : t.probe (fun i => (es[i]?.map (·.1)).getD 0) (ksH P w k) (stand.getD (t.probeStart (ksH P w k))) = some (.candidate (Wy P w t k (c + q)) i (Pr P w t k (c + (q + 1)))) := by
        rw [hst, ← e1, ← pr_add]
        exact hpr
      rw [hpr']
      dsimp only
      rw [e1] at hi
      have hil : i < L.length := by
        have h1 : i < t.place.toList.length := (List.getElem?_eq_some_iff.mp hi).1
        have h2 := R.psz
        rw [rows_len R.rows] at h2
        rw [Array.length_toList] at h1
        omega
      have hp : L[i]? = some L[i] := List.getElem?_eq_getElem hil
      generalize hpe : L[i] = p at hp
      have hmem : p ∈ L := List.mem_of_getElem? hp
      have hpt := R.tup p hmem
      have hsl : t.slot (Wy P w t k (c + q)) = .live i := slot_live R.tab.ris hi
      have onward : wpAny (model P w) A (searchRest a (.ref x) (ksH P w k) true f es t (Wy P w t k (c + q)) i (Pr P w t k (c + (q + 1)))) Q E s := by
        unfold searchRest
        rw [rows_at R.rows hp]
        dsimp only
        refine wpAny_bind (wpAny_holding (wpAny_eqBool_tuple hu hpt hx ?_))
        refine wpAny_bind (wpAny_setState_of ho hd R.fits ?_)
        dsimp only
        by_cases hkk : p.2 = k
        · refine wp_if_pos (by simp [hkk]) ?_
          exact wpAny_pure (hin (List.mem_map.mpr ⟨p, hmem, hkk⟩))
        · refine wp_if_neg (by simp [hkk]) ?_
          try refine wpAny_bind (wpAny_pure ?_)
          rw [sameMem]
          dsimp only
          simp only [if_true, hsl, rows_at R.rows hp]
          refine wpAny_bind (wpAny_isSame_ref_self (wpAny_bind (wpAny_pure ?_)))
          simp only [if_true]
          refine wp_if_neg (by simp [hkk]) ?_
          refine k_search_from R hx hu hKf hK hKb hin hout f (c + (q + 1)) _ rfl (by omega) (by omega) fun i0 p0 h0 hk0 => ?_
          obtain ⟨c', a1, a2, a3⟩ := hre i0 p0 h0 hk0
          refine ⟨c', ?_, a2, a3⟩
          rcases Nat.lt_trichotomy c' (c + q) with z | z | z
          · refine absurd ((hashAt i0 p0 h0).trans (congrArg (ksH P w) hk0)) (hno (c' - c) i0 (by omega) ?_)
            rw [e1, show c + (c' - c) = c' by omega]
            exact a3
          · rw [z] at a3
            have s0 := slot_live R.tab.ris a3
            rw [hsl] at s0
            injection s0 with s0
            rw [← s0, hp] at h0
            exact absurd ((congrArg Prod.snd (Option.some.inj h0)).trans hk0) hkk
          · omega
      by_cases hl : t.led = true
      · refine wp_if_neg (by simp [hl]) ?_
        try refine wpAny_bind (wpAny_pure ?_)
        exact onward
      · refine wp_if_pos (by simp [hl]) ?_
        refine wpAny_bind (seen_ks hx (fun y hy => ?_) ?_)
        · obtain ⟨e, he, ee⟩ := List.mem_map.mp hy
          have he1 : e ∈ es ∧ e.1 = ksH P w k := by simpa using he
          have he2 : e ∈ es.toList := by simpa using he1.1
          rw [R.rows] at he2
          obtain ⟨p2, hp2, e2⟩ := List.mem_map.mp he2
          exact ⟨p2.2, p2.1, by rw [← ee, ← e2], R.tup p2 hp2⟩
        · refine wp_if_neg (by decide) ?_
          try refine wpAny_bind (wpAny_pure ?_)
          exact onward
    · have hpr' : t.probe (fun i => (es[i]?.map (·.1)).getD 0) (ksH P w k) (stand.getD (t.probeStart (ksH P w k))) = some (.empty (Wy P w t k K) none) := by
        have e2 : Wy P w t k K = (nth t.mask (Pr P w t k c) (K - c)).j := by rw [e1, show c + (K - c) = K by omega]
        rw [hst, e2]
        exact hpr
      rw [hpr']
      dsimp only
      refine wpAny_pure (hout fun hm => ?_)
      obtain ⟨p0, h0, hk0⟩ := List.mem_map.mp hm
      obtain ⟨i0, hi0, e0⟩ := List.getElem_of_mem h0
      have h00 : L[i0]? = some p0 := by rw [List.getElem?_eq_getElem hi0, e0]
      obtain ⟨c', a1, a2, a3⟩ := hre i0 p0 h00 hk0
      refine hno (c' - c) i0 (by omega) ?_ ((hashAt i0 p0 h00).trans (congrArg (ksH P w) hk0))
      rw [e1, show c + (c' - c) = c' by omega]
      exact a3
theorem k_search (R : SetK3 P w s.heap a L es ep t) {x : Addr} {k : List Key} (hx : IsK P w s.heap k x) (hu : A.units < cLine) {Q : SetFound → Shared → Prop}
    (hin : k ∈ L.map (·.2) → Q (.there none) s)
    (hout : ∀ K, k ∉ L.map (·.2) → Wy P w t k K ∉ t.place.toList → (∀ c, c < K → Wy P w t k c ∈ t.place.toList) → Q (.free (Wy P w t k K) false) s) :
    wpAny (model P w) A (setSearch a (.ref x) (ksH P w k) true) Q E s := by
  have hroom := R.room
  obtain ⟨K, hKf, hK, hKb⟩ := R.tab.first (by rw [List.length_map]; omega) (ksH P w k)
  have hbig : K < 100000 := by
    have : 10 * SetTable.turns t.mask ≤ 1420 := by
      unfold SetTable.turns
      rcases R.tab.mok with e | e | e <;> omega
    omega
  unfold setSearch
  refine k_search_from R hx hu hKf hK hKb hin (fun hn => hout K hn hK hKb) 100000 0 none rfl (Nat.zero_le _) (by omega) fun i p hp hk => ?_
  have hi : (L.map fun p => ksH P w p.2)[i]? = some (ksH P w k) := by rw [List.getElem?_map, hp, ← hk] <;> rfl
  have hil : i < t.place.toList.length := by
    have h1 : i < L.length := (List.getElem?_eq_some_iff.mp hp).1
    have h2 := R.psz
    rw [rows_len R.rows] at h2
    rw [Array.length_toList]
    omega
  have hj := List.getElem?_eq_getElem hil
  obtain ⟨c, hc, e⟩ := R.tab.before hK hi hj
  exact ⟨c, Nat.zero_le _, hc, by rw [hj]; exact congrArg some e.symm⟩
/-- a tuple is no set -/
theorem isK_same {h h' : Heap} {k : List Key} {a b : Addr} {o : Obj} {es : Array (Int × Value)} {ep : Nat} {t : SetTable} (hb : IsK P w h k b) (ho : h.get? a = some o) (hd : o.data = .set es ep t) (hs : Heap.SameBut a h h') : IsK P w h' k b := by
  obtain ⟨o', items, n, ho', hc, hd', hi⟩ := hb
  refine ⟨o', items, n, (hs.2 b ?_).trans ho', hc, hd', hi⟩
  rintro rfl
  cases Option.some.inj (ho'.symm.trans ho)
  rw [hd] at hd'
  exact nomatch hd'
theorem TabOk.off {t : SetTable} {hs : List Int} (T : TabOk t hs) : TabOk { t with plain := false } hs := ⟨T.ris, T.dm, T.sz, T.mok, T.bd, T.reach⟩
theorem ksRows_put (L : List KRow) (p : Nat) (x : Addr) (k : List Key) : ksRows P w (L.take p ++ (x, k) :: L.drop p) = (ksRows P w L).take p ++ (ksH P w k, Value.ref x) :: (ksRows P w L).drop p := by
  unfold ksRows
  rw [List.map_append, List.map_cons, List.map_take, List.map_drop]
/-- the rows picked by an order of all places -/
theorem ksRows_order (L : List KRow) (es : Array (Int × Value)) (order : Array Nat) (hr : es.toList = ksRows P w L) (hp : order.toList.Perm (List.range L.length)) :
    ∃ L2, (order.filterMap (es[·]?)).toList = ksRows P w L2 ∧ L2.Perm L ∧ (L2.map fun p => ksH P w p.2) = order.toList.map fun i => (es.map (·.1)).getD i 0 := by
  have hsz := rows_len hr
  have key : ∀ l : List Nat, (∀ i ∈ l, i < L.length) → l.filterMap (fun i => es[i]?) = ksRows P w (l.filterMap fun i => L[i]?) ∧ ((l.filterMap fun i => L[i]?).map fun p => ksH P w p.2) = l.map fun i => (es.map (·.1)).getD i 0 := by
    intro l
    induction l with
    | nil => intro _; exact ⟨rfl, rfl⟩
    | cons i l ih =>
      intro hl
      have hi := hl i List.mem_cons_self
      obtain ⟨e1, e3⟩ := ih fun j hj => hl j (List.mem_cons_of_mem _ hj)
      have eL : L[i]? = some L[i] := List.getElem?_eq_getElem hi
      have eE := rows_at hr eL
      rw [List.filterMap_cons_some eE, List.filterMap_cons_some eL, e1, List.map_cons, List.map_cons, e3]
      refine ⟨rfl, ?_⟩
      have e5 : (es.map (·.1))[i]? = some (ksH P w (L[i]).2) := by rw [Array.getElem?_map, eE] <;> rfl
      have e4 : (es.map (·.1)).getD i 0 = ksH P w (L[i]).2 := by simp [Array.getD_eq_getD_getElem?, e5]
      rw [e4]
  obtain ⟨e1, e3⟩ := key order.toList fun i hi => List.mem_range.mp (hp.mem_iff.mp hi)
  refine ⟨_, by first | (rw [Array.toList_filterMap]; exact e1) | simpa using e1, ?_, e3⟩
  have h1 := hp.filterMap fun i => L[i]?
  have h2 : ∀ n, n ≤ L.length → (List.range n).filterMap (fun i => L[i]?) = L.take n := by
    intro n
    induction n with
    | zero => intro _; rfl
    | succ n ih =>
      intro hn
      have hlt : n < L.length := hn
      rw [List.range_succ, List.filterMap_append, ih (Nat.le_of_lt hlt), List.take_succ, List.getElem?_eq_getElem hlt]
      rw [List.filterMap_cons_some (List.getElem?_eq_getElem hlt)] <;> rfl
  rw [h2 L.length (Nat.le_refl _), List.take_length] at h1
  exact h1
/-- the table is laid anew -/
theorem k_relay {o : Obj} (ho : s.heap.get? a = some o) (hex : o.ExactSet) (hd : o.data = .set es ep t) (hrows : es.toList = ksRows P w L) (hsz : t.place.size = es.size) (hdm : t.dummies = #[]) (hfl : es.size ≤ t.mask)
    (nd : (L.map (·.2)).Nodup) (tup : ∀ p ∈ L, IsK P w s.heap p.2 p.1) (ld : w.params.followText "set-order" = true ∨ t.led = true) (few : L.length ≤ 76) {wanted M : Nat}
    (hw : SetTable.sizeAbove wanted - 1 = M) (hM : MaskOk M) (hw2 : SetTable.sizeAbove wanted ≤ 128) (hn : L.length * 5 < M * 3) {Q : Unit → Shared → Prop}
    (hQ : ∀ h' L' es' ep' t', Heap.SameBut a s.heap h' → SetK3 P w h' a L' es' ep' t' → L'.Perm L → Q () { s with heap := h' }) : wpAny (model P w) A (setRelay a wanted) Q E s := by
  have hsl := rows_len hrows
  have hfits := fits_of hsz hdm hfl
  obtain ⟨t', order, e, hp, T, em, el, _, _⟩ := relaid_ok t (hs := es.map (·.1)) (wanted := wanted) hw hM (by rw [Array.size_map, hsl]; omega)
  rw [Array.size_map, hsl] at hp
  obtain ⟨L2, r1, r2, r3⟩ := ksRows_order L es order hrows hp
  rw [← r3] at T
  have hs2 : (order.filterMap (es[·]?)).size = es.size := by rw [rows_len r1, r2.length_eq, hsl]
  rw [setRelay_eq]
  refine wpAny_bind (wpAny_setState_of ho hd hfits ?_)
  dsimp only
  refine wp_if_neg (by rw [sizeLine_eq]; omega) ?_
  try refine wpAny_bind (wpAny_pure ?_)
  rw [e]
  dsimp only
  refine wpAny_bind ?_
  refine wp_if_neg (by rw [hs2]; simp) ?_
  try refine wpAny_bind (wpAny_pure ?_)
  refine wpAny_pure ?_
  dsimp only
  refine wpAny_storeSet_of ho hd ?_ (by rw [hs2, hsl, sizeLine_eq]; omega)
  have sb : Heap.SameBut a s.heap (s.heap.update a (Obj.putSet (order.filterMap (es[·]?)) t')) := Heap.SameBut.update ..
  refine hQ _ L2 (order.filterMap (es[·]?)) (ep + 1) t' sb ?_ r2
  refine ⟨⟨_, store_at ho hd, ⟨hex.1, hex.2.1, hex.2.2⟩, rfl⟩, r1, T, (r2.map (·.2)).nodup_iff.mpr nd, fun p hpm => isK_same (tup p (r2.mem_iff.mp hpm)) ho hd sb, by rw [el]; exact ld, ?_, by rw [r2.length_eq]; exact few⟩
  rw [r2.length_eq, em]
  exact hn
/-- the row is laid, and the table anew where it is too full -/
theorem k_lay (R : SetK3 P w s.heap a L es ep t) {x : Addr} {k : List Key} (hx : IsK P w s.heap k x) (hfew : L.length + 1 ≤ 76) (hm : k ∉ L.map (·.2)) {p : Nat} {t1 : SetTable}
    (q2 : p ≤ (L.map fun p => ksH P w p.2).length) (q3 : TabOk t1 ((L.map fun p => ksH P w p.2).take p ++ ksH P w k :: (L.map fun p => ksH P w p.2).drop p)) (q4 : t1.mask = t.mask) (q5 : t1.led = t.led) (q9 : t1.fill = L.length + 1) {Q : Bool → Shared → Prop}
    (hQ : ∀ h' L' es' ep' t', Heap.SameBut a s.heap h' → SetK3 P w h' a L' es' ep' t' → L'.Perm ((x, k) :: L) → Q true { s with heap := h' }) :
    wpAny (model P w) A (storeSet a (SetTable.insertAt es p (ksH P w k, .ref x)) t1) (fun _ s1 => (t1.tooFull = true → wpAny (model P w) A (setRelay a (SetTable.grown (es.size + 1))) (fun _ s2 => Q true s2) E s1) ∧ (t1.tooFull = false → Q true s1)) E s := by
  obtain ⟨o, ho, hex, hd⟩ := R.ob
  have hsl := rows_len R.rows
  have hroom := R.room
  have hin : (SetTable.insertAt es p (ksH P w k, Value.ref x)).toList = ksRows P w (L.take p ++ (x, k) :: L.drop p) := by rw [SetTable.toList_insertAt, ksRows_put, R.rows]
  have pm := put_perm L p (x, k)
  have hlen : (L.take p ++ (x, k) :: L.drop p).length = L.length + 1 := pm.length_eq
  have hhs : (L.take p ++ (x, k) :: L.drop p).map (fun p => ksH P w p.2) = (L.map fun p => ksH P w p.2).take p ++ ksH P w k :: (L.map fun p => ksH P w p.2).drop p := by
    rw [List.map_append, List.map_cons, List.map_take, List.map_drop]
  rw [← hhs] at q3
  have nd1 : ((L.take p ++ (x, k) :: L.drop p).map (·.2)).Nodup := by
    refine (pm.map (·.2)).nodup_iff.mpr ?_
    rw [List.map_cons]
    exact List.nodup_cons.mpr ⟨hm, R.nd⟩
  have hes : (SetTable.insertAt es p (ksH P w k, Value.ref x)).size = L.length + 1 := by rw [rows_len hin, hlen]
  generalize SetTable.insertAt es p (ksH P w k, Value.ref x) = es1 at hin hes ⊢
  generalize L.take p ++ (x, k) :: L.drop p = L1 at pm hlen q3 nd1 hin
  refine wpAny_storeSet_of ho hd ?_ (by rw [hes, sizeLine_eq]; omega)
  have sb : Heap.SameBut a s.heap (s.heap.update a (Obj.putSet es1 t1)) := Heap.SameBut.update ..
  have ho1 := store_at (es' := es1) (t' := t1) ho hd
  generalize s.heap.update a (Obj.putSet es1 t1) = h1 at sb ho1 ⊢
  have tup1 : ∀ p ∈ L1, IsK P w h1 p.2 p.1 := fun p hp => by
    rcases List.mem_cons.mp (pm.mem_iff.mp hp) with e | hp
    · rw [e]; exact isK_same hx ho hd sb
    · exact isK_same (R.tup p hp) ho hd sb
  have ld1 : w.params.followText "set-order" = true ∨ t1.led = true := by rw [q5]; exact R.led
  have full : t1.tooFull = decide (t1.fill * 5 ≥ t1.mask * 3) := rfl
  refine ⟨fun hf => ?_, fun hf => ?_⟩
  · have hfull : (L.length + 1) * 5 ≥ t.mask * 3 := by
      rw [full, decide_eq_true_eq, q9, q4] at hf
      exact hf
    have hsz1 : t1.place.size = es1.size := by
      have h := q3.sz
      rw [List.length_map, hlen] at h
      rw [h, hes]
    have two : (t.mask = 7 ∧ L.length = 4) ∨ (t.mask = 31 ∧ L.length = 18) := by
      rcases R.tab.mok with e | e | e
      · left; rw [e] at hfull hroom; exact ⟨e, by omega⟩
      · right; rw [e] at hfull hroom; exact ⟨e, by omega⟩
      · exfalso; rw [e] at hfull; omega
    have go : ∀ M, SetTable.sizeAbove (SetTable.grown (L.length + 1)) - 1 = M → MaskOk M → SetTable.sizeAbove (SetTable.grown (L.length + 1)) ≤ 128 → (L.length + 1) * 5 < M * 3 →
        wpAny (model P w) A (setRelay a (SetTable.grown (es.size + 1))) (fun _ s2 => Q true s2) E { s with heap := h1 } := fun M h1' h2' h3' h4' => by
      rw [hsl]
      refine k_relay (s := { s with heap := h1 }) ho1 ⟨hex.1, hex.2.1, hex.2.2⟩ rfl hin hsz1 q3.dm (by rw [hes, q4]; rcases two with ⟨e, e2⟩ | ⟨e, e2⟩ <;> omega) nd1 tup1 ld1 (by rw [hlen]; exact hfew) h1' h2' h3' (by rw [hlen]; exact h4') ?_
      intro h2 L2 es2 ep2 t2 sb2 R2 pm2
      exact hQ h2 L2 es2 ep2 t2 (sb.trans sb2) R2 (pm2.trans pm)
    rcases two with ⟨_, e2⟩ | ⟨_, e2⟩
    · exact go 31 (by rw [e2, size_20]) (.inr (.inl rfl)) (by rw [e2, size_20]; decide) (by omega)
    · exact go 127 (by rw [e2, size_76]) (.inr (.inr rfl)) (by rw [e2, size_76]; decide) (by omega)
  · have hnot : ¬ (L.length + 1) * 5 ≥ t1.mask * 3 := by
      rw [full, decide_eq_false_iff_not, q9] at hf
      exact hf
    exact (hQ h1 L1 es1 (ep + 1) t1 sb ⟨⟨_, ho1, ⟨hex.1, hex.2.1, hex.2.2⟩, rfl⟩, hin, q3, nd1, tup1, ld1, by rw [hlen]; omega, by rw [hlen]; exact hfew⟩ pm)
/-- the set takes the tuple at x -/
theorem k_add (R : SetK3 P w s.heap a L es ep t) {x : Addr} {k : List Key} (hx : IsK P w s.heap k x) (hu : A.units < cLine) (hfew : L.length + 1 ≤ 76) {Q : Bool → Shared → Prop}
    (hQ : ∀ b h' L' es' ep' t', Heap.SameBut a s.heap h' → SetK3 P w h' a L' es' ep' t' → (k ∈ L.map (·.2) → L' = L) → (k ∉ L.map (·.2) → L'.Perm ((x, k) :: L)) → Q b { s with heap := h' }) :
    wpAny (model P w) A (setAddHashed a (.ref x) (ksH P w k)) Q E s := by
  obtain ⟨o, ho, hex, hd⟩ := R.ob
  have hfits := R.fits
  unfold setAddHashed
  refine wpAny_holding ?_
  rw [show (100000 : Nat) = 99999 + 1 from rfl, setAddHashedIn_succ]
  refine wpAny_bind (wpAny_setState_of ho hd hfits ?_)
  dsimp only
  refine wp_if_neg (by simp [byScan, Value.scannable]) ?_
  try refine wpAny_bind (wpAny_pure ?_)
  refine wpAny_bind (k_search R hx hu (fun hm => ?_) fun K hm hK hb => ?_)
  · dsimp only
    exact wpAny_pure (hQ false s.heap L es ep t (Heap.SameBut.refl a s.heap) R (fun _ => rfl) fun z => absurd hm z)
  · dsimp only
    refine wpAny_bind (wpAny_setState_of ho hd hfits ?_)
    dsimp only
    obtain ⟨q1, q2, q3, q4, q5, q6, q7, q8, q9⟩ := R.tab.put hK hb
    rw [List.length_map] at q9
    change (t.put (Wy P w t k K)).2 = SetTable.below t.place (Wy P w t k K) at q1
    generalize hpt : t.put (Wy P w t k K) = pt at q1 q3 q4 q5 q6 q7 q8 q9 ⊢
    obtain ⟨t1, p⟩ := pt
    dsimp only at q1 q3 q4 q5 q6 q7 q8 q9 ⊢
    change p = SetTable.below t.place (way t.mask (ksH P w k) K) at q1
    rw [← q1] at q2 q3
    have fin : ∀ t2 : SetTable, t2 = t1 ∨ t2 = { t1 with plain := false } → ∀ (G : Unit → Sem Bool), (∀ s1, (t2.tooFull = true → wpAny (model P w) A (setRelay a (SetTable.grown (es.size + 1))) (fun _ s2 => Q true s2) E s1) ∧ (t2.tooFull = false → Q true s1) → wpAny (model P w) A (G ()) Q E s1) →
        wpAny (model P w) A (storeSet a (SetTable.insertAt es p (ksH P w k, .ref x)) t2 >>= G) Q E s := fun t2 ht G hG => by
      refine wpAny_bind (wpAny_mono (k_lay (Q := Q) R hx hfew hm (p := p) (t1 := t2) q2 ?_ ?_ ?_ ?_ fun h' L' es' ep' t' sb R' pm => hQ true h' L' es' ep' t' sb R' (fun z => absurd z hm) fun _ => pm) (fun _ s1 h1 => hG s1 h1) fun _ _ h => h)
      · rcases ht with rfl | rfl
        · exact q3
        · exact TabOk.off q3
      · rcases ht with rfl | rfl <;> exact q4
      · rcases ht with rfl | rfl <;> exact q5
      · rcases ht with rfl | rfl <;> exact q9
    have tail : ∀ (t2 : SetTable) s1, (t2.tooFull = true → wpAny (model P w) A (setRelay a (SetTable.grown (es.size + 1))) (fun _ s2 => Q true s2) E s1) ∧ (t2.tooFull = false → Q true s1) → wpAny (model P w) A (do
        if !false && t2.tooFull then setRelay a (SetTable.grown (es.size + 1))
        pure true) Q E s1 := fun t2 s1 ⟨h1, h2⟩ => by
      cases hf : t2.tooFull with
      | true =>
        first
          | exact wp_if_pos rfl (wpAny_bind (wpAny_mono (h1 hf) (fun _ _ h => wpAny_pure h) fun _ _ h => h))
          | (refine wpAny_bind ?_; exact wp_if_pos rfl (wpAny_mono (h1 hf) (fun _ _ h => wpAny_pure h) fun _ _ h => h))
      | false =>
        first
          | exact wp_if_neg (by decide) (wpAny_pure (h2 hf))
          | (refine wpAny_bind ?_; exact wp_if_neg (by decide) (wpAny_pure (wpAny_pure (h2 hf))))
    by_cases hp1 : t1.plain = true
    · first
        | refine wp_if_pos hp1 (wpAny_bind (hashBy_ks hx fun b => ?_))
        | (refine wpAny_bind ?_; refine wp_if_pos hp1 ?_; refine hashBy_ks hx fun b => ?_)
      cases b with
      | true =>
        simp only [if_true]
        exact fin t1 (.inl rfl) _ (tail t1)
      | false =>
        simp only [Bool.false_eq_true, if_false]
        exact fin _ (.inr rfl) _ (tail _)
    · first
        | (refine wp_if_neg hp1 (wpAny_bind (wpAny_pure ?_)))
        | (refine wpAny_bind ?_; refine wp_if_neg hp1 ?_; refine wpAny_pure ?_)
        | refine wp_if_neg hp1 ?_
      simp only [if_true]
      exact fin t1 (.inl rfl) _ (tail t1)
theorem isK_keep {h h' : Heap} {k : List Key} {b : Addr} (x : IsK P w h k b) (hk : ∀ c o, h.get? c = some o → h'.get? c = some o) : IsK P w h' k b := by
  obtain ⟨o, items, n, ho, r⟩ := x
  exact ⟨o, items, n, hk b o ho, r⟩
theorem setK3_fresh {h : Heap} {a : Addr} (ho : h.get? a = some { cls := .type "set", dict := none, data := .set #[] 0 (.fresh 0 0 (!w.params.followText "set-order")) }) : SetK3 P w h a [] #[] 0 (.fresh 0 0 (!w.params.followText "set-order")) :=
  ⟨⟨_, ho, ⟨rfl, rfl, rfl⟩, rfl⟩, rfl, ⟨List.Pairwise.nil, rfl, rfl, .inl rfl, fun x hx => (by cases hx), fun i h j hi => (by simp at hi)⟩, List.nodup_nil, fun p hp => (by cases hp), by
    show _ ∨ (!w.params.followText "set-order") = true
    cases w.params.followText "set-order"
    · exact .inr rfl
    · exact .inl rfl, by show 0 * 5 < 7 * 3; decide, by show 0 ≤ 76; decide⟩
end
end DL

set_option maxHeartbeats 3200000
/-! DL34: sets of texts: made of a list or a tuple of texts. -/
namespace DL
open PySem PySem.Spec PyProof.Rows L2 PySem.Froz
/-- the set at a holds the texts l -/
def SS (P : Program) (w : World) (h : Heap) (a : Addr) (l : List Str) : Prop := ∃ D : SD, h.get? a = some (sObj "set" D) ∧ TxOk P w D l ∧ l.Nodup ∧ Ris D.2.2.place.toList ∧ (w.params.followText "set-order" = true ∨ D.2.2.led = true)
section
variable {P : Program} {w : World} {A : Around} {E : Value → Shared → Prop} {s : Shared}
theorem SS.at {h h' : Heap} {a : Addr} {l : List Str} (x : SS P w h a l) (k : ∀ o, h.get? a = some o → h'.get? a = some o) : SS P w h' a l := by
  obtain ⟨D, ho, r⟩ := x
  exact ⟨D, k _ ho, r⟩
theorem addTx_ris (h : Int) (v : Value) (D : SD) (r : Ris D.2.2.place.toList) : Ris (addTx h v D).2.2.place.toList ∧ (addTx h v D).2.2.led = D.2.2.led := by
  have r1 := layNew_ris D.2.2 D.1 h v r
  have l1 := layNew_led D.2.2 D.1 h v
  unfold addTx tailTx
  have key : ∀ t2 : SetTable, Ris t2.place.toList → t2.led = D.2.2.led → ∀ (es1 : Array (Int × Value)) (b : Bool), Ris (if (!b && t2.tooFull) = true then ((relayAll t2 es1 (SetTable.grown es1.size)).1, D.2.1 + 2, (relayAll t2 es1 (SetTable.grown es1.size)).2.1) else (es1, D.2.1 + 1, t2)).2.2.place.toList ∧
      (if (!b && t2.tooFull) = true then ((relayAll t2 es1 (SetTable.grown es1.size)).1, D.2.1 + 2, (relayAll t2 es1 (SetTable.grown es1.size)).2.1) else (es1, D.2.1 + 1, t2)).2.2.led = D.2.2.led := fun t2 h1 h2 es1 b => by
    split
    · exact ⟨relayAll_ris _ _ _, (relayAll_led _ _ _).trans h2⟩
    · exact ⟨h1, h2⟩
  refine key _ ?_ ?_ _ _
  · split
    · exact r1
    · exact r1
  · split
    · exact l1
    · exact l1
/-- a text that is there already -/
theorem add_old {a : Addr} {T : String} {D : SD} {l : List Str} {k : Str} {u : Tok} {Q : Bool → Shared → Prop} (ho : s.heap.get? a = some (sObj T D)) (F : TxOk P w D l) (hk : k ∈ l) (hb : l.length < scanBound) (h : Q false s) : wpAny (model P w) A (setAddHashed a (.str k u) (hashStr w k)) Q E s := by
  obtain ⟨es, ep, t⟩ := D
  have hd : (sObj T (es, ep, t)).data = .set es ep t := rfl
  have hf : t.fits es.size = true := F.fit
  have hel : ElemsOf (strKind P w) es.toList := F.el
  have hsz : es.size = l.length := F.sz
  have hkey : (strKind P w).is k (.str k u) = true := is_str k u
  unfold setAddHashed setAddHashedIn
  refine wpAny_holding (wpAny_bind (wpAny_setState_of ho hd hf ?_))
  dsimp only
  rw [byScan_of rfl (by omega) hel]
  simp only [↓reduceIte]
  unfold setAddByScan
  refine wpAny_bind ?_
  refine wpAny_bind (wpAny_rule ?_)
  refine wpAny_bind (wpAny_setScan_of (knd := strKind P w) (k := k) hkey ho hd hf hel ?_)
  cases hr : List.findIdx? (fun e => (strKind P w).is k e.2) es.toList with
  | none =>
    obtain ⟨e, he, q⟩ := (F.mem k).mp hk
    have c := List.findIdx?_eq_none_iff.mp hr e he
    rw [q] at c
    cases c
  | some j =>
    dsimp only
    exact wpAny_pure (wpAny_pure h)
/-- the set takes a text -/
theorem ss_add {a : Addr} {l : List Str} {k : Str} {u : Tok} {Q : Bool → Shared → Prop} (R : SS P w s.heap a l) (hb : l.length + 1 < scanBound)
    (hQ : ∀ b h', Heap.SameBut a s.heap h' → SS P w h' a (if k ∈ l then l else k :: l) → Q b { s with heap := h' }) : wpAny (model P w) A (setAddHashed a (.str k u) (hashStr w k)) Q E s := by
  obtain ⟨D, ho, F, nd, r, ld⟩ := R
  by_cases hk : k ∈ l
  · rw [if_pos hk] at hQ
    exact add_old ho F hk (by omega) (hQ false s.heap (Heap.SameBut.refl a s.heap) ⟨D, ho, F, nd, r, ld⟩)
  · rw [if_neg hk] at hQ
    refine add_x ho F hk hb (hQ true _ (Heap.SameBut.update ..) ⟨_, get_upd _ ho rfl, add_ok u F, List.nodup_cons.mpr ⟨hk, nd⟩, ?_, ?_⟩)
    · exact (addTx_ris _ _ D r).1
    · exact ld.imp id fun z => by rw [(addTx_ris _ _ D r).2]; exact z
/-- what the set has got from the first i texts -/
structure GotS (xs : List Str) (i : Nat) (l : List Str) : Prop where
  mem : ∀ x, x ∈ l ↔ x ∈ xs.take i
  len : l.length ≤ i
theorem GotS.step {xs l : List Str} {i : Nat} {x : Str} (g : GotS xs i l) (h : xs[i]? = some x) : GotS xs (i + 1) (if x ∈ l then l else x :: l) := by
  have e : xs.take (i + 1) = xs.take i ++ [x] := take_next h
  have hm : ∀ y, y ∈ xs.take (i + 1) ↔ y ∈ l ∨ y = x := fun y => by
    rw [e, List.mem_append, List.mem_singleton, g.mem y]
  split
  · rename_i hx
    refine ⟨fun y => ?_, Nat.le_succ_of_le g.len⟩
    rw [hm y]
    exact ⟨.inl, fun z => z.elim id fun q => q ▸ hx⟩
  · refine ⟨fun y => ?_, Nat.succ_le_succ g.len⟩
    rw [hm y, List.mem_cons]
    exact Or.comm
/-- set.update's loop -/
theorem set_update_strs {I : Addr} {fp wr : List Addr} {G : Array GenState → Array GenState → Prop} {n : Nat} {Pv : Nat → Value → Prop} {St : Nat → Shared → Prop} {R : Result → Shared → Prop}
    (W : WalksS P w A.in1 I fp wr G n Pv St) (S : Addr) (hSf : S ∉ fp) (xs : List Str) (hn : n = xs.length) (hfew : xs.length + 1 < scanBound) (hval : ∀ i v, Pv i v → ∃ x t, xs[i]? = some x ∧ v = .str x t)
    (h0 : Heap) (hS0 : h0.get? S = none) (hw0 : ∀ b ∈ wr, h0.get? b = none) :
    ∀ (k i : Nat) (s : Shared), n - i = k → i ≤ n → St i s → (∀ b o, h0.get? b = some o → s.heap.get? b = some o) → (∃ l, SS P w s.heap S l ∧ GotS xs i l) →
      (∀ s' l, Moved (S :: wr) G s s' → SS P w s'.heap S l → GotS xs n l → (∀ b o, h0.get? b = some o → s'.heap.get? b = some o) → R (.ok (.ret .none)) s') →
      codeAny (model P w) A (.builtin "set.update.loop" ⟨[.ref S, .ref I], []⟩) R s := by
  have hSw : S ∉ wr := fun h => hSf (W.sub _ h)
  have hsub : ∀ b ∈ wr, b ∈ S :: wr := fun b hb => List.mem_cons_of_mem _ hb
  have keepM : ∀ {s s' : Shared}, Moved wr G s s' → (∀ b o, h0.get? b = some o → s.heap.get? b = some o) → ∀ b o, h0.get? b = some o → s'.heap.get? b = some o := fun hm hkp b o e =>
    hm.heap b o (fun hb => by rw [hw0 b hb] at e; cases e) (hkp b o e)
  intro k
  induction k with
  | zero =>
    intro i s hk' hi hst hkp ⟨l, hS, g⟩ hR
    have hin : i = n := by omega
    subst hin
    refine codeAny_builtin F.entry_set_update_loop ?_
    rw [Around.under_plainId F.plain_set_update_loop _]
    show wpAny _ A.in1 (pyNext (.ref I) >>= _) _ _ s
    refine wpAny_bind (W.done s _ _ hst fun s' hm => ?_)
    show wpAny _ A.in1 (ret Value.none) _ _ s'
    exact wpAny_pure (hR s' l (hm.mono hsub) (hS.at fun o e => hm.heap S o hSw e) g (keepM hm hkp))
  | succ k ih =>
    intro i s hk' hi hst hkp ⟨l, hS, g⟩ hR
    have hlt : i < n := by omega
    refine codeAny_builtin F.entry_set_update_loop ?_
    rw [Around.under_plainId F.plain_set_update_loop _]
    show wpAny _ A.in1 (pyNext (.ref I) >>= _) _ _ s
    refine wpAny_bind (W.item i s _ _ hlt hst fun v s' hP hst' hm => ?_)
    obtain ⟨x, t, hp, rfl⟩ := hval i v hP
    have hkp' := keepM hm hkp
    have hS' : SS P w s'.heap S l := hS.at fun o e => hm.heap S o hSw e
    show wpAny _ A.in1 (holding [Value.str x t] (setAdd S (.str x t)) >>= _) _ _ s'
    refine wpAny_bind (wpAny_holding ?_)
    unfold setAdd
    refine wpAny_holding ?_
    refine wpAny_bind ((strKind P w).pyHash (is_str x t) ?_)
    refine ss_add (s := { s' with toks := s'.toks + 1 }) hS' (by have := g.len; omega) fun b h' hsb hS2 => ?_
    have hkp2 : ∀ b o, h0.get? b = some o → h'.get? b = some o := fun b o e => (hsb.2 b (fun z => by rw [z, hS0] at e; cases e)).trans (hkp' b o e)
    refine wpAny_pure ⟨plainId_quiet F.plain_set_update_loop _, ih (i + 1) _ (by omega) hlt (W.frame _ s' _ _ hst' (Nat.le_add_right _ _) fun b hb o e => ?_) hkp2 ⟨_, hS2, g.step hp⟩ fun s'' l2 hm'' hS'' g'' hkp'' => ?_⟩
    · rw [hsb.2 b (fun h : b = S => hSf (by rw [← h]; exact hb))]; exact e
    · refine hR s'' l2 (Moved.trans W.gtrans ((hm.mono hsub).then_heap (Nat.le_add_right _ _) fun b o hb e => ?_) hm'') hS'' g'' hkp''
      rw [hsb.2 b (fun h : b = S => hb (by rw [h]; exact List.mem_cons_self))]; exact e

/-- set(xs), xs a list of texts -/
theorem call_setS_list {l : Addr} {items : Array Value} (xs : List Str) {Q : Value → Shared → Prop} (hh : A.handled = none) (hl : s.heap.IsList l items) (hval : ∀ (i : Nat) (v : Value), items[i]? = some v → ∃ x t, xs[i]? = some x ∧ v = .str x t) (hisz : items.size = xs.length) (hfew : xs.length + 1 < scanBound)
    (h : ∀ (h' : Heap) (tk : Nat) ys, SS P w h' s.heap.objs.size ys → (∀ x, x ∈ ys ↔ x ∈ xs) → (∀ b o, s.heap.get? b = some o → h'.get? b = some o) → Q (.ref s.heap.objs.size) { s with heap := h', toks := tk }) :
    wpAny (model P w) A (call (.type "set") [.ref l]) Q E s := by
  obtain ⟨c, tl, hmro⟩ := F.called_set.mro
  have hmade := F.called_set.made
  have hsub := F.called_set.sub
  refine wpAny_call (codeAny_of_tree ?_)
  show wpAny _ _ (callAny (.type "set") _) _ _ _
  refine wpAny_pure ⟨Code.quiet_builtin _ (by decide +kernel), codeAny_builtin F.entry_type_call ?_⟩
  rw [Around.under_plain (weight_type_call_type "set" [.ref l] []) rfl]
  have h1 := F.called_set.notType
  have h2 := F.called_set.canCreate
  have hct := F.typeCall_set_1 (.ref l)
  repeat (any_goals (first | assumption | wp_step))

  refine codeAny_mono (code_set_led1 (.ref l) (E := E) (Q₁ := fun obj s₁ => obj = .ref s.heap.objs.size ∧ s₁ = { s with heap := s.heap.push { cls := .type "set", dict := none, data := .set #[] 0 (.fresh 0 0 (!w.params.followText "set-order")) } }) ⟨rfl, rfl⟩) fun r s₁ hr => ?_
  cases r with
  | error e => exact hr
  | ok fl =>
    cases fl with
    | ret obj =>
      obtain ⟨rfl, rfl⟩ := hr
      generalize hob : ({ cls := .type "set", dict := none, data := .set #[] 0 (.fresh 0 0 (!w.params.followText "set-order")) } : Obj) = ob0
      have hfr : ob0.isFreed = false := by rw [← hob]; rfl
      have hcl0 : ob0.cls = .type "set" := by rw [← hob]
      have hS : (s.heap.push ob0).get? s.heap.objs.size = some ob0 := Heap.get?_push_size _ hfr
      have hT : Shared.TypeIs { s with heap := s.heap.push ob0 } (.ref s.heap.objs.size) "set" := ⟨_, hS, hcl0⟩
      have hli := F.called_set.init.lookup
      have hbi := F.called_set.init.bind (.ref s.heap.objs.size)
      repeat (any_goals (first | assumption | wp_step))

      refine codeAny_mono (codeAny_call_builtin (R := wants (fun r s₂ => r = .none ∧ ∃ h' tk ys, s₂ = { s with heap := h', toks := tk } ∧ SS P w h' s.heap.objs.size ys ∧ (∀ x, x ∈ ys ↔ x ∈ xs) ∧
          (∀ b o, s.heap.get? b = some o → h'.get? b = some o)) E) F.called_set.init.plain F.entry_set_init (check_set_init_1 hT ?_)) fun r₂ s₂ hr₂ => ?_
      · obtain ⟨ol, hol, hcl, nl, hdl⟩ := hl
        obtain ⟨ocls, odict, odata, oslots⟩ := ol
        simp only at hcl hdl
        subst hcl; subst hdl
        have hol' : (s.heap.push ob0).get? l = some { cls := .type "list", dict := odict, data := .seq items nl, slots := oslots } := Heap.get?_push_of_some _ hol
        have hsls := F.sub_list_set
        have hslf := F.sub_list_frozenset
        have hne : (Value.type "list" == Value.type "dict") = false := by decide
        have hl1 : (s.heap.push ob0).IsList l items := ⟨_, hol', rfl, nl, rfl⟩
        subst hob
        unfold Builtin.«set.__init__» noKeywords Builtin.Frozenset.updateFrom
        generalize hPI : pyIter = PI
        wp_walk
        subst hPI

        refine wpAny_pyIter_list hl1 ?_
        refine wpAny_bind (wpAny_runValue ?_)
        have hlS : l < s.heap.objs.size := Heap.lt_size hol
        have hh3 : A.in1.in1.in1.handled = none := by simp [hh]
        have hz1 : (s.heap.push { cls := .type "set", dict := none, data := .set #[] 0 (.fresh 0 0 (!w.params.followText "set-order")) }).objs.size = s.heap.objs.size + 1 := Heap.size_push ..
        have hneI : l ≠ (s.heap.push { cls := .type "set", dict := none, data := .set #[] 0 (.fresh 0 0 (!w.params.followText "set-order")) }).objs.size := by rw [hz1]; exact Nat.ne_of_lt (Nat.lt_succ_of_lt hlS)
        have hSf : s.heap.objs.size ∉ [(s.heap.push { cls := .type "set", dict := none, data := .set #[] 0 (.fresh 0 0 (!w.params.followText "set-order")) }).objs.size, l] := by
          rw [hz1]; simp only [List.mem_cons, List.mem_singleton, List.not_mem_nil, or_false, not_or]
          exact ⟨Nat.ne_of_lt (Nat.lt_succ_self _), Nat.ne_of_gt hlS⟩
        have none_of : ∀ b, s.heap.objs.size ≤ b → s.heap.get? b = none := fun b hb => by
          cases q : s.heap.get? b with
          | none => rfl
          | some o => exact absurd (Nat.lt_of_lt_of_le (Heap.lt_size q) hb) (Nat.lt_irrefl _)
        refine set_update_strs ((Walks.list hh3 _ l hneI items).toS) s.heap.objs.size
          hSf xs hisz hfew hval s.heap (none_of _ (Nat.le_refl _)) (fun b hb => none_of b (by
            rw [List.mem_singleton.mp hb, hz1]
            exact Nat.le_succ _)) (items.size - 0) 0 _ (by omega) (Nat.zero_le _)
          ⟨⟨_, Heap.get?_push_size _ rfl, rfl, rfl⟩, (hl1.push _)⟩ (fun b o e => Heap.get?_push_of_some _ (Heap.get?_push_of_some _ e)) ?hS0 ?hR
        case hS0 =>
          have hget : ((s.heap.push { cls := .type "set", dict := none, data := .set #[] 0 (.fresh 0 0 (!w.params.followText "set-order")) }).push { cls := .type "list_iterator", data := .fields #[.ref l, .int 0 0] }).get? s.heap.objs.size = some { cls := .type "set", dict := none, data := .set #[] 0 (.fresh 0 0 (!w.params.followText "set-order")) } := Heap.get?_push_of_some _ hS
          refine ⟨[], ⟨(#[], 0, .fresh 0 0 (!w.params.followText "set-order")), ?_, TxOk.nil rfl, List.nodup_nil, List.Pairwise.nil, ?_⟩, fun x => by simp, Nat.le_refl _⟩
          · show Heap.get? _ _ = some _
            rw [hget]
            rfl
          · show _ ∨ (!w.params.followText "set-order") = true
            cases w.params.followText "set-order"
            · exact .inr rfl
            · exact .inl rfl
        case hR =>
          intro s' ys hm hS' g' hkp
          obtain ⟨h', g2, d', tk', os'⟩ := s'
          have eg : g2 = s.gens := hm.gens
          have ed : d' = s.drawn := hm.drawn
          have eo : os' = s.os := hm.os
          subst eg; subst ed; subst eo
          show wpAny _ _ _ _ _ _
          refine wpAny_pure ?_
          show wpAny _ _ (ret Value.none) _ _ _
          rw [hisz] at g'
          exact wpAny_pure ⟨rfl, h', tk', ys, rfl, hS', fun x => by rw [g'.mem x, List.take_length], hkp⟩

      · cases r₂ with
        | error e => exact hr₂
        | ok fl₂ =>
          cases fl₂ with
          | ret r =>
            obtain ⟨rfl, h', tk, ys, rfl, hS', g', hk'⟩ := hr₂
            repeat (any_goals (first | assumption | wp_step))
            exact h _ _ _ hS' g' hk'
          | _ => exact hr₂.elim
    | _ => exact hr.elim

/-- set(xs), xs a tuple of texts -/
theorem call_setS_tuple {l : Addr} {items : Array Value} (xs : List Str) {Q : Value → Shared → Prop} (hh : A.handled = none) (hl : s.heap.IsTuple l items) (hval : ∀ (i : Nat) (v : Value), items[i]? = some v → ∃ x t, xs[i]? = some x ∧ v = .str x t) (hisz : items.size = xs.length) (hfew : xs.length + 1 < scanBound)
    (h : ∀ (h' : Heap) (tk : Nat) ys, SS P w h' s.heap.objs.size ys → (∀ x, x ∈ ys ↔ x ∈ xs) → (∀ b o, s.heap.get? b = some o → h'.get? b = some o) → Q (.ref s.heap.objs.size) { s with heap := h', toks := tk }) :
    wpAny (model P w) A (call (.type "set") [.ref l]) Q E s := by
  obtain ⟨c, tl, hmro⟩ := F.called_set.mro
  have hmade := F.called_set.made
  have hsub := F.called_set.sub
  refine wpAny_call (codeAny_of_tree ?_)
  show wpAny _ _ (callAny (.type "set") _) _ _ _
  refine wpAny_pure ⟨Code.quiet_builtin _ (by decide +kernel), codeAny_builtin F.entry_type_call ?_⟩
  rw [Around.under_plain (weight_type_call_type "set" [.ref l] []) rfl]
  have h1 := F.called_set.notType
  have h2 := F.called_set.canCreate
  have hct := F.typeCall_set_1 (.ref l)
  repeat (any_goals (first | assumption | wp_step))

  refine codeAny_mono (code_set_led1 (.ref l) (E := E) (Q₁ := fun obj s₁ => obj = .ref s.heap.objs.size ∧ s₁ = { s with heap := s.heap.push { cls := .type "set", dict := none, data := .set #[] 0 (.fresh 0 0 (!w.params.followText "set-order")) } }) ⟨rfl, rfl⟩) fun r s₁ hr => ?_
  cases r with
  | error e => exact hr
  | ok fl =>
    cases fl with
    | ret obj =>
      obtain ⟨rfl, rfl⟩ := hr
      generalize hob : ({ cls := .type "set", dict := none, data := .set #[] 0 (.fresh 0 0 (!w.params.followText "set-order")) } : Obj) = ob0
      have hfr : ob0.isFreed = false := by rw [← hob]; rfl
      have hcl0 : ob0.cls = .type "set" := by rw [← hob]
      have hS : (s.heap.push ob0).get? s.heap.objs.size = some ob0 := Heap.get?_push_size _ hfr
      have hT : Shared.TypeIs { s with heap := s.heap.push ob0 } (.ref s.heap.objs.size) "set" := ⟨_, hS, hcl0⟩
      have hli := F.called_set.init.lookup
      have hbi := F.called_set.init.bind (.ref s.heap.objs.size)
      repeat (any_goals (first | assumption | wp_step))

      refine codeAny_mono (codeAny_call_builtin (R := wants (fun r s₂ => r = .none ∧ ∃ h' tk ys, s₂ = { s with heap := h', toks := tk } ∧ SS P w h' s.heap.objs.size ys ∧ (∀ x, x ∈ ys ↔ x ∈ xs) ∧
          (∀ b o, s.heap.get? b = some o → h'.get? b = some o)) E) F.called_set.init.plain F.entry_set_init (check_set_init_1 hT ?_)) fun r₂ s₂ hr₂ => ?_
      · obtain ⟨ol, hol, hcl, nl, hdl⟩ := hl
        obtain ⟨ocls, odict, odata, oslots⟩ := ol
        simp only at hcl hdl
        subst hcl; subst hdl
        have hol' : (s.heap.push ob0).get? l = some { cls := .type "tuple", dict := odict, data := .seq items nl, slots := oslots } := Heap.get?_push_of_some _ hol
        have hsls := F.sub_tuple_set
        have hslf := F.sub_tuple_frozenset
        have hne : (Value.type "tuple" == Value.type "dict") = false := by decide
        have hl1 : (s.heap.push ob0).IsTuple l items := ⟨_, hol', rfl, nl, rfl⟩
        subst hob
        unfold Builtin.«set.__init__» noKeywords Builtin.Frozenset.updateFrom
        generalize hPI : pyIter = PI
        wp_walk
        subst hPI

        refine wpAny_pyIter_tuple hl1 ?_
        refine wpAny_bind (wpAny_runValue ?_)
        have hlS : l < s.heap.objs.size := Heap.lt_size hol
        have hh3 : A.in1.in1.in1.handled = none := by simp [hh]
        have hz1 : (s.heap.push { cls := .type "set", dict := none, data := .set #[] 0 (.fresh 0 0 (!w.params.followText "set-order")) }).objs.size = s.heap.objs.size + 1 := Heap.size_push ..
        have hneI : l ≠ (s.heap.push { cls := .type "set", dict := none, data := .set #[] 0 (.fresh 0 0 (!w.params.followText "set-order")) }).objs.size := by rw [hz1]; exact Nat.ne_of_lt (Nat.lt_succ_of_lt hlS)
        have hSf : s.heap.objs.size ∉ [(s.heap.push { cls := .type "set", dict := none, data := .set #[] 0 (.fresh 0 0 (!w.params.followText "set-order")) }).objs.size, l] := by
          rw [hz1]; simp only [List.mem_cons, List.mem_singleton, List.not_mem_nil, or_false, not_or]
          exact ⟨Nat.ne_of_lt (Nat.lt_succ_self _), Nat.ne_of_gt hlS⟩
        have none_of : ∀ b, s.heap.objs.size ≤ b → s.heap.get? b = none := fun b hb => by
          cases q : s.heap.get? b with
          | none => rfl
          | some o => exact absurd (Nat.lt_of_lt_of_le (Heap.lt_size q) hb) (Nat.lt_irrefl _)
        refine set_update_strs ((Walks.tuple hh3 _ l hneI items).toS) s.heap.objs.size
          hSf xs hisz hfew hval s.heap (none_of _ (Nat.le_refl _)) (fun b hb => none_of b (by
            rw [List.mem_singleton.mp hb, hz1]
            exact Nat.le_succ _)) (items.size - 0) 0 _ (by omega) (Nat.zero_le _)
          ⟨⟨_, Heap.get?_push_size _ rfl, rfl, rfl⟩, (hl1.push _)⟩ (fun b o e => Heap.get?_push_of_some _ (Heap.get?_push_of_some _ e)) ?hS0 ?hR
        case hS0 =>
          have hget : ((s.heap.push { cls := .type "set", dict := none, data := .set #[] 0 (.fresh 0 0 (!w.params.followText "set-order")) }).push { cls := .type "tuple_iterator", data := .fields #[.ref l, .int 0 0] }).get? s.heap.objs.size = some { cls := .type "set", dict := none, data := .set #[] 0 (.fresh 0 0 (!w.params.followText "set-order")) } := Heap.get?_push_of_some _ hS
          refine ⟨[], ⟨(#[], 0, .fresh 0 0 (!w.params.followText "set-order")), ?_, TxOk.nil rfl, List.nodup_nil, List.Pairwise.nil, ?_⟩, fun x => by simp, Nat.le_refl _⟩
          · show Heap.get? _ _ = some _
            rw [hget]
            rfl
          · show _ ∨ (!w.params.followText "set-order") = true
            cases w.params.followText "set-order"
            · exact .inr rfl
            · exact .inl rfl
        case hR =>
          intro s' ys hm hS' g' hkp
          obtain ⟨h', g2, d', tk', os'⟩ := s'
          have eg : g2 = s.gens := hm.gens
          have ed : d' = s.drawn := hm.drawn
          have eo : os' = s.os := hm.os
          subst eg; subst ed; subst eo
          show wpAny _ _ _ _ _ _
          refine wpAny_pure ?_
          show wpAny _ _ (ret Value.none) _ _ _
          rw [hisz] at g'
          exact wpAny_pure ⟨rfl, h', tk', ys, rfl, hS', fun x => by rw [g'.mem x, List.take_length], hkp⟩

      · cases r₂ with
        | error e => exact hr₂
        | ok fl₂ =>
          cases fl₂ with
          | ret r =>
            obtain ⟨rfl, h', tk, ys, rfl, hS', g', hk'⟩ := hr₂
            repeat (any_goals (first | assumption | wp_step))
            exact h _ _ _ hS' g' hk'
          | _ => exact hr₂.elim
    | _ => exact hr.elim
end
end DL

set_option maxHeartbeats 3200000
/-! DL35: sorted(set(xs)), len(set(xs)) of texts; sorted({pair of texts for .. in ..}). -/
namespace DL
open PySem PySem.Spec PyProof.Rows L2 PySem.Froz
/-! ### without doubles -/
def dd {α : Type} [DecidableEq α] : List α → List α
  | [] => []
  | x :: l => if x ∈ dd l then dd l else x :: dd l
section
variable {α : Type} [DecidableEq α]
theorem mem_dd {x : α} : ∀ {l : List α}, x ∈ dd l ↔ x ∈ l
  | [] => Iff.rfl
  | y :: l => by
    unfold dd
    split
    · rename_i h
      rw [mem_dd, List.mem_cons]
      exact ⟨.inr, fun z => z.elim (fun e => e ▸ mem_dd.mp h) id⟩
    · rw [List.mem_cons, List.mem_cons, mem_dd]
theorem nodup_dd : ∀ l : List α, (dd l).Nodup
  | [] => List.nodup_nil
  | y :: l => by
    unfold dd
    split
    · exact nodup_dd l
    · rename_i h
      exact List.nodup_cons.mpr ⟨h, nodup_dd l⟩
theorem dd_perm {ys l : List α} (nd : ys.Nodup) (h : ∀ x, x ∈ ys ↔ x ∈ l) : ys.Perm (dd l) := (List.perm_ext_iff_of_nodup nd (nodup_dd l)).mpr fun x => (h x).trans mem_dd.symm
theorem dd_of {l : List α} (h : l.Nodup) : dd l = l := by
  induction l with
  | nil => rfl
  | cons x l ih =>
    obtain ⟨h1, h2⟩ := List.nodup_cons.mp h
    unfold dd
    rw [ih h2, if_neg h1]
theorem dd_len (l : List α) : (dd l).length ≤ l.length := by
  induction l with
  | nil => exact Nat.le_refl _
  | cons x l ih =>
    unfold dd
    split
    · exact Nat.le_succ_of_le ih
    · exact Nat.succ_le_succ ih
end
theorem perm_of_sub {α : Type} [DecidableEq α] : ∀ {l m : List α}, l.Nodup → (∀ x ∈ l, x ∈ m) → m.length ≤ l.length → l.Perm m
  | [], m, _, _, h => by
    rw [List.length_nil] at h
    rw [List.eq_nil_of_length_eq_zero (Nat.le_zero.mp h)]
  | x :: l, m, nd, hs, h => by
    obtain ⟨h1, h2⟩ := List.nodup_cons.mp nd
    have hx : x ∈ m := hs x List.mem_cons_self
    have e := List.length_erase_of_mem hx
    rw [List.length_cons] at h
    have ih := perm_of_sub (m := m.erase x) h2 (fun y hy => (List.mem_erase_of_ne (fun (z : y = x) => h1 (z ▸ hy))).2 (hs y (List.mem_cons_of_mem _ hy))) (by omega)
    exact (ih.cons x).trans (List.perm_cons_erase hx).symm
theorem strs_of : ∀ {vs : List Value} {ss : List Str}, StrsAre vs ss → ss = vs.map strOf
  | _, _, .nil => rfl
  | _, _, .cons x t h => by rw [List.map_cons, ← strs_of h]; rfl
/-! ### sets of texts as things of the heap -/
def SSO (P : Program) (w : World) (a : Addr) (l : List Str) : HO := .ext fun h => SS P w h a l
section
variable {X : Cx}
theorem sso_new {P : Program} {w : World} {H : Hp} {h : Heap} {a : Addr} {l : List Str} (R : SS P w h a l) : ObjOk P w H h a (SSO P w a l) := by
  have ⟨D, ho, _⟩ := R
  exact ⟨R, ⟨_, ho⟩, fun h1 h2 p k => SS.at p k⟩
theorem strs_get : ∀ {zs : List Str} {us : List Value}, Vals (zs.map V.str) us → ∀ (i : Nat) (v : Value), us[i]? = some v → ∃ x t, zs[i]? = some x ∧ v = .str x t
  | [], _, .nil, i, v, h => by simp at h
  | z :: zs, _, .cons r t, i, v, h => by
    cases i with
    | zero =>
      rw [List.getElem?_cons_zero] at h
      cases h
      obtain ⟨tk, rfl⟩ := r
      exact ⟨z, tk, rfl, rfl⟩
    | succ i =>
      rw [List.getElem?_cons_succ] at h
      obtain ⟨x, tk, e1, e2⟩ := strs_get t i v h
      exact ⟨x, tk, by rw [List.getElem?_cons_succ]; exact e1, e2⟩
/-- set(xs) -/
def rSetS (K : PySem.W.Frag) (P : Program) (w : World) : List V → Hp → VK → Prop := fun xs H Q => ∃ (l : Addr) (zs : List Str), xs = [V.ref l] ∧ (SqL K H l (zs.map V.str) ∨ SqT K H l (zs.map V.str)) ∧ zs.length + 1 < 4096 ∧
  ∀ a ys, H a = none → ys.Nodup → (∀ x, x ∈ ys ↔ x ∈ zs) → Q (.ref a) (upd H a (SSO P w a ys))
theorem cr_setS (hc : X.calm = true) : CallR X (.type "set") (rSetS X.K X.prog X.w) := by
  intro pins s σ H xs us Q I r h
  obtain ⟨l, zs, rfl, hl, hf, q⟩ := h
  rw [Vals.ref1 r]
  have hn : H s.heap.objs.size = none := I.hok.fresh (Nat.le_refl _)
  have hf' : zs.length + 1 < scanBound := hf
  have fin : ∀ (h' : Heap) (tk : Nat) ys, SS X.prog X.w h' s.heap.objs.size ys → (∀ x, x ∈ ys ↔ x ∈ zs) → (∀ b o, s.heap.get? b = some o → h'.get? b = some o) → EP X pins σ Q (.ref s.heap.objs.size) { s with heap := h', toks := tk } := fun h' tk ys R hm k =>
    ⟨.ref s.heap.objs.size, upd H s.heap.objs.size (SSO X.prog X.w s.heap.objs.size ys), I.laid (t' := tk) k (Nat.le_refl _) (sso_new R), rfl, q _ ys hn R.choose_spec.2.2.1 hm⟩
  rcases hl with hl | hl
  · obtain ⟨its, rv, pl, hz⟩ := I.list hl
    have hlen : its.toArray.size = zs.length := by
      have := rv.length
      rw [List.length_map] at this
      rw [List.size_toArray]
      exact this.symm
    exact call_setS_list (P := X.prog) (w := X.w) zs (I.ok.hd hc) pl.isList (fun i v hv => strs_get rv i v (by simpa using hv)) hlen hf' fin
  · obtain ⟨its, rv, ⟨o, ho, hcl, n, hd⟩, hz⟩ := I.tuple hl
    have hlen : its.toArray.size = zs.length := by
      have := rv.length
      rw [List.length_map] at this
      rw [List.size_toArray]
      exact this.symm
    exact call_setS_tuple (P := X.prog) (w := X.w) zs (I.ok.hd hc) ⟨o, ho, hcl, n, hd⟩ (fun i v hv => strs_get rv i v (by simpa using hv)) hlen hf' fin
theorem ss_strs {P : Program} {w : World} {D : SD} {l : List Str} (F : TxOk P w D l) (nd : l.Nodup) : ∃ ss : List Str, StrsAre (D.1.toList.map (·.2)) ss ∧ ss.Perm l := by
  have key : ∀ es : List (Int × Value), ElemsOf (strKind P w) es → ∃ ss : List Str, StrsAre (es.map (·.2)) ss ∧ ∀ k, (∃ e ∈ es, (strKind P w).is k e.2 = true) ↔ k ∈ ss := by
    intro es
    induction es with
    | nil => intro _; exact ⟨[], .nil, fun k => ⟨fun ⟨e, he, _⟩ => (by cases he), fun h => (by cases h)⟩⟩
    | cons e es ih =>
      intro h
      obtain ⟨ss, h1, h2⟩ := ih fun x hx => h x (List.mem_cons_of_mem _ hx)
      obtain ⟨⟨k, hk, _⟩, _⟩ := h e List.mem_cons_self
      obtain ⟨t, et⟩ : ∃ t, e.2 = Value.str k t := by
        have hk : Value.isStrOf k e.2 = true := hk
        cases he : e.2 with
        | str y t =>
          rw [he] at hk
          have : y = k := by simpa [Value.isStrOf] using hk
          exact ⟨t, by rw [this]⟩
        | _ => rw [he] at hk; cases hk
      refine ⟨k :: ss, by rw [List.map_cons, et]; exact .cons k t h1, fun k' => ?_⟩
      constructor
      · rintro ⟨e', he', q⟩
        rcases List.mem_cons.mp he' with rfl | he'
        · rw [(strKind P w).inj _ k' k q hk]; exact List.mem_cons_self
        · exact List.mem_cons_of_mem _ ((h2 k').mp ⟨e', he', q⟩)
      · intro hm
        rcases List.mem_cons.mp hm with rfl | hm
        · exact ⟨e, List.mem_cons_self, hk⟩
        · obtain ⟨e', he', q⟩ := (h2 k').mpr hm
          exact ⟨e', List.mem_cons_of_mem _ he', q⟩
  obtain ⟨ss, h1, h2⟩ := key D.1.toList F.el
  refine ⟨ss, h1, ?_⟩
  have hlen : ss.length = l.length := by
    have := StrsAre.length h1
    rw [List.length_map, Array.length_toList, F.sz] at this
    omega
  have hsub : ∀ x, x ∈ l ↔ x ∈ ss := fun x => (F.mem x).trans (h2 x)
  exact (perm_of_sub nd (fun x hx => (hsub x).mp hx) (by omega)).symm
/-- sorted of a set of texts -/
def rSortSS (P : Program) (w : World) : List V → Hp → VK → Prop := fun vs H Q => ∃ (a : Addr) (ys : List Str), vs = [V.ref a] ∧ H a = some (SSO P w a ys) ∧ ys.length < 4096 ∧
  ∀ p, H p = none → Q (.ref p) (upd H p (.lst ((srt ltS ys).map V.str)))
theorem cr_sortSS (hc : X.calm = true) : CallR X (.builtin "sorted") (rSortSS X.prog X.w) := by
  intro pins s σ H vs us Q I r h
  obtain ⟨a, ys, rfl, ha, hl, q⟩ := h
  obtain ⟨D, ho, F, nd, ris, ld⟩ : SS X.prog X.w s.heap a ys := (I.hok a _ ha).1
  rw [Vals.ref1 r]
  obtain ⟨ss, hss, hps⟩ := ss_strs F nd
  refine Calls.call_function_entry kind_sorted plain_sorted entry_sorted (args_sorted1 _) ?_
  unfold Builtin.«sorted»
  refine wpAny_bind (m := checkCount "sorted" 1 1 _) (wpAny_pure ?_)
  have hsz : D.1.size = ys.length := F.sz
  refine wpAny_bind (collect_set (A := X.A.in1) (es := D.1) (ep := D.2.1) (t := D.2.2) (I.ok.hd hc) ⟨_, ho, rfl, rfl⟩ F.fit (by rw [hsz]; exact hl) ris ld fun s1 out k1 hz g1 o1 pm => ?_)
  obtain ⟨ss1, hs1, hp1⟩ : ∃ ss1, StrsAre out ss1 ∧ ss1.Perm ss := by
    refine ⟨out.map strOf, ?_, ?_⟩
    · have : ∀ v ∈ out, ∃ x t, v = Value.str x t := fun v hv => by
        obtain ⟨x, t, e⟩ := hss.all v (pm.mem_iff.mp hv)
        exact ⟨x, t, e⟩
      clear pm
      induction out with
      | nil => exact .nil
      | cons v out ih =>
        obtain ⟨x, t, rfl⟩ := this v List.mem_cons_self
        exact .cons x t (ih fun u hu => this u (List.mem_cons_of_mem _ hu))
    · rw [strs_of hss]
      exact pm.map strOf
  have hvl : out.length ≤ sizeLine := by
    rw [pm.length_eq, List.length_map, Array.length_toList, hsz, sizeLine_eq]
    omega
  refine wpAny_bind (wpAny_newList ?_ hvl)
  have hoL : (s1.heap.push (seqObj "list" out.toArray 0)).get? s1.heap.objs.size = some (seqObj "list" out.toArray 0) := Heap.get?_push_size _ rfl
  refine wpAny_bind (wpAny_holding (wpAny_call_entry (s := { s1 with heap := s1.heap.push (seqObj "list" out.toArray 0) }) slot_list_sort ⟨_, hoL, rfl⟩ entry_list_sort (list_sort_treeKAny strKind_oneLt hoL hs1.keysOf (fun v₁ v₂ rest e => keyKind_strs (by rw [← e]; exact hs1)) hvl fun st' a1 a2 => ⟨_, rfl, ?_⟩) (args_list_sort _)))
  obtain ⟨ss', b1, b2, b3⟩ := sorted_out_str hs1 a1 a2
  have e' : ss' = srt ltS ys := srt_uniq stoS ((b2.trans hp1).trans hps) (sortedS_pw b3)
  subst e'
  obtain ⟨c, hcc⟩ := sortedHeap_at (vs := out) (out := (arrOf st').map (·.2)) hoL
  have hp : s.heap.objs.size ≤ s1.heap.objs.size := hz
  have hn : H s1.heap.objs.size = none := I.hok.fresh hp
  have keep : ∀ b o, s.heap.get? b = some o → (sortedHeap (s1.heap.push (seqObj "list" out.toArray 0)) s1.heap.objs.size out ((arrOf st').map (·.2))).get? b = some o := fun b o e => by
    have qb := k1 b o e
    have hlt := Heap.lt_size qb
    rw [sortedHeap_old (Nat.ne_of_lt hlt) (by rw [size_push']; exact Nat.lt_succ_of_lt hlt)]
    exact Heap.get?_push_of_some _ qb
  have hlen : ((srt ltS ys).map V.str).length ≤ sizeLine := by
    rw [List.length_map, b2.length_eq, hp1.length_eq, hps.length_eq, sizeLine_eq]
    omega
  obtain ⟨hp1h, g1', d1', t1', os1'⟩ := s1
  dsimp only at g1 o1 k1 hz hp hn keep hcc hoL ⊢
  subst g1
  subst o1
  have J : Inv X pins σ (upd H hp1h.objs.size (.lst ((srt ltS ys).map V.str))) { s with heap := sortedHeap (hp1h.push (seqObj "list" out.toArray 0)) hp1h.objs.size out ((arrOf st').map (·.2)), drawn := d1', toks := t1' } :=
    I.call (ch := []) (Un.laid keep hp hn) (I.hok.laid keep hp ⟨hlen, _, c, vals_of_strs b1, hcc⟩) I.bare (fun _ z => nomatch z)
  exact wpAny_pure ⟨_, rfl, .ref _, _, J, rfl, q _ hn⟩
/-- len of a set of texts -/
def rLenSS (P : Program) (w : World) : List V → Hp → VK → Prop := fun vs H Q => ∃ (a : Addr) (ys : List Str), vs = [V.ref a] ∧ H a = some (SSO P w a ys) ∧ ys.length < 4096 ∧ Q (.int ys.length) H
theorem cr_lenSS : CallR X (.builtin "len") (rLenSS X.prog X.w) := by
  intro pins s σ H vs us Q I r h
  obtain ⟨a, ys, rfl, ha, hl, q⟩ := h
  obtain ⟨D, ho, F, nd, ris, ld⟩ : SS X.prog X.w s.heap a ys := (I.hok a _ ha).1
  rw [Vals.ref1 r]
  have hsz : D.1.size = ys.length := F.sz
  refine call_len_set (es := D.1) (ep := D.2.1) (t := D.2.2) ho ⟨rfl, rfl, rfl⟩ rfl F.fit (by omega) ?_
  exact ⟨.int ys.length, H, (I.tok _).tok _, ⟨_, by rw [hsz]⟩, q⟩
end
/-! ### words that name no world -/
section
variable (K : PySem.W.Frag)
/-- sorted(set(e)) -/
def tSortSet (ta : TE) : TE := fun σ H Q => ta σ H fun x H1 => ∃ (l : Addr) (zs : List Str), x = V.ref l ∧ (SqL K H1 l (zs.map V.str) ∨ SqT K H1 l (zs.map V.str)) ∧ zs.length + 1 < 4096 ∧
  ∀ (a p : Addr) (ys : List Str) (φ : Heap → Prop), H1 a = none → p ≠ a → H1 p = none → ys.Nodup → (∀ x, x ∈ ys ↔ x ∈ zs) → Q (.ref p) (upd (upd H1 a (.ext φ)) p (.lst ((srt ltS ys).map V.str)))
/-- len(set(e)) -/
def tLenSet' (ta : TE) : TE := fun σ H Q => ta σ H fun x H1 => ∃ (l : Addr) (zs : List Str), x = V.ref l ∧ (SqL K H1 l (zs.map V.str) ∨ SqT K H1 l (zs.map V.str)) ∧ zs.length + 1 < 4096 ∧
  ∀ (a : Addr) (ys : List Str) (φ : Heap → Prop), H1 a = none → ys.Nodup → (∀ x, x ∈ ys ↔ x ∈ zs) → Q (.int ys.length) (upd H1 a (.ext φ))
end
theorem dd_lt {zs ys : List Str} {n : Nat} (nd : ys.Nodup) (hm : ∀ x, x ∈ ys ↔ x ∈ zs) (h : zs.length + 1 < n) : ys.length < n := by
  have := (dd_perm nd hm).length_eq
  have := dd_len zs
  omega
/-- whatever follows from a wish -/
def tUp (ta : TE) : TE := fun σ H Q => ∃ Q0 : VK, ta σ H Q0 ∧ ∀ v H', Q0 v H' → Q v H'
theorem pe_up {X : Cx} {e : Expr} {ta : TE} (h : PE X e ta) : PE X e (tUp ta) := ⟨fun pins s σ H Q I ⟨Q0, h1, h2⟩ => wpAny_mono (h.run pins s σ H Q0 I h1) (fun v s' ⟨x, H', I', r, q⟩ => ⟨x, H', I', r, h2 _ _ q⟩) fun _ _ h => h⟩
section
variable {X : Cx} {e : Expr} {ta : TE} {p p1 p2 p3 : Pos}
theorem b_set : bootBuiltins "set" = some (.type "set") := by decide +kernel
theorem pe_sortSet (hc : X.calm = true) (hm : X.mg "sorted" = none) (hm2 : X.mg "set" = none) (ha : PE X e ta) (hg : Gl X "sorted" := by rfl) (hg2 : Gl X "set" := by rfl)
    (he : starEach [Expr.Call (.Name "set" p1) [e] [] p2] X.env = [(false, eval (.Call (.Name "set" p1) [e] [] p2) X.env)] := by rfl) (he2 : starEach [e] X.env = [(false, eval e X.env)] := by rfl) :
    PE X (.Call (.Name "sorted" p) [.Call (.Name "set" p1) [e] [] p2] [] p3) (tSortSet X.K ta) := by
  have h := pe_callB (pos := p3) (p := p) (r := rSortSS X.prog X.w) (cr_sortSS hc) hg hm b_sorted (pa_cons (pe_callTy (pos := p2) (p := p1) (r := rSetS X.K X.prog X.w) (cr_setS hc) hg2 hm2 b_set (pa_cons (pe_up ha) pa_nil he2) (by decide) (by decide) he2 rfl) pa_nil he) (by decide) (by decide) he rfl
  refine ⟨fun pins s σ H Q I hq => h.run pins s σ H Q I ⟨_, hq, ?_⟩⟩
  rintro v H1 ⟨l, zs, rfl, hl, hz, q⟩
  refine ⟨l, zs, rfl, hl, hz, fun a ys ha' nd hm => ⟨a, ys, rfl, upd_same, dd_lt nd hm (by omega), fun p hp => ?_⟩⟩
  have hpa : p ≠ a := fun z => by rw [z, upd_same] at hp; cases hp
  exact q a p ys _ ha' hpa (by rw [upd_ne hpa] at hp; exact hp) nd hm
theorem pe_lenSet' (hc : X.calm = true) (hm : X.mg "len" = none) (hm2 : X.mg "set" = none) (ha : PE X e ta) (hg : Gl X "len" := by rfl) (hg2 : Gl X "set" := by rfl)
    (he : starEach [Expr.Call (.Name "set" p1) [e] [] p2] X.env = [(false, eval (.Call (.Name "set" p1) [e] [] p2) X.env)] := by rfl) (he2 : starEach [e] X.env = [(false, eval e X.env)] := by rfl) :
    PE X (.Call (.Name "len" p) [.Call (.Name "set" p1) [e] [] p2] [] p3) (tLenSet' X.K ta) := by
  have h := pe_callB (pos := p3) (p := p) (r := rLenSS X.prog X.w) cr_lenSS hg hm b_len (pa_cons (pe_callTy (pos := p2) (p := p1) (r := rSetS X.K X.prog X.w) (cr_setS hc) hg2 hm2 b_set (pa_cons (pe_up ha) pa_nil he2) (by decide) (by decide) he2 rfl) pa_nil he) (by decide) (by decide) he rfl
  refine ⟨fun pins s σ H Q I hq => h.run pins s σ H Q I ⟨_, hq, ?_⟩⟩
  rintro v H1 ⟨l, zs, rfl, hl, hz, q⟩
  exact ⟨l, zs, rfl, hl, hz, fun a ys ha' nd hm => ⟨a, ys, rfl, upd_same, dd_lt nd hm (by omega), q a ys _ ha' nd hm⟩⟩
end
/-! by data -/
section
variable {K : PySem.W.Frag} {ρ : List Sl} {ta : TE} {d : D}
theorem strs_dq {G : Hp} : ∀ zs : List Str, DqA K G (zs.map V.str) (zs.map PyData.str)
  | [] => .nil
  | z :: zs => .cons (.str z) (strs_dq zs)
/-- a new thing that nobody knows, then a new one -/
theorem Ext.two {G H : Hp} {a p : Addr} {φ : Heap → Prop} {o : HO} (g : GH G H) (ha : H a = none) (hp : H p = none) (hpa : p ≠ a) : Ext G H G (upd (upd H a (.ext φ)) p o) :=
  (Ext.fresh g ha).trans (Ext.fresh (Ext.fresh g ha).gh (by rw [upd_ne hpa]; exact hp))
theorem en_sortSet {zs : List Str} (h : EV K ta ρ d) (hd : d = .list (zs.map PyData.str) ∨ d = .tuple (zs.map PyData.str)) (hz : zs.length + 1 < 4096) : EVN K (tSortSet K ta) ρ (.list ((srt ltS (dd zs)).map PyData.str)) := fun G0 H0 G H σ Q E q =>
  h G0 H0 G H σ _ E fun v G1 H1 e1 h1 => by
    have key : ∃ l, v = V.ref l ∧ (SqL K H1 l (zs.map V.str) ∨ SqT K H1 l (zs.map V.str)) := by
      rcases hd with rfl | rfl
      · cases h1 with
        | @lst b xs _ hb hr =>
          have := map_str_dq hr
          subst this
          exact ⟨b, rfl, .inl (SqL.of (e1.gh.lst hb))⟩
      · cases h1 with
        | @tup b xs _ hb hr =>
          have := map_str_dq hr
          subst this
          exact ⟨b, rfl, .inr (e1.gh.t hb)⟩
    obtain ⟨l, rfl, hl⟩ := key
    refine ⟨l, zs, rfl, hl, hz, fun a p ys φ ha hpa hp nd hm => ?_⟩
    have e : srt ltS ys = srt ltS (dd zs) := srt_uniq stoS ((srt_perm ys).trans (dd_perm nd hm)) (srt_pw stoS ys)
    rw [e]
    have x := Ext.two (φ := φ) (o := .lst ((srt ltS (dd zs)).map V.str)) e1.gh ha hp hpa
    exact q p G1 _ (e1.trans x) (e1.gone hp) (e1.gh.none hp) (.lst upd_same (strs_dq _))
theorem ev_lenSet {zs : List Str} (h : EV K ta ρ d) (hd : d = .list (zs.map PyData.str) ∨ d = .tuple (zs.map PyData.str)) (hz : zs.length + 1 < 4096) : EV K (tLenSet' K ta) ρ (.int (dd zs).length) := fun G0 H0 G H σ Q E q =>
  h G0 H0 G H σ _ E fun v G1 H1 e1 h1 => by
    have key : ∃ l, v = V.ref l ∧ (SqL K H1 l (zs.map V.str) ∨ SqT K H1 l (zs.map V.str)) := by
      rcases hd with rfl | rfl
      · cases h1 with
        | @lst b xs _ hb hr =>
          have := map_str_dq hr
          subst this
          exact ⟨b, rfl, .inl (SqL.of (e1.gh.lst hb))⟩
      · cases h1 with
        | @tup b xs _ hb hr =>
          have := map_str_dq hr
          subst this
          exact ⟨b, rfl, .inr (e1.gh.t hb)⟩
    obtain ⟨l, rfl, hl⟩ := key
    refine ⟨l, zs, rfl, hl, hz, fun a ys φ ha nd hm => ?_⟩
    have x := Ext.fresh (o := .ext φ) e1.gh ha
    rw [(dd_perm nd hm).length_eq]
    exact q _ G1 _ (e1.trans x) (.int _)
end
end DL

set_option maxHeartbeats 3200000
/-! DL36: sorted({pair of texts for .. in ..}). -/
namespace DL
open PySem PySem.Spec PyProof.Rows L2
/-- the set of tuples at a, without the tuples themselves -/
def SetK0 (P : Program) (w : World) (h : Heap) (a : Addr) (L : List KRow) : Prop := ∃ (es : Array (Int × Value)) (ep : Nat) (t : SetTable), (∃ o, h.get? a = some o ∧ o.ExactSet ∧ o.data = .set es ep t) ∧ es.toList = ksRows P w L ∧ TabOk t (L.map fun p => ksH P w p.2) ∧ (L.map (·.2)).Nodup ∧
    (w.params.followText "set-order" = true ∨ t.led = true) ∧ L.length * 5 < t.mask * 3 ∧ L.length ≤ 76
def SetKO (P : Program) (w : World) (a : Addr) (L : List KRow) : HO := .ext fun h => SetK0 P w h a L
section
variable {P : Program} {w : World}
theorem SetK3.t0 {h : Heap} {a : Addr} {L : List KRow} {es : Array (Int × Value)} {ep : Nat} {t : SetTable} (R : SetK3 P w h a L es ep t) : SetK0 P w h a L := ⟨es, ep, t, R.ob, R.rows, R.tab, R.nd, R.led, R.room, R.few⟩
theorem SetK0.full {h : Heap} {a : Addr} {L : List KRow} (R : SetK0 P w h a L) (ht : ∀ p ∈ L, IsK P w h p.2 p.1) : ∃ es ep t, SetK3 P w h a L es ep t := by
  obtain ⟨es, ep, t, h1, h2, h3, h4, h5, h6, h7⟩ := R
  exact ⟨es, ep, t, h1, h2, h3, h4, ht, h5, h6, h7⟩
theorem setKO_new {H : Hp} {h : Heap} {a : Addr} {L : List KRow} (R : SetK0 P w h a L) : ObjOk P w H h a (SetKO P w a L) := by
  have ⟨es, ep, t, ⟨o, ho, r⟩, q⟩ := R
  refine ⟨R, ⟨o, ho⟩, fun h1 h2 p k => ?_⟩
  have ⟨es', ep', t', ⟨o', ho', r'⟩, q'⟩ := p
  exact ⟨es', ep', t', ⟨o', k o' ho', r'⟩, q'⟩
theorem ks_vals : ∀ {k : List Key} {us : List Value}, Vals (k.map kV) us → ItemsAre (mixKind P w) k us
  | [], _, .nil => .nil
  | n :: k, _, .cons r t => .cons (kV_is r) (ks_vals t)
end
section
variable {X : Cx}
theorem inv_isK {pins : List (Addr × Obj)} {σ : L2.St} {H : Hp} {s : Shared} {b : Addr} {k : List Key} (I : Inv X pins σ H s) (h : SqT X.K H b (k.map kV)) : IsK X.prog X.w s.heap k b := by
  obtain ⟨its, r, ⟨o, ho, hc, n, hd⟩, _⟩ := I.tuple h
  exact ⟨o, its.toArray, n, ho, hc, hd, by simpa using ks_vals r⟩
/-- set.add of a tuple -/
theorem addK_ok {pins : List (Addr × Obj)} {σ : L2.St} {H : Hp} {s : Shared} {E : Value → Shared → Prop} {D x : Addr} {L : List KRow} {k : List Key} {Q : Value → Shared → Prop} (I : Inv X pins σ H s) (hD : H D = some (SetKO X.prog X.w D L)) (hx : SqT X.K H x (k.map kV)) (ht : ∀ p ∈ L, SqT X.K H p.1 (p.2.map kV)) (few : L.length + 1 ≤ 76) (hu : X.A.units + 64 < cLine)
    (h : ∀ s' L', (k ∈ L.map (·.2) → L' = L) → (k ∉ L.map (·.2) → L'.Perm ((x, k) :: L)) → Inv X pins σ (upd H D (SetKO X.prog X.w D L')) s' → Q .none s') : wpAny (model X.prog X.w) X.A (call (.builtin "set.add") [.ref D, .ref x]) Q E s := by
  have R0 : SetK0 X.prog X.w s.heap D L := (I.hok D _ hD).1
  obtain ⟨es, ep, t, R⟩ := R0.full fun p hp => inv_isK I (ht p hp)
  have hxk := inv_isK I hx
  obtain ⟨o, ho, hex, hd⟩ := R.ob
  have hu1 : X.A.in1.units < cLine := by
    show X.A.units + 1 < cLine
    omega
  refine wpAny_call_entry F.slot_set_add ⟨o, ho, hex.1⟩ F.entry_set_add ?_ (F.args_set_add_2 _ _)
  unfold Builtin.«set.add» Builtin.Frozenset.oneOther
  simp only [List.isEmpty_nil, bind_assoc]
  unfold Builtin.Frozenset.addrOf setAdd
  refine wpAny_bind (wpAny_pure ?_)
  try dsimp only
  refine wpAny_bind (wpAny_pure ?_)
  try dsimp only
  refine wpAny_bind ?_
  refine wpAny_holding ?_
  refine wpAny_bind (wpAny_pyHash_tuple (knd := mixKind X.prog X.w) hu1 hxk ?_)
  refine k_add (s := { s with toks := s.toks + (k.length + 1) }) R hxk hu1 few fun b h' L' es' ep' t' sb R' c1 c2 => ?_
  show wpAny _ _ (ret Value.none) _ _ _
  refine wpAny_pure ⟨_, rfl, h _ L' c1 c2 ?_⟩
  obtain ⟨o', ho', _⟩ := R'.ob
  exact I.write (e := D) (t' := s.toks + (k.length + 1)) (by rw [hD]; trivial) (.inl rfl) (fun b u hb hu => (sb.2 b hb).trans hu) ⟨o', ho'⟩ (setKO_new R'.t0)
/-- whatever follows from a walk's wish -/
def iUp (wi : TI) : TI := fun σ H R => ∃ R0 : It → Hp → Prop, wi σ H R0 ∧ ∀ J H', R0 J H' → R J H'
theorem pi_up {tg iter : Expr} {wi : TI} (h : PI X tg iter wi) : PI X tg iter (iUp wi) := ⟨fun pins s σ H R I ⟨R0, h1, h2⟩ => wpAny_mono (h.run pins s σ H R0 I h1) (fun v s1 h3 => wpAny_mono h3 (fun itv s2 h4 => by
  obtain ⟨it, fp, tn, J, H2, e, I2, T, st2, f2, q⟩ := h4
  exact ⟨it, fp, tn, J, H2, e, I2, T, st2, f2, h2 _ _ q⟩) fun _ _ h => h) fun _ _ h => h⟩
/-- {elt for target in iter}, elt a tuple of keys: D the new set -/
def tScK (P : Program) (w : World) (K : PySem.W.Frag) (wi : TI) (g : TG) (te : TE) (vs : List Nat) : TE := fun σ H Q => wi σ H fun J H1 => ∀ D, H1 D = none → ∃ W : Nat → Nat → Hp → Prop, (∃ m, W 0 m (upd H1 D (SetKO P w D []))) ∧ ∀ i m H, W i m H →
  (J.stop i H ∧ Q (.ref D) H) ∨ (J.go i H ∧ ∃ Nx : Hp → Prop, (∀ H', Nx H' → ∃ m', m' < m ∧ W (i + 1) m' H') ∧ ∀ x H', J.yld i H x H' → g x (wipe σ vs) H' fun σ2 H2 => wipe σ2 vs = wipe σ vs ∧
    te σ2 H2 fun y H4 => ∃ (c : Addr) (k : List Key) (L : List KRow), y = .ref c ∧ SqT K H4 c (k.map kV) ∧ H4 D = some (SetKO P w D L) ∧ (∀ p ∈ L, SqT K H4 p.1 (p.2.map kV)) ∧ L.length + 1 ≤ 76 ∧
      ∀ L', (k ∈ L.map (·.2) → L' = L) → (k ∉ L.map (·.2) → L'.Perm ((c, k) :: L)) → Nx (upd H4 D (SetKO P w D L')))
theorem pe_scK {elt tg iter : Expr} {scope : Scope} {own : List (PySem.Str × Nat)} {pos : Pos} {wi : TI} {g : TG} {te : TE} (hc : X.calm = true) (hu : X.A.units + 64 < cLine) (hN : X.N.Nodup) (hi : PI X tg iter wi) (ok : BlkOk X.N X.env.scope scope own)
    (hg : ∀ (s : Shared) (H : Hp) (C : Addr) (cl : List (PySem.Str × Addr)) (fp : List Addr), PG (X.blk s H scope (compEnvC scope cl C X.env) fp) tg g)
    (he : ∀ (s : Shared) (H : Hp) (C : Addr) (cl : List (PySem.Str × Addr)) (fp : List Addr), PE (X.blk s H scope (compEnvC scope cl C X.env) fp) elt te) (hs : ∀ x, foldedSetIterable iter X.env x = pure x := by intro _; rfl) :
    PE X (.SetComp elt [⟨tg, iter, [], 0⟩] scope pos) (tScK X.prog X.w X.K wi g te (own.map (·.2))) := by
  refine ⟨fun pins s σ H Q I h => ?_⟩
  rw [PpSet.eval_SetComp]
  have hRR : ∀ D C s' m H', Inv X pins σ H' s' → Q (.ref D) H' → s'.heap.Ns C m → FpOk X pins H' C → compPost (model X.prog X.w) X.A X.xe none (EP X pins σ Q) (.ref D) C (.ok .next) s' := fun D C s' m H' I' q hn f => ⟨m, hn, fun h'' sb => by
    obtain ⟨f0, f1, f2, f3, f4, f5⟩ := f
    exact ⟨.ref D, H', I'.turned (t' := s'.toks) (fun b o hb e => (sb.2 b hb).trans e) f0 f1 f3 f4 f5, rfl, q⟩⟩
  have hfree : ∀ y ∈ scope.names, y.2 = .free → ∃ c, X.env.cells.lookup y.1 = some c := fun y hy e => by
    rcases ok.free y hy e with k | k
    · exact I.ok.has _ (.inl k)
    · exact I.ok.has _ (.inr k)
  refine wpAny_comprehension_free (use := none) rfl hs (closure_ok hfree) ok.kind (fun y hy e => by rw [ok.uniq y hy, e])
    (thn (hi.run pins s σ H _ I h) fun xv s1 hx => thn hx fun itv s2 h2 => ?_)
  obtain ⟨it, fp, tn, J, H2, e, I2, T, st2, f2, q⟩ := h2
  subst e
  refine PpSet.newSet_ok (newEnv_comp ?_)
  generalize hD : s2.heap.objs.size = D
  have hDn : H2 D = none := I2.hok.fresh (Nat.le_of_eq hD)
  obtain ⟨W, ⟨m0, w0⟩, turn⟩ := q D hDn
  generalize hs3 : ({ s2 with heap := s2.heap.push { cls := .type "set", dict := none, data := .set #[] 0 (.fresh 0 0 (!X.w.params.followText "set-order")) } } : Shared) = s3
  have h3 : s3.heap = s2.heap.push { cls := .type "set", dict := none, data := .set #[] 0 (.fresh 0 0 (!X.w.params.followText "set-order")) } := by rw [← hs3]
  have I3 : Inv X pins σ (upd H2 D (SetKO X.prog X.w D [])) s3 := by
    rw [← hs3]
    refine I2.laid (t' := s2.toks) (fun b o e => Heap.get?_push_of_some _ e) (Nat.le_of_eq hD) ?_
    rw [← hD]
    exact setKO_new (setK3_fresh (Heap.get?_push_size _ rfl)).t0
  generalize hH3 : upd H2 D (SetKO X.prog X.w D []) = H3 at I3 w0
  have sz : ∀ b ∈ fp, b < s2.heap.objs.size := fun b hb => by
    obtain ⟨o, e, _⟩ := T.obj _ _ st2 b hb
    exact Heap.lt_size e
  have f3 : ∀ b ∈ fp, FpOk X pins H3 b ∧ b < s3.heap.objs.size := fun b hb => by
    have hlt := sz b hb
    refine ⟨⟨?_, (f2 b hb).2⟩, by rw [h3, Heap.size_push]; exact Nat.lt_succ_of_lt hlt⟩
    rw [← hH3, upd_ne (by rw [← hD]; exact Nat.ne_of_lt hlt)]
    exact (f2 b hb).1
  have st3 : tn 0 s3.heap := T.keep _ _ _ st2 fun b _ o e => by rw [h3]; exact Heap.get?_push_of_some _ e
  have I4 := block_start I3 ok hN f3
  have pg := hg s3 H3 s3.heap.objs.size (cellsFrom (s3.heap.objs.size + 1) scope.names (cloFrom X.env.cells scope.names [])) fp
  have pe := he s3 H3 s3.heap.objs.size (cellsFrom (s3.heap.objs.size + 1) scope.names (cloFrom X.env.cells scope.names [])) fp
  show codeAny _ _ (.compStart (.SetComp elt [⟨tg, iter, [], 0⟩] scope pos) 0 (.ref it) (.ref D) (compEnvC scope (cellsFrom (s3.heap.objs.size + 1) scope.names (cloFrom X.env.cells scope.names [])) s3.heap.objs.size X.env)) (compPost (model X.prog X.w) X.A X.xe none (EP X pins σ Q) (.ref D) s3.heap.objs.size) { s3 with heap := pushCells (s3.heap.push { cls := .type "dict", data := .dict #[] }) scope.names }
  have nfp : ∀ b ∈ fp, H3 b = none := fun b hb => (f3 b hb).1.1
  generalize hce : compEnvC scope (cellsFrom (s3.heap.objs.size + 1) scope.names (cloFrom X.env.cells scope.names [])) s3.heap.objs.size X.env = ce at I4 pg pe ⊢
  have cL : ce.locals = s3.heap.objs.size := by subst hce; rfl
  generalize hs4 : ({ s3 with heap := pushCells (s3.heap.push { cls := .type "dict", data := .dict #[] }) scope.names } : Shared) = s4 at I4 ⊢
  have st4 : tn 0 s4.heap := T.keep _ _ _ st3 fun b _ o e => by rw [← hs4]; exact pushCells_keeps _ _ _ _ (Heap.get?_push_of_some _ e)
  have stat : ∀ {σ' : L2.St} {H' : Hp} {s' : Shared}, Inv (X.blk s3 H3 scope ce fp) [] σ' H' s' → (∀ b ∈ fp, H' b = none) → ∀ b ∈ fp, FpOk (X.blk s3 H3 scope ce fp) [] H' b := fun {σ' H' s'} I' hn b hb =>
    ⟨hn b hb, (I'.ok.exf b hb).1, I'.ok.exfs b hb, .inl hb, fun x c e => (I'.ok.exf b hb).2 x c e, fun p hp => absurd (show p ∈ ([] : List (Addr × Obj)) ++ [] from hp) (by simp)⟩
  have loop : codeAny (model X.prog X.w) X.A (.compLoop (.SetComp elt [⟨tg, iter, [], 0⟩] scope pos) 0 (.ref it) (.ref D) ce) (compPost (model X.prog X.w) X.A X.xe none (EP X pins σ Q) (.ref D) s3.heap.objs.size) s4 := by
    refine PpSet.compLoopS_any (fun n s' => ∃ i H', Inv (X.blk s3 H3 scope ce fp) [] (wipe σ (own.map (·.2))) H' s' ∧ tn i s'.heap ∧ (∀ b ∈ fp, H' b = none) ∧ W i n H') ?_ m0 ⟨0, H3, I4, st4, nfp, w0⟩
    rintro n s5 ⟨i, H5, I5, st5, n5, w5⟩
    rcases turn i n H5 w5 with ⟨stop, qq⟩ | ⟨go, Nx, hNx, step⟩
    · have td := T.done (X.blk s3 H3 scope ce fp) rfl rfl rfl hc i [] s5 _ H5 (fun _ _ => False) I5 (stat I5 n5) st5 stop
      refine thnF td fun r s6 ⟨hr, I6⟩ => ?_
      subst hr
      have I7 : Inv X pins σ H5 s6 := I3.call' (ch := fp) I6.os I6.base I6.hok I6.bare fun b hb => ⟨(f3 b hb).1.2.2.2.1, (f3 b hb).1.2.1, (f3 b hb).1.2.2.2.2.1, (f3 b hb).1.2.2.2.2.2⟩
      have nC : H5 s3.heap.objs.size = none := by
        have z : H5 ce.locals = none := I6.free
        rw [cL] at z
        exact z
      obtain ⟨m, hn, _⟩ := I6.loc
      have hn : s6.heap.Ns ce.locals m := hn
      rw [cL] at hn
      exact hRR D s3.heap.objs.size s6 m H5 I7 qq hn (I3.fpOk (Nat.le_refl _) nC)
    · have ti := T.item (X.blk s3 H3 scope ce fp) rfl rfl rfl hc i [] s5 _ H5 (fun _ _ => False) I5 (stat I5 n5) st5 go
      refine thnF ti fun r s6 ⟨u, hr, h6⟩ => ?_
      subst hr
      refine thnF h6 fun _ s7 ⟨x, H7, I7, r7, y7, st7, n7⟩ => ?_
      have I7' := I7.pinned (stat I7 n7) (T.obj _ _ st7)
      refine thnF (pg.run _ s7 _ H7 x u _ I7' r7 (step x H7 y7)) fun _ s8 ⟨σ8, H8, I8, hw8, q8⟩ => ?_
      have fin : ∀ {s' : Shared} {H' : Hp}, Inv (X.blk s3 H3 scope ce fp) ([] ++ pinsAt fp s7.heap) σ8 H' s' → Nx H' → ∃ m, m < n ∧ ∃ i H', Inv (X.blk s3 H3 scope ce fp) [] (wipe σ (own.map (·.2))) H' s' ∧ tn i s'.heap ∧ (∀ b ∈ fp, H' b = none) ∧ W i m H' := fun {s' H'} I' nx => by
        obtain ⟨m', hm, w'⟩ := hNx H' nx
        have pin' : ∀ b ∈ fp, ∀ o, s7.heap.get? b = some o → s'.heap.get? b = some o ∧ H' b = none := fun b hb o e =>
          let z := I'.pin (b, o) (List.mem_append_right _ (List.mem_append_right _ (mem_pinsAt hb e)))
          ⟨z.1, z.2.1⟩
        have hl : (wipe σ (own.map (·.2))).length = σ8.length := by rw [← hw8, wipe_length]
        refine ⟨m', hm, i + 1, H', (I'.unpinned (pins := [])).weak hl (fun j v e => ?_), T.keep _ _ _ st7 fun b hb o e => (pin' b hb o e).1, fun b hb => ?_, w'⟩
        · rw [← hw8] at e
          exact (wipe_some e).1
        · obtain ⟨o, e, _⟩ := T.obj _ _ st7 b hb
          exact (pin' b hb o e).2
      show wpAny _ _ (forIn ([] : List Expr) true _) _ _ _
      rw [List.forIn_nil]
      refine wpAny_pure ?_
      simp only [if_true]
      refine thnF (pe.run _ s8 σ8 H8 _ I8 q8) fun z s10 ⟨yv, H10, I10, r10, c, k, L, ey, hk, hD10, ht10, few, nx⟩ => ?_
      subst ey
      cases (show z = Value.ref c from r10)
      exact addK_ok (X := X.blk s3 H3 scope ce fp) I10 hD10 hk ht10 few hu fun s11 L' c1 c2 I11 => fin I11 (nx L' c1 c2)
  exact PpSet.codeAny_compStart_set loop (T.self X.A 0 _ _ _ st4 loop)
end
end DL

set_option maxHeartbeats 3200000
/-! DL37: sorted of a set of pairs of texts; the rule by data. -/
namespace DL
open PySem PySem.Spec PyProof.Rows L2
theorem kV_q (q : Str × Str) : (keyQ q).map kV = [V.str q.1, V.str q.2] := rfl
def unQ : List Key → Str × Str
  | [.inr a, .inr b] => (a, b)
  | _ => (Str.empty, Str.empty)
theorem unQ_q (q : Str × Str) : unQ (keyQ q) = q := rfl
def rSortKS (K : PySem.W.Frag) (P : Program) (w : World) : List V → Hp → VK → Prop := fun vs H Q => ∃ (a : Addr) (L : List KRow) (qs : List (Str × Str)), vs = [V.ref a] ∧ H a = some (SetKO P w a L) ∧ (∀ p ∈ L, SqT K H p.1 (p.2.map kV)) ∧ L.map (·.2) = qs.map keyQ ∧
  ∀ (p : Addr) (zs : List (Addr × (Str × Str))), (zs.map fun z => (z.1, keyQ z.2)).Perm L → zs.map (·.2) = srt ltQ qs → H p = none → Q (.ref p) (upd H p (.lst (zs.map fun z => V.ref z.1)))
theorem cr_sortKS {X : Cx} (hc : X.calm = true) : CallR X (.builtin "sorted") (rSortKS X.K X.prog X.w) := by
  intro pins s σ H vs us Q I r h
  obtain ⟨a, L, qs, rfl, ha, ht, hq, q⟩ := h
  have R0 : SetK0 X.prog X.w s.heap a L := (I.hok a _ ha).1
  obtain ⟨es, ep, t, R⟩ := R0.full fun p hp => inv_isK I (ht p hp)
  obtain ⟨o, ho, hex, hd⟩ := R.ob
  rw [Vals.ref1 r]
  have hsz := rows_len R.rows
  have hfew := R.few
  -- each row is a pair of texts
  have row : ∀ p ∈ L, ∃ b : Str × Str, p.2 = keyQ b ∧ IsPS s.heap (.ref p.1) b := fun p hp => by
    have : p.2 ∈ qs.map keyQ := by rw [← hq]; exact List.mem_map.mpr ⟨p, hp, rfl⟩
    obtain ⟨b, _, e⟩ := List.mem_map.mp this
    have h1 := ht p hp
    rw [← e] at h1
    exact ⟨b, e.symm, psq_is I h1⟩
  refine Calls.call_function_entry kind_sorted plain_sorted entry_sorted (args_sorted1 _) ?_
  unfold Builtin.«sorted»
  refine wpAny_bind (m := checkCount "sorted" 1 1 _) (wpAny_pure ?_)
  refine wpAny_bind (collect_set (A := X.A.in1) (I.ok.hd hc) ⟨o, ho, hex.1, hd⟩ R.fits (by rw [hsz]; unfold scanBound; omega) R.tab.ris R.led fun s1 acc k1 hz g1 o1 pm => ?_)
  have hes : es.toList.map (·.2) = L.map fun q => Value.ref q.1 := by
    rw [R.rows]
    unfold ksRows
    rw [List.map_map] <;> rfl
  rw [hes] at pm
  have hal : acc.length ≤ sizeLine := by rw [pm.length_eq, List.length_map, sizeLine_eq]; omega
  have hmem : ∀ v ∈ acc, ∃ p ∈ L, v = Value.ref p.1 := fun v hv => by
    obtain ⟨p, hp, e⟩ := List.mem_map.mp (pm.mem_iff.mp hv)
    exact ⟨p, hp, e.symm⟩
  have hP1 : ∀ v ∈ acc, IsPS s.heap v (pk s.heap v) := fun v hv => by
    obtain ⟨p, hp, rfl⟩ := hmem v hv
    obtain ⟨b, _, hb⟩ := row p hp
    rw [pk_is hb]
    exact hb
  have hoL : (s1.heap.push (seqObj "list" acc.toArray 0)).get? s1.heap.objs.size = some (seqObj "list" acc.toArray 0) := Heap.get?_push_size _ rfl
  have hP : ∀ v ∈ acc, IsPS (s1.heap.push (seqObj "list" acc.toArray 0)) v (pk s.heap v) := fun v hv => (hP1 v hv).keeps fun b o e _ => Heap.get?_push_of_some _ (k1 b o e)
  refine wpAny_bind (wpAny_newList ?_ hal)
  refine wpAny_bind (wpAny_holding (wpAny_call_entry (s := { s1 with heap := s1.heap.push (seqObj "list" acc.toArray 0) }) PyProof.Rows.slot_list_sort ⟨_, hoL, rfl⟩ PyProof.Rows.entry_list_sort
    (SrtO.list_sort_ord (stoQ.swo_of (pk s.heap)) (s := { s1 with heap := s1.heap.push (seqObj "list" acc.toArray 0) }) hoL hal (fun h2 => ps_sortable (by omega) hP fun o e => ?_) fun out hs hb => ⟨_, rfl, ?_⟩)
    (PyProof.Rows.args_list_sort _)))
  · have e' := e.symm.trans hoL
    cases e'
    intro c
    exact absurd (Value.type.inj c) (by decide)
  · have hm2 : ∀ v ∈ out, ∃ p ∈ L, v = Value.ref p.1 := fun v hv => hmem v (hb.perm.mem_iff.mp hv)
    obtain ⟨c, hcc⟩ := sortedHeap_at (vs := acc) (out := out.toArray) hoL
    have hp : s.heap.objs.size ≤ s1.heap.objs.size := hz
    have hn : H s1.heap.objs.size = none := I.hok.fresh hp
    have keep : ∀ b o, s.heap.get? b = some o → (sortedHeap (s1.heap.push (seqObj "list" acc.toArray 0)) s1.heap.objs.size acc out.toArray).get? b = some o := fun b o e => by
      have qb := k1 b o e
      have hlt := Heap.lt_size qb
      rw [sortedHeap_old (Nat.ne_of_lt hlt) (by rw [size_push']; exact Nat.lt_succ_of_lt hlt)]
      exact Heap.get?_push_of_some _ qb
    generalize hzs : out.map (fun v => (adV v, pk s.heap v)) = zs
    have hL : (L.map fun q => Value.ref q.1).map (fun v => (adV v, keyQ (pk s.heap v))) = L := by
      rw [List.map_map]
      conv => rhs; rw [← List.map_id L]
      refine List.map_congr_left fun p hp => ?_
      obtain ⟨b, e, hb⟩ := row p hp
      show (p.1, keyQ (pk s.heap (.ref p.1))) = p
      rw [pk_is hb, ← e]
    have pL : (zs.map fun z => (z.1, keyQ z.2)).Perm L := by
      rw [← hzs, List.map_map]
      have := (hb.perm.trans pm).map fun v => (adV v, keyQ (pk s.heap v))
      rw [hL] at this
      exact this
    have pq : (zs.map (·.2)).Perm qs := by
      have h1 := (pL.map (·.2)).map unQ
      rw [hq, List.map_map, List.map_map, List.map_map] at h1
      have e1 : qs.map (unQ ∘ keyQ) = qs := by
        conv => rhs; rw [← List.map_id qs]
        exact List.map_congr_left fun b _ => unQ_q b
      rw [e1] at h1
      exact h1
    have ez : zs.map (·.2) = srt ltQ qs := by
      refine srt_uniq stoQ pq ?_
      rw [← hzs, List.map_map]
      exact List.pairwise_map.mpr hs
    have er : out = zs.map fun z => Value.ref z.1 := by
      rw [← hzs, List.map_map]
      conv => lhs; rw [← List.map_id out]
      refine List.map_congr_left fun v hv => ?_
      obtain ⟨p, _, rfl⟩ := hm2 v hv
      rfl
    have hlen : (zs.map fun z => V.ref z.1).length ≤ sizeLine := by
      have := pL.length_eq
      rw [List.length_map] at this ⊢
      rw [this, sizeLine_eq]
      omega
    have hv : Vals (zs.map fun z => V.ref z.1) out := by
      rw [er]
      clear er ez pq pL hL hzs hlen
      induction zs with
      | nil => exact .nil
      | cons z zs ih => exact .cons rfl ih
    obtain ⟨hp1h, g1', d1', t1', os1'⟩ := s1
    dsimp only at g1 o1 k1 hz hp hn keep hcc hoL ⊢
    subst g1
    subst o1
    have J : Inv X pins σ (upd H hp1h.objs.size (.lst (zs.map fun z => V.ref z.1))) { s with heap := sortedHeap (hp1h.push (seqObj "list" acc.toArray 0)) hp1h.objs.size acc out.toArray, drawn := d1', toks := t1' } :=
      I.call (ch := []) (Un.laid keep hp hn) (I.hok.laid keep hp ⟨hlen, out, c, hv, hcc⟩) I.bare (fun _ z => nomatch z)
    exact wpAny_pure ⟨_, rfl, .ref _, _, J, rfl, q _ zs pL ez hn⟩
/-- sorted({elt for target in iter}), elt a pair of texts; F: what stands at the set -/
def tSortSc (K : PySem.W.Frag) (wi : TI) (g : TG) (te : TE) (vs : List Nat) : TE := fun σ H Q => wi σ H fun J H1 => ∀ (D : Addr) (F : List KRow → HO), H1 D = none → (∀ L, ∃ φ, F L = .ext φ) → ∃ W : Nat → Nat → Hp → Prop, (∃ m, W 0 m (upd H1 D (F []))) ∧ ∀ i m H, W i m H →
  (J.stop i H ∧ ∃ (L : List KRow) (qs : List (Str × Str)), H D = some (F L) ∧ (∀ p ∈ L, SqT K H p.1 (p.2.map kV)) ∧ L.map (·.2) = qs.map keyQ ∧
      ∀ (p : Addr) (zs : List (Addr × (Str × Str))), (zs.map fun z => (z.1, keyQ z.2)).Perm L → zs.map (·.2) = srt ltQ qs → H p = none → Q (.ref p) (upd H p (.lst (zs.map fun z => V.ref z.1)))) ∨
  (J.go i H ∧ ∃ Nx : Hp → Prop, (∀ H', Nx H' → ∃ m', m' < m ∧ W (i + 1) m' H') ∧ ∀ x H', J.yld i H x H' → g x (wipe σ vs) H' fun σ2 H2 => wipe σ2 vs = wipe σ vs ∧
    te σ2 H2 fun y H4 => ∃ (c : Addr) (k : List Key) (L : List KRow), y = .ref c ∧ SqT K H4 c (k.map kV) ∧ H4 D = some (F L) ∧ (∀ p ∈ L, SqT K H4 p.1 (p.2.map kV)) ∧ L.length + 1 ≤ 76 ∧
      ∀ L', (k ∈ L.map (·.2) → L' = L) → (k ∉ L.map (·.2) → L'.Perm ((c, k) :: L)) → Nx (upd H4 D (F L')))
section
variable {X : Cx}
theorem pe_sortSc {elt tg iter : Expr} {scope : Scope} {own : List (PySem.Str × Nat)} {pos p p3 : Pos} {wi : TI} {g : TG} {te : TE} (hc : X.calm = true) (hu : X.A.units + 64 < cLine) (hm : X.mg "sorted" = none) (hN : X.N.Nodup) (hi : PI X tg iter wi) (ok : BlkOk X.N X.env.scope scope own)
    (hg : ∀ (s : Shared) (H : Hp) (C : Addr) (cl : List (PySem.Str × Addr)) (fp : List Addr), PG (X.blk s H scope (compEnvC scope cl C X.env) fp) tg g)
    (he : ∀ (s : Shared) (H : Hp) (C : Addr) (cl : List (PySem.Str × Addr)) (fp : List Addr), PE (X.blk s H scope (compEnvC scope cl C X.env) fp) elt te) (hs : ∀ x, foldedSetIterable iter X.env x = pure x := by intro _; rfl) (hgs : Gl X "sorted" := by rfl)
    (hst : starEach [Expr.SetComp elt [⟨tg, iter, [], 0⟩] scope pos] X.env = [(false, eval (.SetComp elt [⟨tg, iter, [], 0⟩] scope pos) X.env)] := by rfl) :
    PE X (.Call (.Name "sorted" p) [.SetComp elt [⟨tg, iter, [], 0⟩] scope pos] [] p3) (tSortSc X.K wi g te (own.map (·.2))) := by
  have h := pe_callB (pos := p3) (p := p) (r := rSortKS X.K X.prog X.w) (cr_sortKS hc) hgs hm b_sorted (pa_cons (pe_scK hc hu hN (pi_up hi) ok hg he hs) pa_nil hst) (by decide) (by decide) hst rfl
  refine ⟨fun pins s σ H Q I hq => h.run pins s σ H Q I ⟨_, hq, ?_⟩⟩
  intro J H1 hJ D hD
  obtain ⟨W, h0, turn⟩ := hJ D (SetKO X.prog X.w D) hD fun L => ⟨_, rfl⟩
  refine ⟨W, h0, fun i m H2 w => ?_⟩
  rcases turn i m H2 w with ⟨st, L, qs, h1, h2, h3, h4⟩ | y
  · exact .inl ⟨st, D, L, qs, rfl, h1, h2, h3, h4⟩
  · exact .inr y
end
section
variable {K : PySem.W.Frag} {ρ : List Sl} {te : TE}
def prD (q : Str × Str) : D := .tuple [.str q.1, .str q.2]
theorem ext_own (φ : Heap → Prop) : noTup (.ext φ) = true := rfl
theorem en_sortSc {wi : TI} {g : TG} {vs : List Nat} {n : Nat} {item : Nat → D} {f : Nat → Str × Str} (hi : EI K wi ρ n item) (hn : (dd ((List.range n).map f)).length ≤ 75)
    (hs : ∀ i, i < n → ∃ ρ2 ts, GT K g (wipeS ρ vs) (item i) ρ2 ts ∧ (∀ t ∈ ts, t ∈ vs) ∧ EV K te ρ2 (prD (f i))) :
    EVN K (tSortSc K wi g te vs) ρ (.list ((srt ltQ (dd ((List.range n).map f))).map prD)) := fun G0 H0 G H σ Q E q =>
  hi G0 H0 G H σ _ E fun J G1 H1 Gd Y x w hG hY Dl F hD hF => by
    have E1 := E.go x
    have hH : H Dl = none := x.gone hD
    have hG1 : G1 Dl = none := x.gh.none hD
    have hFt : ∀ L, noTup (F L) = true := fun L => by obtain ⟨φ, e⟩ := hF L; rw [e]; rfl
    let Pv : Nat → Hp → Prop := fun i H' => ∃ G' L, Ext G1 H1 G' H' ∧ G' Dl = none ∧ H' Dl = some (F L) ∧ (∀ p ∈ L, SqT K G' p.1 (p.2.map kV)) ∧ (L.map (·.2)).Nodup ∧ ∀ k, k ∈ L.map (·.2) ↔ ∃ j, j < i ∧ k = keyQ (f j)
    have few : ∀ i L, i ≤ n → (L.map (·.2)).Nodup → (∀ k, k ∈ L.map (·.2) ↔ ∃ j, j < i ∧ k = keyQ (f j)) → (L : List KRow).length ≤ 75 := fun i L hin nd hk => by
      have h1 : (L.map fun p => unQ p.2).Nodup := by
        have : (L.map fun p => unQ p.2) = (L.map (·.2)).map unQ := by rw [List.map_map]; rfl
        rw [this]
        refine List.pairwise_map.mpr (List.Pairwise.imp_of_mem (fun {a b} ha hb hne e => hne ?_) nd)
        obtain ⟨j, _, rfl⟩ := (hk a).mp ha
        obtain ⟨j', _, rfl⟩ := (hk b).mp hb
        rw [unQ_q, unQ_q] at e
        rw [e]
      have h2 : ∀ z ∈ (L.map fun p => unQ p.2), z ∈ dd ((List.range n).map f) := fun z hz => by
        obtain ⟨p, hp, rfl⟩ := List.mem_map.mp hz
        obtain ⟨j, hj, e⟩ := (hk p.2).mp (List.mem_map.mpr ⟨p, hp, rfl⟩)
        rw [e, unQ_q]
        exact mem_dd.mpr (List.mem_map.mpr ⟨j, List.mem_range.mpr (by omega), rfl⟩)
      have h3 : (L.map fun p => unQ p.2).length ≤ (dd ((List.range n).map f)).length := by
        rcases Nat.le_total (dd ((List.range n).map f)).length (L.map fun p => unQ p.2).length with c | c
        · exact Nat.le_of_eq (perm_of_sub h1 h2 c).length_eq
        · exact c
      rw [List.length_map] at h3
      omega
    refine ⟨fun i m H' => m = n - i ∧ i ≤ n ∧ Pv i H', ⟨n, by simp, Nat.zero_le _, G1, [], ?_, hG1, upd_same, fun p hp => (by cases hp), List.nodup_nil, fun k => ⟨fun h => (by cases h), fun ⟨j, hj, _⟩ => absurd hj (Nat.not_lt_zero _)⟩⟩, ?_⟩
    · obtain ⟨φ, e⟩ := hF []
      rw [e]
      exact .fresh x.gh hD
    rintro i m H' ⟨rfl, hin, G', L, e, n1, h1, ht, nd, hk⟩
    have gd := hG G' H' e.gg e.gh
    by_cases hlt : i < n
    · refine .inr ⟨w.goes i H' hlt gd, Pv (i + 1), fun H'' p' => ⟨n - (i + 1), by omega, rfl, hlt, p'⟩, fun y H3 hyl => ?_⟩
      have hy := w.yields i H' y H3 hlt gd hyl
      obtain ⟨G3, x3, hdq⟩ := hY i G' H' y H3 hlt e.gg e.gh hy
      obtain ⟨ρ2, ts, hg, hts, he⟩ := hs i hlt
      have E3 : En K G0 H0 G3 H3 (L2.wipe σ vs) (wipeS ρ vs) := ((E1.go e).go x3).wipe vs
      have n3 : G3 Dl = none := x3.own _ _ h1 (hFt L) n1
      refine hg G0 H0 G3 H3 _ y _ E3 hdq fun σ2 E2 hl hk2 => ⟨wipe_eq (by rw [hl, wipe_length]) hk2 hts, ?_⟩
      refine he G0 H0 G3 H3 σ2 _ E2 fun u G5 H5 x5 hu => ?_
      have h3 : H3 Dl = some (F L) := x3.at n1 h1
      have h5 : H5 Dl = some (F L) := x5.at n3 h3
      have n5 : G5 Dl = none := x5.own _ _ h3 (hFt L) n3
      obtain ⟨c, rfl, hcq⟩ : ∃ c, u = V.ref c ∧ SqT K G5 c ((keyQ (f i)).map kV) := by
        cases hu with
        | @tup b xs _ hb hr =>
          refine ⟨b, rfl, ?_⟩
          cases hr with
          | cons a1 r1 =>
            cases r1 with
            | cons a2 r2 =>
              cases r2
              cases a1
              cases a2
              exact hb
      have ht5 : ∀ p ∈ L, SqT K G5 p.1 (p.2.map kV) := fun p hp => x5.g.t (x3.g.t (ht p hp))
      refine ⟨c, keyQ (f i), L, rfl, x5.gh.t hcq, h5, fun p hp => x5.gh.t (ht5 p hp), by have := few i L hin nd hk; omega, fun L' c1 c2 => ?_⟩
      have e5 := (e.trans x3).trans x5
      refine ⟨G5, L', ?_, n5, upd_same, ?_, ?_, ?_⟩
      · refine ⟨e5.gg, fun a o ha => ?_, fun a o ha => ?_, e5.own⟩
        · rw [upd_ne (ne_of_none ha hD)]; exact e5.hh a o ha
        · exact (e5.gh a o ha).eq (upd_ne (ne_of_none ha n5))
      · intro p hp
        rcases Classical.em (keyQ (f i) ∈ L.map (·.2)) with z | z
        · rw [c1 z] at hp; exact ht5 p hp
        · rcases List.mem_cons.mp ((c2 z).mem_iff.mp hp) with rfl | hp
          · exact hcq
          · exact ht5 p hp
      · rcases Classical.em (keyQ (f i) ∈ L.map (·.2)) with z | z
        · rw [c1 z]; exact nd
        · refine ((c2 z).map (·.2)).nodup_iff.mpr ?_
          rw [List.map_cons]
          exact List.nodup_cons.mpr ⟨z, nd⟩
      · intro k
        rcases Classical.em (keyQ (f i) ∈ L.map (·.2)) with z | z
        · rw [c1 z, hk k]
          constructor
          · rintro ⟨j, hj, e⟩; exact ⟨j, by omega, e⟩
          · rintro ⟨j, hj, rfl⟩
            rcases Nat.lt_or_ge j i with c | c
            · exact ⟨j, c, rfl⟩
            · have : j = i := by omega
              rw [this]
              exact (hk _).mp z
        · rw [((c2 z).map (·.2)).mem_iff, List.map_cons, List.mem_cons, hk k]
          constructor
          · rintro (e | ⟨j, hj, e⟩)
            · exact ⟨i, by omega, e⟩
            · exact ⟨j, by omega, e⟩
          · rintro ⟨j, hj, e⟩
            rcases Nat.lt_or_ge j i with c | c
            · exact .inr ⟨j, c, e⟩
            · have : j = i := by omega
              rw [this] at e
              exact .inl e
    · have hi' : i = n := by omega
      subst hi'
      refine .inl ⟨w.stops H' gd, L, L.map (fun p => unQ p.2), h1, fun p hp => e.gh.t (ht p hp), ?_, fun p zs pm es hp => ?_⟩
      · rw [List.map_map]
        refine List.map_congr_left fun p hp => ?_
        obtain ⟨j, _, e⟩ := (hk p.2).mp (List.mem_map.mpr ⟨p, hp, rfl⟩)
        show p.2 = keyQ (unQ p.2)
        rw [e, unQ_q]
      · have hqs : srt ltQ (L.map fun p => unQ p.2) = srt ltQ (dd ((List.range i).map f)) := by
          refine srt_uniq stoQ ((srt_perm _).trans (dd_perm ?_ ?_)) (srt_pw stoQ _)
          · have : (L.map fun p => unQ p.2) = (L.map (·.2)).map unQ := by rw [List.map_map]; rfl
            rw [this]
            refine List.pairwise_map.mpr (List.Pairwise.imp_of_mem (fun {a b} ha hb hne e => hne ?_) nd)
            obtain ⟨j, _, rfl⟩ := (hk a).mp ha
            obtain ⟨j', _, rfl⟩ := (hk b).mp hb
            rw [unQ_q, unQ_q] at e
            rw [e]
          · intro z
            rw [List.mem_map, List.mem_map]
            constructor
            · rintro ⟨p, hp, rfl⟩
              obtain ⟨j, hj, e⟩ := (hk p.2).mp (List.mem_map.mpr ⟨p, hp, rfl⟩)
              exact ⟨j, List.mem_range.mpr hj, by rw [e, unQ_q]⟩
            · rintro ⟨j, hj, rfl⟩
              obtain ⟨p, hp, e⟩ := List.mem_map.mp ((hk (keyQ (f j))).mpr ⟨j, List.mem_range.mp hj, rfl⟩)
              exact ⟨p, hp, by rw [e, unQ_q]⟩
        rw [← hqs, ← es] at q
        have x6 := Ext.fresh (o := .lst (zs.map fun z => V.ref z.1)) e.gh hp
        refine q p G' _ (x.trans (e.trans x6)) (x.gone (e.gone hp)) (e.gh.none hp) (.lst upd_same ?_)
        have hz : ∀ z ∈ zs, SqT K G' z.1 [V.str z.2.1, V.str z.2.2] := fun z hz => by
          have := ht (z.1, keyQ z.2) (pm.mem_iff.mp (List.mem_map.mpr ⟨z, hz, rfl⟩))
          exact this
        clear es hqs pm q x6
        induction zs with
        | nil => exact .nil
        | cons z zs ih => exact .cons (.tup (hz z List.mem_cons_self) (.cons (.str _) (.cons (.str _) .nil))) (ih fun u hu => hz u (List.mem_cons_of_mem _ hu))
end
end DL

set_option maxHeartbeats 1000000
/-! DL38: list(d.values()) and len(d) of a plain dict; frozen and owned ones. -/
namespace DL
open PySem PySem.Spec PyProof.Rows L2
def VwO (v d : Addr) : HO := .ext fun h => h.IsValuesView v d
section
variable {X : Cx}
theorem vw_new {P : Program} {w : World} {H : Hp} {h : Heap} {v d : Addr} (R : h.IsValuesView v d) : ObjOk P w H h v (VwO v d) := by
  obtain ⟨o, ho, hc, hd⟩ := id R
  exact ⟨R, ⟨o, ho⟩, fun h1 h2 ⟨o1, a1, b1⟩ k => ⟨o1, k o1 a1, b1⟩⟩
def tVw (td : TE) : TE := fun σ H Q => td σ H fun x H1 => ∃ d kvs, x = .ref d ∧ Rd H1 d (.dK kvs) ∧ ∀ v, H1 v = none → Q (.ref v) (upd H1 v (VwO v d))
theorem pe_vw {e : Expr} {td : TE} {apos cpos : Pos} (he : PE X e td) (hbase : attributeBase e "values" X.env (eval e X.env) = eval e X.env := by rfl) (hline : (apos.endLine == cpos.line) = true := by rfl) : PE X (.Call (.Attribute e "values" apos) [] [] cpos) (tVw td) := by
  refine ⟨fun pins s σ H Q I h => ?_⟩
  refine wpAny_Call_method (T := "dict") (id := "dict.values") hbase rfl hline F.plainAttrs_dict F.slot_dict_values F.type_dict_values (thn (he.run pins s σ H _ I h) fun u s1 ⟨x, H1, I1, rx, d, kvs, ex, hd, q⟩ => ?_)
  subst ex
  obtain rfl : u = Value.ref d := rx
  obtain ⟨_, hs, vs, kv, dd⟩ := dk_rd I1.hok hd
  refine ⟨dd.typeIs, ?_, ?_⟩
  · obtain ⟨ob, _, _, h1, h2, _⟩ := dd
    intro b e
    cases e
    exact ⟨ob, h1, h2.2.1⟩
  have I2 : Inv X pins σ (upd H1 s1.heap.objs.size (VwO s1.heap.objs.size d)) { s1 with heap := s1.heap.push { cls := .type "dict_values", data := .fields #[.ref d] } } :=
    I1.laid (t' := s1.toks) (fun b ob q => Heap.get?_push_of_some _ q) (Nat.le_refl _) (vw_new ⟨_, Heap.get?_push_size _ rfl, rfl, rfl⟩)
  show wpAny _ _ (callWith cpos (.builtin "dict.values") [.ref d] [] []) _ X.xe s1
  exact method_meetsIn F.slot_dict_values F.entry_dict_values rfl (PySem.evalArgs_none ⟨rfl, dd.typeIs, F.args_dict_values_1 _, _, meets_dict_values (mixKind X.prog X.w) d hs, ⟨vs, dd⟩, .ref s1.heap.objs.size, _, I2, rfl, q _ (I1.hok.fresh (Nat.le_refl _))⟩)
def rListVw : List V → Hp → VK → Prop := fun xs H Q => ∃ v d kvs, xs = [V.ref v] ∧ H v = some (VwO v d) ∧ Rd H d (.dK kvs) ∧ ∀ l, H l = none → Q (.ref l) (upd H l (.lst (kvs.map (·.2))))
theorem kv_vals : ∀ {kvs : List (Key × V)} {vs : List (Key × Value)}, KV kvs vs → Vals (kvs.map (·.2)) (vs.map (·.2))
  | [], _, .nil => .nil
  | _ :: _, _, .cons r t => .cons r.2 (kv_vals t)
theorem cr_listVw (hc : X.calm = true) : CallR X (.type "list") rListVw := by
  intro pins s σ H xs us Q I r h
  obtain ⟨v, d, kvs, rfl, hv, hd, q⟩ := h
  rw [Vals.ref1 r]
  have hview : s.heap.IsValuesView v d := (I.hok v _ hv).1
  obtain ⟨hz, hs, vs, kv, dd⟩ := dk_rd I.hok hd
  obtain ⟨ep, hat⟩ := dd.dictAt
  have hl : kvs.length = vs.length := Paired.length kv
  refine PySem.W.kdl_call (PySem.W.kdl_values (knd := mixKind X.prog X.w) (kvs := vs) (ep := ep)) (I.ok.hd hc) ⟨hview, hat⟩ (by omega) fun h' tk acc c k1 e1 e2 => ?_
  have ez : acc.toList = vs.map (·.2) := PySem.W.kdl_vals_eq _ (by rw [Array.length_toList]; exact e2.1) fun j u e => e2.2 j u (by rw [← Array.getElem?_toList]; exact e)
  refine ⟨.ref s.heap.objs.size, _, I.laid (t' := tk) k1 (Nat.le_refl _) (show ObjOk X.prog X.w _ h' _ (.lst (kvs.map (·.2))) from ⟨by rw [List.length_map]; exact hz, vs.map (·.2), c, kv_vals kv, ?_⟩), rfl, q _ (I.hok.fresh (Nat.le_refl _))⟩
  rw [← ez, Array.toArray_toList]
  exact e1
/-- list(d.values()) -/
def tListVw (td : TE) : TE := fun σ H Q => td σ H fun x H1 => ∃ d kvs, x = .ref d ∧ Rd H1 d (.dK kvs) ∧ ∀ (v p : Addr) (φ : Heap → Prop), H1 v = none → p ≠ v → H1 p = none → Q (.ref p) (upd (upd H1 v (.ext φ)) p (.lst (kvs.map (·.2))))
theorem pe_listVw {e : Expr} {td : TE} {apos cpos p p3 : Pos} (hc : X.calm = true) (hm : X.mg "list" = none) (he : PE X e td) (hg : Gl X "list" := by rfl) (hbase : attributeBase e "values" X.env (eval e X.env) = eval e X.env := by rfl) (hline : (apos.endLine == cpos.line) = true := by rfl)
    (hst : starEach [Expr.Call (.Attribute e "values" apos) [] [] cpos] X.env = [(false, eval (.Call (.Attribute e "values" apos) [] [] cpos) X.env)] := by rfl) :
    PE X (.Call (.Name "list" p) [.Call (.Attribute e "values" apos) [] [] cpos] [] p3) (tListVw td) := by
  have h := pe_callTy (pos := p3) (p := p) (r := rListVw) (cr_listVw hc) hg hm b_list (pa_cons (pe_vw (cpos := cpos) (pe_up he) hbase hline) pa_nil hst) (by decide) (by decide) hst rfl
  refine ⟨fun pins s σ H Q I hq => h.run pins s σ H Q I ⟨_, hq, ?_⟩⟩
  rintro x H1 ⟨d, kvs, rfl, hd, q⟩
  refine ⟨d, kvs, rfl, hd, fun v hv => ⟨v, d, kvs, rfl, upd_same, ?_, fun p hp => ?_⟩⟩
  · rcases hd with hd | ⟨o, hd⟩
    · exact .inl (by rw [upd_ne (ne_of_none hd hv)]; exact hd)
    · exact .inr ⟨o, by rw [upd_ne (ne_of_none hd hv)]; exact hd⟩
  · have hpv : p ≠ v := fun z => by rw [z, upd_same] at hp; cases hp
    exact q v p _ hv hpv (by rw [upd_ne hpv] at hp; exact hp)
/-! len(d) -/
def rLenDK : List V → Hp → VK → Prop := fun xs H Q => ∃ d kvs, xs = [V.ref d] ∧ Rd H d (.dK kvs) ∧ Q (.int kvs.length) H
theorem cr_lenDK : CallR X (.builtin "len") rLenDK := by
  intro pins s σ H xs us Q I r h
  obtain ⟨d, kvs, rfl, hd, q⟩ := h
  rw [Vals.ref1 r]
  exact d_len I hd fun t s' I' => ⟨.int kvs.length, H, I', ⟨t, rfl⟩, q⟩
end
section
variable {K : PySem.W.Frag} {ρ : List Sl} {td : TE} {d : D}
theorem dqv_vals {G : Hp} : ∀ {es : List (Key × V)} {kvs : List (Key × D)}, DqV K G es kvs → DqA K G (es.map (·.2)) (kvs.map (·.2))
  | _, _, .nil => .nil
  | _, _, .cons a t => .cons a (dqv_vals t)
theorem en_listVwO {n : Nat} {kvs : List (Key × D)} (hi : ρ[n]? = some (.ow (dkD kvs))) : EVN K (tListVw (tVar n)) ρ (.list (kvs.map (·.2))) := fun G0 H0 G H σ Q E q => by
  obtain ⟨l, h1, h2, h3, h4⟩ := E.ow n _ hi
  obtain ⟨es, h5, h6⟩ := own_dk h4
  refine ⟨_, h1, l, es, rfl, .inl h5, fun v p φ hv hpv hp => ?_⟩
  have x := Ext.two (φ := φ) (o := .lst (es.map (·.2))) E.gh hv hp hpv
  exact q p G _ x hp (E.gh.none hp) (.lst upd_same (dqv_vals h6))
theorem en_listVw {kvs : List (Key × D)} (h : EV K td ρ (dkD kvs)) : EVN K (tListVw td) ρ (.list (kvs.map (·.2))) := fun G0 H0 G H σ Q E q =>
  h G0 H0 G H σ _ E fun x G1 H1 e1 hx => by
    obtain ⟨a, es, rfl, h1, h2⟩ := dq_dk hx
    refine ⟨a, es, rfl, e1.gh.rd h1, fun v p φ hv hpv hp => ?_⟩
    have x := Ext.two (φ := φ) (o := .lst (es.map (·.2))) e1.gh hv hp hpv
    exact q p G1 _ (e1.trans x) (e1.gone hp) (e1.gh.none hp) (.lst upd_same (dqv_vals h2))
theorem ev_lenDK {kvs : List (Key × D)} (h : EV K td ρ (dkD kvs)) : EV K (tCB rLenDK (tCons td tNil)) ρ (.int kvs.length) := fun G0 H0 G H σ Q E q =>
  h G0 H0 G H σ _ E fun x G1 H1 e1 hx => by
    obtain ⟨a, es, rfl, h1, h2⟩ := dq_dk hx
    exact ⟨a, es, rfl, e1.gh.rd h1, by rw [h2.length]; exact q _ G1 H1 e1 (.int _)⟩
theorem ev_lenDKO {n : Nat} {kvs : List (Key × D)} (hi : ρ[n]? = some (.ow (dkD kvs))) : EV K (tCB rLenDK (tCons (tVar n) tNil)) ρ (.int kvs.length) := fun G0 H0 G H σ Q E q => by
  obtain ⟨l, h1, h2, h3, h4⟩ := E.ow n _ hi
  obtain ⟨es, h5, h6⟩ := own_dk h4
  exact ⟨_, h1, l, es, rfl, .inl h5, by rw [h6.length]; exact q _ G H (.refl E.gh) (.int _)⟩
end
end DL

namespace K04
open PySem L2 DL
abbrev sL : Str := "abcdefghijklmnopqrstuvwxyz"
abbrev sF : Str := "0123456789"
def goodL : List Nat → Prop
  | [] => False
  | c :: r => c ∈ sL.cps.toList ∧ ∀ x ∈ r, x ∈ sL.cps.toList ∨ x ∈ sF.cps.toList
def goodS (z : Str) : Prop := goodL z.cps.toList
def schD (rs : List Str) (ps : List (Str × Str)) : D := .tuple [.tuple (rs.map PyData.str), .tuple (ps.map pqD)]
/-- a scheme as the law makes them -/
structure WS (rs : List Str) (ps : List (Str × Str)) : Prop where
  many : rs.length ≤ 40
  good : ∀ z ∈ rs, goodS z ∧ z.length ≤ 8
  up : rs.Pairwise fun a b => ltS a b = true
  lt : ∀ p ∈ ps, ltS p.1 p.2 = true
  one : ∀ p ∈ ps, p.1 ∈ rs ++ sides4 ∧ p.2 ∈ rs ++ sides4 ∧ (p.1 ∈ rs ∨ p.2 ∈ rs)
  few : ps.length ≤ 75
def ordQ (p : Str × Str) : Str × Str := if ltS p.1 p.2 = true then p else (p.2, p.1)
def both (g : Str → Str) (p : Str × Str) : Str × Str := (g p.1, g p.2)
/-- what make_scheme makes -/
def mkD (rs : List Str) (ts : List (Str × Str)) : D := schD (srt ltS (dd rs)) (srt ltQ (dd (ts.map ordQ)))
def stepP (qs : List (Str × Str)) (t : Str × Str) : List (Str × Str) := if t.1 = t.2 then qs else addP qs (if ltS t.1 t.2 = true then t else (t.2, t.1))
def pairsOf (ts : List (Str × Str)) : List (Str × Str) := ts.foldl stepP []
/-- what the law's maker makes -/
def lawD (rs : List Str) (ts : List (Str × Str)) : D := schD (srt ltS rs) (srt ltQ (pairsOf ts))
/-- the dict of these pairs, told one by one -/
def dcS (us : List (Str × Str)) : List (Key × D) := us.foldl (fun kvs p => putG kvs (.inr p.1) (.str p.2)) []
/-- the last new name of z -/
def lastO (us : List (Str × Str)) (z : Str) : Option Str := us.foldl (fun o p => if p.1 = z then some p.2 else o) none
def rn (us : List (Str × Str)) (z : Str) : Str := (lastO us z).getD z
/-- renamings: of rooms only, into no sides -/
def RnOk (rs : List Str) (us : List (Str × Str)) : Prop := us.length ≤ 41 ∧ ∀ p ∈ us, p.1 ∈ rs ∧ goodS p.2 ∧ p.2.length ≤ 8
def tabD (us : List (Str × Str)) (rs : List Str) : List (Key × D) := sides4.foldl (fun kvs s => putG kvs (.inr s) (.str s)) (rs.map fun z => (.inr z, .str (rn us z)))
def exBad (K : PySem.W.Frag) (C : Addr) (fl : List (Str × D)) : Prop := C = He.ga K "BadStep" ∧ fl = [(("word" : Str), PyData.str "name")]
def dirN (z : Str) : Int := if z = "E" then 0 else if z = "N" then 1 else if z = "W" then 2 else 3
def dirS (i : Int) : Str := chS "ENWS" (i % 4)
def turnS (n : Int) (z : Str) : Str := dirS (dirN z + n)
def mirrS (z : Str) : Str := dirS (2 - dirN z)
def sdK (g : Str → Str) : List (Key × D) := sides4.map fun s => (.inr s, .str (g s))
def sg (g : Str → Str) (z : Str) : Str := if z ∈ sides4 then g z else z
def sp_ordered_pair (K : PySem.W.Frag) : Sp := PF K fun ds d => ∃ a b : Str, ds = [.str a, .str b] ∧ d = pqD (ordQ (a, b))
def sp_make_scheme (K : PySem.W.Frag) : Sp := PF K fun ds d => ∃ (rs : List Str) (ts : List (Str × Str)), ds = [.tuple (rs.map PyData.str), .tuple (ts.map pqD)] ∧ rs.length ≤ 1000 ∧ ts.length ≤ 75 ∧ d = mkD rs ts
def sp_names_after (K : PySem.W.Frag) : Sp := PX K
  (fun ds d => ∃ rs ps us, ds = [schD rs ps, .tuple (us.map pqD)] ∧ WS rs ps ∧ RnOk rs us ∧ (rs.map (rn us)).Nodup ∧ d = dkD (tabD us rs))
  (fun ds C fl => ∃ rs ps us, ds = [schD rs ps, .tuple (us.map pqD)] ∧ WS rs ps ∧ RnOk rs us ∧ ¬(rs.map (rn us)).Nodup ∧ exBad K C fl)
def sp_renamed_scheme (K : PySem.W.Frag) : Sp := PX K
  (fun ds d => ∃ rs ps us, ds = [schD rs ps, .tuple (us.map pqD)] ∧ WS rs ps ∧ RnOk rs us ∧ (rs.map (rn us)).Nodup ∧ d = mkD (rs.map (rn us)) (ps.map (both (rn us))))
  (fun ds C fl => ∃ rs ps us, ds = [schD rs ps, .tuple (us.map pqD)] ∧ WS rs ps ∧ RnOk rs us ∧ ¬(rs.map (rn us)).Nodup ∧ exBad K C fl)
def sp_direction_number (K : PySem.W.Frag) : Sp := PF K fun ds d => ∃ z : Str, ds = [.str z] ∧ z ∈ sides4 ∧ d = .int (dirN z)
def sp_direction_by (K : PySem.W.Frag) : Sp := PF K fun ds d => ∃ i : Int, ds = [.int i] ∧ d = .str (dirS i)
def sp_turned_direction (K : PySem.W.Frag) : Sp := PF K fun ds d => ∃ (z : Str) (n : Int), ds = [.str z, .int n] ∧ z ∈ sides4 ∧ d = .str (turnS n z)
def sp_mirrored_direction (K : PySem.W.Frag) : Sp := PF K fun ds d => ∃ z : Str, ds = [.str z] ∧ z ∈ sides4 ∧ d = .str (mirrS z)
def sp_sides_changed (K : PySem.W.Frag) : Sp := PF K fun ds d => ∃ rs ps g, ds = [schD rs ps, dkD (sdK g)] ∧ WS rs ps ∧ d = mkD rs (ps.map fun p => (sg g p.1, p.2))
def sp_turned_scheme (K : PySem.W.Frag) : Sp := PF K fun ds d => ∃ rs ps n, ds = [schD rs ps, .int n] ∧ WS rs ps ∧ d = mkD rs (ps.map fun p => (sg (turnS n) p.1, p.2))
def sp_mirrored_scheme (K : PySem.W.Frag) : Sp := PF K fun ds d => ∃ rs ps, ds = [schD rs ps] ∧ WS rs ps ∧ d = mkD rs (ps.map fun p => (sg mirrS p.1, p.2))
/-! the law's own defs -/
def sp_u_law_pool (K : PySem.W.Frag) : Sp := PQ K (fun ds => ∃ (ns : List Int) (m : Int), ds = [.dict [(.none, .list (ns.map PyData.int))], .int m] ∧ ns.length ≤ 63 ∧ 0 ≤ m ∧ m ≤ 100000)
  (fun ds d => ∃ (m : Int) (c : D) (ps : List Int), ds = [c, .int m] ∧ d = .list (ps.map PyData.int) ∧ (ps.length : Int) = m)
def tailS (z : Str) (p : Int) : Nat → Str
  | 0 => z
  | n + 1 => tailS z p n ++ chS "0xbz9enw" ((p / 20 + 3 * (n : Nat)) % 8)
def nameAt (l : Str) (ps : List Int) (b : Int) (k : Nat) (ns : List Str) : Str :=
  let p := pI ps (b + (k : Nat))
  let z := chS "abcdefghijklmnoprstuvwy" (p % 23)
  let q := p / 23
  let z := if (decide (q % 5 = 0) && decide ((k : Int) > 0)) = true then ns.getD (k - 1) Str.empty else z
  let z := tailS z q (q / 5 % 4).toNat
  if (decide ((z.length : Int) > 8) || inD (.str z) (ns.map PyData.str)) = true then l ++ strI (1000 + (k : Nat)) else z
def namesK (l : Str) (ps : List Int) (b : Int) : Nat → List Str
  | 0 => []
  | n + 1 => namesK l ps b n ++ [nameAt l ps b n (namesK l ps b n)]
def sp_u_law_names (K : PySem.W.Frag) : Sp := PF K fun ds d => ∃ (ps : List Int) (b m : Int) (l : Str), ds = [.list (ps.map PyData.int), .int b, .int m, .str l] ∧ l.length = 1 ∧ 0 ≤ b ∧ 0 ≤ m ∧ m ≤ 50 ∧ b + m ≤ ps.length ∧ d = .list ((namesK l ps b m.toNat).map PyData.str)
def sp_u_law_scheme (K : PySem.W.Frag) : Sp := PF K fun ds d => ∃ (rs : List Str) (ts : List (Str × Str)), ds = [.list (rs.map PyData.str), .list (ts.map pqD)] ∧ rs.length ≤ 40 ∧ ts.length ≤ 75 ∧ d = lawD rs ts
/-- rooms as the law draws them -/
structure Rooms (rs : List Str) : Prop where
  nd : rs.Nodup
  good : ∀ z ∈ rs, goodS z ∧ z.length ≤ 8
  some : 1 ≤ rs.length
  many : rs.length ≤ 40
def sp_u_law_drawn (K : PySem.W.Frag) : Sp := PQ K (fun ds => ∃ (rs : List Str) (ps : List Int) (b m : Int), ds = [.list (rs.map PyData.str), .list (ps.map PyData.int), .int b, .int m] ∧ Rooms rs ∧ 0 ≤ b ∧ 0 ≤ m ∧ m ≤ 75 ∧ b + m ≤ ps.length)
  (fun ds d => ∃ (rs : List Str) (t : List D) (qs : List (Str × Str)), ds = .list (rs.map PyData.str) :: t ∧ d = schD (srt ltS rs) qs ∧ WS (srt ltS rs) qs)
def sp_u_law_mapped (K : PySem.W.Frag) : Sp := PF K fun ds d => ∃ rs ps kvs g, ds = [schD rs ps, dkD kvs] ∧ rs.length ≤ 40 ∧ ps.length ≤ 75 ∧ (∀ z, (z ∈ rs ∨ ∃ p ∈ ps, z = p.1 ∨ z = p.2) → (getG kvs (.inr z)).getD (.str z) = .str (g z)) ∧ d = lawD (rs.map g) (ps.map (both g))
/-- texts, or pairs of texts, in a tuple -/
def sameD : D → Bool
  | .tuple ds => decide (ds.length ≤ 1000) && ds.all fun x => match x with
    | .str z => decide (z.length ≤ 1000)
    | .tuple [.str a, .str b] => decide (a.length ≤ 1000) && decide (b.length ≤ 1000)
    | _ => false
  | _ => false
/-- a scheme, or such a tuple -/
def samS (d : D) : Prop := ∃ x y, d = .tuple [x, y] ∧ sameD x = true ∧ sameD y = true
def sp_u_law_same (K : PySem.W.Frag) : Sp := PF K fun ds d => ∃ x, ds = [x, x] ∧ samS x ∧ d = .bool true
def sp_u_law_renamed (K : PySem.W.Frag) : Sp := PF K fun ds d => ∃ rs ps us, ds = [schD rs ps, .list (us.map pqD)] ∧ WS rs ps ∧ RnOk rs us ∧ d = .bool true
def sp_u_law_renamings (K : PySem.W.Frag) : Sp := PQ K (fun ds => ∃ (rs fs : List Str) (i : Int), ds = [.list (rs.map PyData.str), .list (fs.map PyData.str), .int i] ∧ Rooms rs ∧ fs.length = rs.length + 1 ∧ ∀ z ∈ fs, goodS z ∧ z.length ≤ 8)
  (fun ds d => ∃ (rs : List Str) (t : List D) (ws : List (List (Str × Str))), ds = .list (rs.map PyData.str) :: t ∧ d = .list (ws.map fun us => .list (us.map pqD)) ∧ ws.length ≤ 20 ∧ ∀ us ∈ ws, RnOk rs us)
def sp_u_law_moved (K : PySem.W.Frag) : Sp := PF K fun ds d => ∃ rs ps, ∃ ns : List Int, ds = [schD rs ps, .list (ns.map PyData.int)] ∧ WS rs ps ∧ ns.length ≤ 1000 ∧ d = .bool true
def sp_law (K : PySem.W.Frag) : Sp := PF K fun ds d => ∃ ns : List Int, ds = [.dict [(.none, .list (ns.map PyData.int))]] ∧ ns.length ≤ 63 ∧ d = .bool true
end K04

set_option maxHeartbeats 4000000
namespace K04
open PySem PySem.Spec PyProof.Rows L2 DL
/-! printed by gen.py: the text by places, the names, the readings -/
def top (i : Nat) : Stmt := PySem.Challenge.pw_wallsaswished_k04_renamed_turned_mirrore.main.body.getD i (.Pass ⟨0, 0, 0, 0⟩)
abbrev s_ordered_pair : Stmt := top 8
abbrev N_ordered_pair : List Str := ["one", "other"]
theorem sc_ordered_pair : FnScope N_ordered_pair ["one", "other"] (defScope s_ordered_pair) := ⟨rfl, rfl, rfl, by decide +kernel, rfl, by decide +kernel, by decide +kernel⟩
abbrev s_make_scheme : Stmt := top 9
abbrev N_make_scheme : List Str := ["rooms", "touches", "pairs", "one", "other"]
theorem sc_make_scheme : FnScope N_make_scheme ["rooms", "touches"] (defScope s_make_scheme) := ⟨rfl, rfl, rfl, by decide +kernel, rfl, by decide +kernel, by decide +kernel⟩
abbrev s_names_after : Stmt := top 11
abbrev N_names_after : List Str := ["scheme", "pairs", "told", "old", "new", "table", "room", "side"]
theorem sc_names_after : FnScope N_names_after ["scheme", "pairs"] (defScope s_names_after) := ⟨rfl, rfl, rfl, by decide +kernel, rfl, by decide +kernel, by decide +kernel⟩
abbrev s_renamed_scheme : Stmt := top 12
abbrev N_renamed_scheme : List Str := ["scheme", "pairs", "table", "rooms", "room", "one", "other"]
theorem sc_renamed_scheme : FnScope N_renamed_scheme ["scheme", "pairs"] (defScope s_renamed_scheme) := ⟨rfl, rfl, rfl, by decide +kernel, rfl, by decide +kernel, by decide +kernel⟩
abbrev s_direction_number : Stmt := top 15
abbrev N_direction_number : List Str := ["direction"]
theorem sc_direction_number : FnScope N_direction_number ["direction"] (defScope s_direction_number) := ⟨rfl, rfl, rfl, by decide +kernel, rfl, by decide +kernel, by decide +kernel⟩
abbrev s_direction_by : Stmt := top 16
abbrev N_direction_by : List Str := ["number"]
theorem sc_direction_by : FnScope N_direction_by ["number"] (defScope s_direction_by) := ⟨rfl, rfl, rfl, by decide +kernel, rfl, by decide +kernel, by decide +kernel⟩
abbrev s_turned_direction : Stmt := top 17
abbrev N_turned_direction : List Str := ["direction", "n"]
theorem sc_turned_direction : FnScope N_turned_direction ["direction", "n"] (defScope s_turned_direction) := ⟨rfl, rfl, rfl, by decide +kernel, rfl, by decide +kernel, by decide +kernel⟩
abbrev s_mirrored_direction : Stmt := top 18
abbrev N_mirrored_direction : List Str := ["direction"]
theorem sc_mirrored_direction : FnScope N_mirrored_direction ["direction"] (defScope s_mirrored_direction) := ⟨rfl, rfl, rfl, by decide +kernel, rfl, by decide +kernel, by decide +kernel⟩
abbrev s_sides_changed : Stmt := top 20
abbrev N_sides_changed : List Str := ["scheme", "sides", "one", "other"]
theorem sc_sides_changed : FnScope N_sides_changed ["scheme", "sides"] (defScope s_sides_changed) := ⟨rfl, rfl, rfl, by decide +kernel, rfl, by decide +kernel, by decide +kernel⟩
abbrev s_turned_scheme : Stmt := top 21
abbrev N_turned_scheme : List Str := ["scheme", "n", "side"]
theorem sc_turned_scheme : FnScope N_turned_scheme ["scheme", "n"] (defScope s_turned_scheme) := ⟨rfl, rfl, rfl, by decide +kernel, rfl, by decide +kernel, by decide +kernel⟩
abbrev s_mirrored_scheme : Stmt := top 22
abbrev N_mirrored_scheme : List Str := ["scheme", "side"]
theorem sc_mirrored_scheme : FnScope N_mirrored_scheme ["scheme"] (defScope s_mirrored_scheme) := ⟨rfl, rfl, rfl, by decide +kernel, rfl, by decide +kernel, by decide +kernel⟩
abbrev s_u_law_pool : Stmt := top 24
abbrev N_u_law_pool : List Str := ["script", "many", "cells", "cell", "rest", "pool", "k", "at", "mixed"]
theorem sc_u_law_pool : FnScope N_u_law_pool ["script", "many"] (defScope s_u_law_pool) := ⟨rfl, rfl, rfl, by decide +kernel, rfl, by decide +kernel, by decide +kernel⟩
abbrev s_u_law_names : Stmt := top 25
abbrev N_u_law_names : List Str := ["pool", "begin", "many", "last", "names", "k", "pick", "name", "count"]
theorem sc_u_law_names : FnScope N_u_law_names ["pool", "begin", "many", "last"] (defScope s_u_law_names) := ⟨rfl, rfl, rfl, by decide +kernel, rfl, by decide +kernel, by decide +kernel⟩
abbrev s_u_law_scheme : Stmt := top 26
abbrev N_u_law_scheme : List Str := ["rooms", "touches", "pairs", "one", "other"]
theorem sc_u_law_scheme : FnScope N_u_law_scheme ["rooms", "touches"] (defScope s_u_law_scheme) := ⟨rfl, rfl, rfl, by decide +kernel, rfl, by decide +kernel, by decide +kernel⟩
abbrev s_u_law_drawn : Stmt := top 27
abbrev N_u_law_drawn : List Str := ["rooms", "pool", "begin", "many", "touches", "names", "k"]
theorem sc_u_law_drawn : FnScope N_u_law_drawn ["rooms", "pool", "begin", "many"] (defScope s_u_law_drawn) := ⟨rfl, rfl, rfl, by decide +kernel, rfl, by decide +kernel, by decide +kernel⟩
abbrev s_u_law_mapped : Stmt := top 28
abbrev N_u_law_mapped : List Str := ["scheme", "names", "rooms", "room", "one", "other"]
theorem sc_u_law_mapped : FnScope N_u_law_mapped ["scheme", "names"] (defScope s_u_law_mapped) := ⟨rfl, rfl, rfl, by decide +kernel, rfl, by decide +kernel, by decide +kernel⟩
abbrev s_u_law_same : Stmt := top 29
abbrev N_u_law_same : List Str := ["told", "due", "k"]
theorem sc_u_law_same : FnScope N_u_law_same ["told", "due"] (defScope s_u_law_same) := ⟨rfl, rfl, rfl, by decide +kernel, rfl, by decide +kernel, by decide +kernel⟩
abbrev s_u_law_renamed : Stmt := top 30
abbrev N_u_law_renamed : List Str := ["scheme", "pairs", "names", "old", "new", "later", "room", "once", "name", "told", "e"]
theorem sc_u_law_renamed : FnScope N_u_law_renamed ["scheme", "pairs"] (defScope s_u_law_renamed) := ⟨rfl, rfl, rfl, by decide +kernel, rfl, by decide +kernel, by decide +kernel⟩
abbrev s_u_law_renamings : Stmt := top 31
abbrev N_u_law_renamings : List Str := ["rooms", "fresh", "pick", "many", "part", "one", "two", "ways", "k"]
theorem sc_u_law_renamings : FnScope N_u_law_renamings ["rooms", "fresh", "pick"] (defScope s_u_law_renamings) := ⟨rfl, rfl, rfl, by decide +kernel, rfl, by decide +kernel, by decide +kernel⟩
abbrev s_u_law_moved : Stmt := top 32
abbrev N_u_law_moved : List Str := ["scheme", "numbers", "order", "n", "names", "k"]
theorem sc_u_law_moved : FnScope N_u_law_moved ["scheme", "numbers"] (defScope s_u_law_moved) := ⟨rfl, rfl, rfl, by decide +kernel, rfl, by decide +kernel, by decide +kernel⟩
abbrev s_law : Stmt := top 33
abbrev N_law : List Str := ["script", "pool", "small", "wide", "fresh", "refused", "rooms", "begin", "most", "scheme", "new", "name", "k", "pairs", "numbers", "one"]
theorem sc_law : FnScope N_law ["script"] (defScope s_law) := ⟨rfl, rfl, rfl, by decide +kernel, rfl, by decide +kernel, by decide +kernel⟩
abbrev s_i_BadStep : Stmt := inClass (top 4) 0
theorem sc_i_BadStep : FnScope ["self", "word"] ["self", "word"] (defScope s_i_BadStep) := ⟨rfl, rfl, rfl, by decide +kernel, rfl, by decide +kernel, by decide +kernel⟩
abbrev s_i_NoHouse : Stmt := inClass (top 5) 0
theorem sc_i_NoHouse : FnScope ["self", "paper"] ["self", "paper"] (defScope s_i_NoHouse) := ⟨rfl, rfl, rfl, by decide +kernel, rfl, by decide +kernel, by decide +kernel⟩
structure Txt (K : PySem.W.Frag) (mg : Str → Option Value) : Prop where
  f_int : mg "int" = none
  f_isinstance : mg "isinstance" = none
  f_len : mg "len" = none
  f_list : mg "list" = none
  f_range : mg "range" = none
  f_set : mg "set" = none
  f_sorted : mg "sorted" = none
  f_str : mg "str" = none
  f_tuple : mg "tuple" = none
  g_PlanError : mg "PlanError" = some (.ref (He.ga K "PlanError"))
  g_DataError : mg "DataError" = some (.ref (He.ga K "DataError"))
  g_CallError : mg "CallError" = some (.ref (He.ga K "CallError"))
  g_BadStep : mg "BadStep" = some (.ref (He.ga K "BadStep"))
  g_NoHouse : mg "NoHouse" = some (.ref (He.ga K "NoHouse"))
  g_SIDES : mg "SIDES" = some (.ref (He.ga K "SIDES"))
  t_SIDES : ∀ H : Hp, SqT K H (He.ga K "SIDES") [.str "E", .str "N", .str "W", .str "S"]
  c_DIRECTIONS : ∃ t, mg "DIRECTIONS" = some (.str "ENWS" t)
  n_BadStep_word : PySem.W.findIn K (.ref (He.ga K "BadStep")) "word" = some none
  n_NoHouse_paper : PySem.W.findIn K (.ref (He.ga K "NoHouse")) "paper" = some none
  x_PlanError : ExF K (He.ga K "PlanError")
  x_DataError : ExF K (He.ga K "DataError")
  x_CallError : ExF K (He.ga K "CallError")
  x_BadStep : ExF K (He.ga K "BadStep")
  x_NoHouse : ExF K (He.ga K "NoHouse")
  i_BadStep : PySem.W.findIn K (.ref (He.ga K "BadStep")) "__init__" = some (some (.ref (He.ma K (He.ga K "BadStep") "__init__"))) ∧ PySem.W.typeIn K (.ref (He.ma K (He.ga K "BadStep") "__init__")) = some (.type "function")
  i_NoHouse : PySem.W.findIn K (.ref (He.ga K "NoHouse")) "__init__" = some (some (.ref (He.ma K (He.ga K "NoHouse") "__init__"))) ∧ PySem.W.typeIn K (.ref (He.ma K (He.ga K "NoHouse") "__init__")) = some (.type "function")
  k_BadStep_BadStep : PySem.W.kitOne K (.ref (He.ga K "BadStep")) (.ref (He.ga K "BadStep")) = some true
  k_BadStep_CallError : PySem.W.kitOne K (.ref (He.ga K "BadStep")) (.ref (He.ga K "CallError")) = some true
  k_BadStep_DataError : PySem.W.kitOne K (.ref (He.ga K "BadStep")) (.ref (He.ga K "DataError")) = some false
  k_BadStep_NoHouse : PySem.W.kitOne K (.ref (He.ga K "BadStep")) (.ref (He.ga K "NoHouse")) = some false
  e_BadStep_PlanError : PySem.W.exmOne K (.ref (He.ga K "BadStep")) (.ref (He.ga K "PlanError")) = some true

section
variable {P : Program} {w : World} {K : PySem.W.Frag} {mg : Str → Option Value} {base : Heap}
def t_ordered_pair (K : PySem.W.Frag) : TS := (tRet (tIf (tTest (tOp rLtU (tVar 0) (tVar 1))) (tTup (tCons (tVar 0) (tCons (tVar 1) tNil))) (tTup (tCons (tVar 1) (tCons (tVar 0) tNil)))))
theorem dv_ordered_pair (T : Txt K mg)  {f : Addr} (cdv : Value) (A : Around) (outer : List PySem.Env) (s : Shared) (H : Hp) (E : XK) (hr : Room 0 (A.deeper (envOfC "ordered_pair" (defScope s_ordered_pair) s.heap.objs.size f cdv))) :
    PSs (cxOf CX0 P w K mg base N_ordered_pair "ordered_pair" (defScope s_ordered_pair) f cdv A outer s H E) (defBody s_ordered_pair) (t_ordered_pair K) := by
  have sc := sc_ordered_pair
  exact (pss_one (ps_ret (pe_ifExp (pt_cmpR op_ltU (pv 0) (pv 1) (nomark _)) (pe_tup (pa_cons (pv 0) (pa_cons (pv 1) pa_nil))) (pe_tup (pa_cons (pv 1) (pa_cons (pv 0) pa_nil))))))
def t_make_scheme (K : PySem.W.Frag) : TS := (tSeq (tAsg (tSortSc K (iSeqU K (tVar 1)) (gTup K 2 (gCons (gName 3) (gCons (gName 4) gNil))) (tCall (sp_ordered_pair K) [] E0 (tCons (tVar 3) (tCons (tVar 4) tNil))) [3, 4]) (gName 2))
 (tRet (tTup (tCons (tCB (rTupU K) (tCons (tSortSet K (tVar 0)) tNil)) (tCons (tCB (rTupU K) (tCons (tVar 2) tNil)) tNil)))))
theorem dv_make_scheme (T : Txt K mg) (O_ordered_pair : Okd P w K mg base CX0 1 "ordered_pair" ["one", "other"] (sp_ordered_pair K)) {f : Addr} (cdv : Value) (A : Around) (outer : List PySem.Env) (s : Shared) (H : Hp) (E : XK) (hr : Room 1 (A.deeper (envOfC "make_scheme" (defScope s_make_scheme) s.heap.objs.size f cdv))) :
    PSs (cxOf CX0 P w K mg base N_make_scheme "make_scheme" (defScope s_make_scheme) f cdv A outer s H E) (defBody s_make_scheme) (t_make_scheme K) := by
  have sc := sc_make_scheme
  exact (pss_cons (ps_set (i := 2) sc.nd rfl (by first | exact Or.inl rfl | exact Or.inr rfl) (pe_sortSc (own := [("one", 3), ("other", 4)]) (g := (gTup K 2 (gCons (gName 3) (gCons (gName 4) gNil)))) rfl hr.units T.f_sorted sc.nd (pi_seqU (pv 1)) (blkOk_by (own := [("one", 3), ("other", 4)]) (N := N_make_scheme) (sc := defScope s_make_scheme) (by decide +kernel)) (fun _ _ _ _ _ => (pg_tup rfl (pgs_cons (pg_name (i := 3) sc.nd rfl (by first | exact Or.inl rfl | exact Or.inr rfl)) (pgs_cons (pg_name (i := 4) sc.nd rfl (by first | exact Or.inl rfl | exact Or.inr rfl)) pgs_nil)))) (fun _ _ _ _ _ => (pe_callD O_ordered_pair hr (by decide) (pa_cons (pv 3) (pa_cons (pv 4) pa_nil))))))
 (pss_one (ps_ret (pe_tup (pa_cons (pe_callTy (r := rTupU _) call_tupleU rfl T.f_tuple b_tuple (pa_cons (pe_sortSet rfl T.f_sorted T.f_set (pv 0)) pa_nil)) (pa_cons (pe_callTy (r := rTupU _) call_tupleU rfl T.f_tuple b_tuple (pa_cons (pv 2) pa_nil)) pa_nil))))))
def t_names_after (K : PySem.W.Frag) (Ex : XK) : TS := (tSeq (tAsg (tDc (iSeqU K (tVar 1)) (gTup K 2 (gCons (gName 3) (gCons (gName 4) gNil))) tYes (tVar 3) (tVar 4) [3, 4]) (gName 2))
 (tSeq (tAsg (tDc (iSeqU K (tOp (rIx K) (tVar 0) (tC (.int 0)))) (gName 6) tYes (tVar 6) (tDGet2 (tVar 2) (tVar 6) (tVar 6)) [6]) (gName 5))
 (tSeq (tIfS (tTest (tOp rLtU (tLenSet' K (tListVw (tVar 5))) (tCB rLenDK (tCons (tVar 5) tNil)))) (tRaiseO K (He.ga K "BadStep") ["word"] Ex (tCons (tC (.str "name")) tNil)) tNext)
 (tSeq (tFor (iSeqU K (tC (.ref (He.ga K "SIDES")))) (gName 7) (sDPut (tVar 5) (tVar 7) (tVar 7)))
 (tRet (tVar 5))))))
theorem dv_names_after (T : Txt K mg) (X_BadStep : ExOk P w K mg base 1 "BadStep" ["word"]) {f : Addr} (cdv : Value) (A : Around) (outer : List PySem.Env) (s : Shared) (H : Hp) (E : XK) (hr : Room 2 (A.deeper (envOfC "names_after" (defScope s_names_after) s.heap.objs.size f cdv))) :
    PSs (cxOf (L2N.CX P w) P w K mg base N_names_after "names_after" (defScope s_names_after) f cdv A outer s H E) (defBody s_names_after) (t_names_after K E) := by
  have sc := sc_names_after
  have pa : PassesOwn (model P w) (cxOf (L2N.CX P w) P w K mg base N_names_after "names_after" (defScope s_names_after) f cdv A outer s H E).A (cxOf (L2N.CX P w) P w K mg base N_names_after "names_after" (defScope s_names_after) f cdv A outer s H E).env (cxOf (L2N.CX P w) P w K mg base N_names_after "names_after" (defScope s_names_after) f cdv A outer s H E).xe := passes_of rfl
  have tk : L2N.Takes (cxOf (L2N.CX P w) P w K mg base N_names_after "names_after" (defScope s_names_after) f cdv A outer s H E) (fun cls d _ H => E cls d H) := L2N.takes_of rfl rfl rfl rfl
  exact (pss_cons (ps_set (i := 2) sc.nd rfl (by first | exact Or.inl rfl | exact Or.inr rfl) (pe_dc (own := [("old", 3), ("new", 4)]) (g := (gTup K 2 (gCons (gName 3) (gCons (gName 4) gNil)))) (tt := tYes) rfl sc.nd (pi_seqU (pv 1)) (blkOk_by (own := [("old", 3), ("new", 4)]) (N := N_names_after) (sc := defScope s_names_after) (by decide +kernel)) (fun _ _ _ _ _ => (pg_tup rfl (pgs_cons (pg_name (i := 3) sc.nd rfl (by first | exact Or.inl rfl | exact Or.inr rfl)) (pgs_cons (pg_name (i := 4) sc.nd rfl (by first | exact Or.inl rfl | exact Or.inr rfl)) pgs_nil)))) (fun _ _ _ _ _ => pts_nil) (fun _ _ _ _ _ => (pv 3)) (fun _ _ _ _ _ => (pv 4))))
 (pss_cons (ps_setDc (i := 5) (own := [("room", 6)]) (g := (gName 6)) (tt := tYes) rfl sc.nd rfl rfl (sw_trueD rfl rfl rfl (by decide +kernel)) (pi_seqU (pe_ix ix_seq (pv 0) pe_int (fun _ _ => rfl))) (blkOk_by (own := [("room", 6)]) (N := N_names_after) (sc := defScope s_names_after) (by decide +kernel)) (fun _ _ _ _ _ => (pg_name (i := 6) sc.nd rfl (by first | exact Or.inl rfl | exact Or.inr rfl))) (fun _ _ _ _ _ => pts_nil) (fun _ _ _ _ _ => (pv 6)) (fun _ _ _ _ _ => (pe_dget2 (hu_of hr) (pv 2) (pv 6) (pv 6) ⟨rfl, rfl, rfl, rfl⟩)))
 (pss_cons (ps_if (pt_cmpR op_ltU (pe_lenSet' rfl T.f_len T.f_set (pe_listVw rfl T.f_list (pv 5))) (pe_callB (r := rLenDK) cr_lenDK rfl T.f_len b_len (pa_cons (pv 5) pa_nil)) (nomark _)) (pss_one (ps_raiseON X_BadStep hr (by decide) rfl tk (pa_cons pe_str pa_nil))) pss_nil)
 (pss_cons (ps_for pa rfl (pi_seqU (pe_gref T.g_SIDES)) (pg_name (i := 7) sc.nd rfl (by first | exact Or.inl rfl | exact Or.inr rfl)) (pss_one (ps_dput (hu_of hr) (pv 5) (pv 7) (pv 7) rfl)))
 (pss_one (ps_ret (pv 5)))))))
def t_renamed_scheme (K : PySem.W.Frag) (Ex : XK) : TS := (tSeq (tAsg (tCallS (sp_names_after K) (fun _ => Ex) (tCons (tVar 0) (tCons (tVar 1) tNil))) (gName 2))
 (tSeq (tAsg (tCB (rTupU K) (tCons (tLc (iSeqU K (tOp (rIx K) (tVar 0) (tC (.int 0)))) (gName 4) tYes (tDGet (tVar 2) (tVar 4)) [4]) tNil)) (gName 3))
 (tRet (tCall (sp_make_scheme K) [] E0 (tCons (tVar 3) (tCons (tCB (rTupU K) (tCons (tLc (iSeqU K (tOp (rIx K) (tVar 0) (tC (.int 1)))) (gTup K 2 (gCons (gName 5) (gCons (gName 6) gNil))) tYes (tTup (tCons (tDGet (tVar 2) (tVar 5)) (tCons (tDGet (tVar 2) (tVar 6)) tNil))) [5, 6]) tNil)) tNil))))))
theorem dv_renamed_scheme (T : Txt K mg) (O_names_after : Okd P w K mg base (L2N.CX P w) 3 "names_after" ["scheme", "pairs"] (sp_names_after K)) (O_make_scheme : Okd P w K mg base CX0 2 "make_scheme" ["rooms", "touches"] (sp_make_scheme K)) {f : Addr} (cdv : Value) (A : Around) (outer : List PySem.Env) (s : Shared) (H : Hp) (E : XK) (hr : Room 3 (A.deeper (envOfC "renamed_scheme" (defScope s_renamed_scheme) s.heap.objs.size f cdv))) :
    PSs (cxOf (L2N.CX P w) P w K mg base N_renamed_scheme "renamed_scheme" (defScope s_renamed_scheme) f cdv A outer s H E) (defBody s_renamed_scheme) (t_renamed_scheme K E) := by
  have sc := sc_renamed_scheme
  have tk : L2N.Takes (cxOf (L2N.CX P w) P w K mg base N_renamed_scheme "renamed_scheme" (defScope s_renamed_scheme) f cdv A outer s H E) (fun cls d _ H => E cls d H) := L2N.takes_of rfl rfl rfl rfl
  exact (pss_cons (ps_set (i := 2) sc.nd rfl (by first | exact Or.inl rfl | exact Or.inr rfl) (by exact (pe_callDSN O_names_after hr (by decide) tk (pa_cons (pv 0) (pa_cons (pv 1) pa_nil)))))
 (pss_cons (ps_set (i := 3) sc.nd rfl (by first | exact Or.inl rfl | exact Or.inr rfl) (pe_callTy (r := rTupU _) call_tupleU rfl T.f_tuple b_tuple (pa_cons (pe_lc (own := [("room", 4)]) (g := (gName 4)) (tt := tYes) rfl sc.nd (pi_seqU (pe_ix ix_seq (pv 0) pe_int (fun _ _ => rfl))) (blkOk_by (own := [("room", 4)]) (N := N_renamed_scheme) (sc := defScope s_renamed_scheme) (by decide +kernel)) (fun _ _ _ _ _ => (pg_name (i := 4) sc.nd rfl (by first | exact Or.inl rfl | exact Or.inr rfl))) (fun _ _ _ _ _ => pts_nil) (fun _ _ _ _ _ => (pe_dget (hu_of hr) (pv 2) (pv 4) (fun _ _ => rfl)))) pa_nil)))
 (pss_one (ps_ret (pe_callD O_make_scheme hr (by decide) (pa_cons (pv 3) (pa_cons (pe_callTy (r := rTupU _) call_tupleU rfl T.f_tuple b_tuple (pa_cons (pe_lc (own := [("one", 5), ("other", 6)]) (g := (gTup K 2 (gCons (gName 5) (gCons (gName 6) gNil)))) (tt := tYes) rfl sc.nd (pi_seqU (pe_ix ix_seq (pv 0) pe_int (fun _ _ => rfl))) (blkOk_by (own := [("one", 5), ("other", 6)]) (N := N_renamed_scheme) (sc := defScope s_renamed_scheme) (by decide +kernel)) (fun _ _ _ _ _ => (pg_tup rfl (pgs_cons (pg_name (i := 5) sc.nd rfl (by first | exact Or.inl rfl | exact Or.inr rfl)) (pgs_cons (pg_name (i := 6) sc.nd rfl (by first | exact Or.inl rfl | exact Or.inr rfl)) pgs_nil)))) (fun _ _ _ _ _ => pts_nil) (fun _ _ _ _ _ => (pe_tup (pa_cons (pe_dget (hu_of hr) (pv 2) (pv 5) (fun _ _ => rfl)) (pa_cons (pe_dget (hu_of hr) (pv 2) (pv 6) (fun _ _ => rfl)) pa_nil))))) pa_nil)) pa_nil)))))))
def t_direction_number (K : PySem.W.Frag) : TS := (tRet (tM1 rSIx (tC (.str "ENWS")) (tVar 0)))
theorem dv_direction_number (T : Txt K mg)  {f : Addr} (cdv : Value) (A : Around) (outer : List PySem.Env) (s : Shared) (H : Hp) (E : XK) (hr : Room 0 (A.deeper (envOfC "direction_number" (defScope s_direction_number) s.heap.objs.size f cdv))) :
    PSs (cxOf CX0 P w K mg base N_direction_number "direction_number" (defScope s_direction_number) f cdv A outer s H E) (defBody s_direction_number) (t_direction_number K) := by
  have sc := sc_direction_number
  exact (pss_one (ps_ret (pe_sindex (pe_gstr T.c_DIRECTIONS) (pv 0))))
def t_direction_by (K : PySem.W.Frag) : TS := (tRet (tOp (rIx K) (tC (.str "ENWS")) (tOp rModU (tVar 0) (tC (.int 4)))))
theorem dv_direction_by (T : Txt K mg)  {f : Addr} (cdv : Value) (A : Around) (outer : List PySem.Env) (s : Shared) (H : Hp) (E : XK) (hr : Room 0 (A.deeper (envOfC "direction_by" (defScope s_direction_by) s.heap.objs.size f cdv))) :
    PSs (cxOf CX0 P w K mg base N_direction_by "direction_by" (defScope s_direction_by) f cdv A outer s H E) (defBody s_direction_by) (t_direction_by K) := by
  have sc := sc_direction_by
  exact (pss_one (ps_ret (pe_ix ix_seq (pe_gstr T.c_DIRECTIONS) (pe_op op_mod (pv 0) pe_int) (fun _ _ => rfl))))
def t_turned_direction (K : PySem.W.Frag) : TS := (tRet (tCall (sp_direction_by K) [] E0 (tCons (tOp (rAddU K) (tCall (sp_direction_number K) [] E0 (tCons (tVar 0) tNil)) (tVar 1)) tNil)))
theorem dv_turned_direction (T : Txt K mg) (O_direction_by : Okd P w K mg base CX0 1 "direction_by" ["number"] (sp_direction_by K)) (O_direction_number : Okd P w K mg base CX0 1 "direction_number" ["direction"] (sp_direction_number K)) {f : Addr} (cdv : Value) (A : Around) (outer : List PySem.Env) (s : Shared) (H : Hp) (E : XK) (hr : Room 1 (A.deeper (envOfC "turned_direction" (defScope s_turned_direction) s.heap.objs.size f cdv))) :
    PSs (cxOf CX0 P w K mg base N_turned_direction "turned_direction" (defScope s_turned_direction) f cdv A outer s H E) (defBody s_turned_direction) (t_turned_direction K) := by
  have sc := sc_turned_direction
  exact (pss_one (ps_ret (pe_callD O_direction_by hr (by decide) (pa_cons (pe_op op_addU (pe_callD O_direction_number hr (by decide) (pa_cons (pv 0) pa_nil)) (pv 1)) pa_nil))))
def t_mirrored_direction (K : PySem.W.Frag) : TS := (tRet (tCall (sp_direction_by K) [] E0 (tCons (tOp rSubU (tC (.int 2)) (tCall (sp_direction_number K) [] E0 (tCons (tVar 0) tNil))) tNil)))
theorem dv_mirrored_direction (T : Txt K mg) (O_direction_by : Okd P w K mg base CX0 1 "direction_by" ["number"] (sp_direction_by K)) (O_direction_number : Okd P w K mg base CX0 1 "direction_number" ["direction"] (sp_direction_number K)) {f : Addr} (cdv : Value) (A : Around) (outer : List PySem.Env) (s : Shared) (H : Hp) (E : XK) (hr : Room 1 (A.deeper (envOfC "mirrored_direction" (defScope s_mirrored_direction) s.heap.objs.size f cdv))) :
    PSs (cxOf CX0 P w K mg base N_mirrored_direction "mirrored_direction" (defScope s_mirrored_direction) f cdv A outer s H E) (defBody s_mirrored_direction) (t_mirrored_direction K) := by
  have sc := sc_mirrored_direction
  exact (pss_one (ps_ret (pe_callD O_direction_by hr (by decide) (pa_cons (pe_op op_sub pe_int (pe_callD O_direction_number hr (by decide) (pa_cons (pv 0) pa_nil))) pa_nil))))
def t_sides_changed (K : PySem.W.Frag) : TS := (tRet (tCall (sp_make_scheme K) [] E0 (tCons (tOp (rIx K) (tVar 0) (tC (.int 0))) (tCons (tCB (rTupU K) (tCons (tLc (iSeqU K (tOp (rIx K) (tVar 0) (tC (.int 1)))) (gTup K 2 (gCons (gName 2) (gCons (gName 3) gNil))) tYes (tTup (tCons (tDGet2 (tVar 1) (tVar 2) (tVar 2)) (tCons (tVar 3) tNil))) [2, 3]) tNil)) tNil))))
theorem dv_sides_changed (T : Txt K mg) (O_make_scheme : Okd P w K mg base CX0 2 "make_scheme" ["rooms", "touches"] (sp_make_scheme K)) {f : Addr} (cdv : Value) (A : Around) (outer : List PySem.Env) (s : Shared) (H : Hp) (E : XK) (hr : Room 2 (A.deeper (envOfC "sides_changed" (defScope s_sides_changed) s.heap.objs.size f cdv))) :
    PSs (cxOf CX0 P w K mg base N_sides_changed "sides_changed" (defScope s_sides_changed) f cdv A outer s H E) (defBody s_sides_changed) (t_sides_changed K) := by
  have sc := sc_sides_changed
  exact (pss_one (ps_ret (pe_callD O_make_scheme hr (by decide) (pa_cons (pe_ix ix_seq (pv 0) pe_int (fun _ _ => rfl)) (pa_cons (pe_callTy (r := rTupU _) call_tupleU rfl T.f_tuple b_tuple (pa_cons (pe_lc (own := [("one", 2), ("other", 3)]) (g := (gTup K 2 (gCons (gName 2) (gCons (gName 3) gNil)))) (tt := tYes) rfl sc.nd (pi_seqU (pe_ix ix_seq (pv 0) pe_int (fun _ _ => rfl))) (blkOk_by (own := [("one", 2), ("other", 3)]) (N := N_sides_changed) (sc := defScope s_sides_changed) (by decide +kernel)) (fun _ _ _ _ _ => (pg_tup rfl (pgs_cons (pg_name (i := 2) sc.nd rfl (by first | exact Or.inl rfl | exact Or.inr rfl)) (pgs_cons (pg_name (i := 3) sc.nd rfl (by first | exact Or.inl rfl | exact Or.inr rfl)) pgs_nil)))) (fun _ _ _ _ _ => pts_nil) (fun _ _ _ _ _ => (pe_tup (pa_cons (pe_dget2 (hu_of hr) (pv 1) (pv 2) (pv 2) ⟨rfl, rfl, rfl, rfl⟩) (pa_cons (pv 3) pa_nil))))) pa_nil)) pa_nil)))))
def t_turned_scheme (K : PySem.W.Frag) : TS := (tRet (tCall (sp_sides_changed K) [] E0 (tCons (tVar 0) (tCons (tDc (iSeqU K (tC (.ref (He.ga K "SIDES")))) (gName 2) tYes (tVar 2) (tCall (sp_turned_direction K) [] E0 (tCons (tVar 2) (tCons (tVar 1) tNil))) [2]) tNil))))
theorem dv_turned_scheme (T : Txt K mg) (O_sides_changed : Okd P w K mg base CX0 3 "sides_changed" ["scheme", "sides"] (sp_sides_changed K)) (O_turned_direction : Okd P w K mg base CX0 2 "turned_direction" ["direction", "n"] (sp_turned_direction K)) {f : Addr} (cdv : Value) (A : Around) (outer : List PySem.Env) (s : Shared) (H : Hp) (E : XK) (hr : Room 3 (A.deeper (envOfC "turned_scheme" (defScope s_turned_scheme) s.heap.objs.size f cdv))) :
    PSs (cxOf CX0 P w K mg base N_turned_scheme "turned_scheme" (defScope s_turned_scheme) f cdv A outer s H E) (defBody s_turned_scheme) (t_turned_scheme K) := by
  have sc := sc_turned_scheme
  exact (pss_one (ps_ret (pe_callD O_sides_changed hr (by decide) (pa_cons (pv 0) (pa_cons (pe_dc (own := [("side", 2)]) (g := (gName 2)) (tt := tYes) rfl sc.nd (pi_seqU (pe_gref T.g_SIDES)) (blkOk_by (own := [("side", 2)]) (N := N_turned_scheme) (sc := defScope s_turned_scheme) (by decide +kernel)) (fun _ _ _ _ _ => (pg_name (i := 2) sc.nd rfl (by first | exact Or.inl rfl | exact Or.inr rfl))) (fun _ _ _ _ _ => pts_nil) (fun _ _ _ _ _ => (pv 2)) (fun _ _ _ _ _ => (pe_callD O_turned_direction hr (by decide) (pa_cons (pv 2) (pa_cons (pv 1) pa_nil))))) pa_nil)))))
def t_mirrored_scheme (K : PySem.W.Frag) : TS := (tRet (tCall (sp_sides_changed K) [] E0 (tCons (tVar 0) (tCons (tDc (iSeqU K (tC (.ref (He.ga K "SIDES")))) (gName 1) tYes (tVar 1) (tCall (sp_mirrored_direction K) [] E0 (tCons (tVar 1) tNil)) [1]) tNil))))
theorem dv_mirrored_scheme (T : Txt K mg) (O_sides_changed : Okd P w K mg base CX0 3 "sides_changed" ["scheme", "sides"] (sp_sides_changed K)) (O_mirrored_direction : Okd P w K mg base CX0 2 "mirrored_direction" ["direction"] (sp_mirrored_direction K)) {f : Addr} (cdv : Value) (A : Around) (outer : List PySem.Env) (s : Shared) (H : Hp) (E : XK) (hr : Room 3 (A.deeper (envOfC "mirrored_scheme" (defScope s_mirrored_scheme) s.heap.objs.size f cdv))) :
    PSs (cxOf CX0 P w K mg base N_mirrored_scheme "mirrored_scheme" (defScope s_mirrored_scheme) f cdv A outer s H E) (defBody s_mirrored_scheme) (t_mirrored_scheme K) := by
  have sc := sc_mirrored_scheme
  exact (pss_one (ps_ret (pe_callD O_sides_changed hr (by decide) (pa_cons (pv 0) (pa_cons (pe_dc (own := [("side", 1)]) (g := (gName 1)) (tt := tYes) rfl sc.nd (pi_seqU (pe_gref T.g_SIDES)) (blkOk_by (own := [("side", 1)]) (N := N_mirrored_scheme) (sc := defScope s_mirrored_scheme) (by decide +kernel)) (fun _ _ _ _ _ => (pg_name (i := 1) sc.nd rfl (by first | exact Or.inl rfl | exact Or.inr rfl))) (fun _ _ _ _ _ => pts_nil) (fun _ _ _ _ _ => (pv 1)) (fun _ _ _ _ _ => (pe_callD O_mirrored_direction hr (by decide) (pa_cons (pv 1) pa_nil)))) pa_nil)))))
def t_u_law_pool (K : PySem.W.Frag) : TS := (tSeq (tAsg (tLc (iSeqU K (tSl (rSlU K) (tVar 0) tNoPart (tPart (tC (.int 63))))) (gName 3) tYes (tIf (tTest (tOp rGeU (tVar 3) (tC (.int 0)))) (tVar 3) (tUn (rU fun i => .int (-i)) (tVar 3))) [3]) (gName 2))
 (tSeq (tIfS (tTest (tOp (rEqU K) (tCB (rLen K) (tCons (tVar 2) tNil)) (tC (.int 0)))) (tAsg (tLst (tCons (tC (.int 83)) tNil)) (gName 2)) tNext)
 (tSeq (tAsg (tLc (iSeqU K (tVar 2)) (gName 3) tYes (tIf (tTest (tOp rGeU (tVar 3) (tOp rPowU (tC (.int 10)) (tC (.int 18))))) (tVar 3) (tC (.int 0))) [3]) (gName 4))
 (tSeq (tAsg (tLst tNil) (gName 5))
 (tSeq (tFor (iRng1 (tCons (tVar 1) tNil)) (gName 6) (tSeq (tAsg (tOp rModU (tVar 6) (tCB (rLen K) (tCons (tVar 2) tNil))) (gName 7))
 (tIfS (tTest (tOp rGtU (tOp (rIx K) (tVar 4) (tVar 7)) (tC (.int 0)))) (tSeq (tDrop (tBM K "list" rAppend (tVar 5) (tCons (tOp rModU (tCB rIntU (tCons (tOp (rIx K) (tVar 4) (tVar 7)) tNil)) (tC (.int 9973))) tNil)))
 (tAsg (tOp rDivU (tOp (rIx K) (tVar 4) (tVar 7)) (tC (.int 9973))) (gSub (tVar 4) (tVar 7) rSetL))) (tSeq (tAsg (tOp rModU (tCB rIntU (tCons (tOp (rAddU K) (tOp (rAddU K) (tOp rMulU (tOp (rIx K) (tVar 2) (tVar 7)) (tC (.int 44497))) (tOp rMulU (tVar 6) (tC (.int 75011)))) (tC (.int 619))) tNil)) (tC (.int 2147483647))) (gName 8))
 (tDrop (tBM K "list" rAppend (tVar 5) (tCons (tOp rDivU (tOp rModU (tCB rIntU (tCons (tOp (rAddU K) (tOp rMulU (tVar 8) (tC (.int 23209))) (tOp rMulU (tVar 6) (tC (.int 37)))) tNil)) (tC (.int 2147483647))) (tC (.int 3))) tNil)))))))
 (tRet (tVar 5)))))))
theorem dv_u_law_pool (T : Txt K mg)  {f : Addr} (cdv : Value) (A : Around) (outer : List PySem.Env) (s : Shared) (H : Hp) (E : XK) (hr : Room 0 (A.deeper (envOfC "_law_pool" (defScope s_u_law_pool) s.heap.objs.size f cdv))) :
    PSs (cxOf CX0 P w K mg base N_u_law_pool "_law_pool" (defScope s_u_law_pool) f cdv A outer s H E) (defBody s_u_law_pool) (t_u_law_pool K) := by
  have sc := sc_u_law_pool
  have pa : PassesOwn (model P w) (cxOf CX0 P w K mg base N_u_law_pool "_law_pool" (defScope s_u_law_pool) f cdv A outer s H E).A (cxOf CX0 P w K mg base N_u_law_pool "_law_pool" (defScope s_u_law_pool) f cdv A outer s H E).env (cxOf CX0 P w K mg base N_u_law_pool "_law_pool" (defScope s_u_law_pool) f cdv A outer s H E).xe := passes_of rfl
  exact (pss_cons (ps_setLc (i := 2) (own := [("cell", 3)]) (g := (gName 3)) (tt := tYes) rfl sc.nd rfl rfl (sw_true rfl rfl rfl (by decide +kernel)) (pi_seqU (pe_slice sl_U (pv 0) po_none (po_some pe_int))) (blkOk_by (own := [("cell", 3)]) (N := N_u_law_pool) (sc := defScope s_u_law_pool) (by decide +kernel)) (fun _ _ _ _ _ => (pg_name (i := 3) sc.nd rfl (by first | exact Or.inl rfl | exact Or.inr rfl))) (fun _ _ _ _ _ => pts_nil) (fun _ _ _ _ _ => (pe_ifExp (pt_cmpR op_geU (pv 3) pe_int (nomark _)) (pv 3) (pe_un un_neg (pv 3)))))
 (pss_cons (ps_if (pt_cmpR (op_eqU hr.units) (pe_callB (r := rLen _) call_len rfl T.f_len b_len (pa_cons (pv 2) pa_nil)) pe_int (nomark _)) (pss_one (ps_set (i := 2) sc.nd rfl (by first | exact Or.inl rfl | exact Or.inr rfl) (pe_lst (pa_cons pe_int pa_nil)))) pss_nil)
 (pss_cons (ps_setLc (i := 4) (own := [("cell", 3)]) (g := (gName 3)) (tt := tYes) rfl sc.nd rfl rfl (sw_true rfl rfl rfl (by decide +kernel)) (pi_seqU (pv 2)) (blkOk_by (own := [("cell", 3)]) (N := N_u_law_pool) (sc := defScope s_u_law_pool) (by decide +kernel)) (fun _ _ _ _ _ => (pg_name (i := 3) sc.nd rfl (by first | exact Or.inl rfl | exact Or.inr rfl))) (fun _ _ _ _ _ => pts_nil) (fun _ _ _ _ _ => (pe_ifExp (pt_cmpR op_geU (pv 3) (pe_op op_pow pe_int pe_int) (nomark _)) (pv 3) pe_int)))
 (pss_cons (ps_set (i := 5) sc.nd rfl (by first | exact Or.inl rfl | exact Or.inr rfl) (pe_lst pa_nil))
 (pss_cons (ps_for pa rfl (pi_range1 rfl T.f_range (pa_cons (pv 1) pa_nil)) (pg_name (i := 6) sc.nd rfl (by first | exact Or.inl rfl | exact Or.inr rfl)) (pss_cons (ps_set (i := 7) sc.nd rfl (by first | exact Or.inl rfl | exact Or.inr rfl) (pe_op op_mod (pv 6) (pe_callB (r := rLen _) call_len rfl T.f_len b_len (pa_cons (pv 2) pa_nil))))
 (pss_one (ps_if (pt_cmpR op_gtU (pe_ix ix_seq (pv 4) (pv 7) (fun _ _ => rfl)) pe_int (nomark _)) (pss_cons (ps_expr (pe_bm PySem.F.plainAttrs_list PySem.F.slot_list_append PySem.F.type_list_append mt_append (pv 5) (pa_cons (pe_op op_mod (pe_callTy (r := rIntU) call_int1 rfl T.f_int b_int (pa_cons (pe_ix ix_seq (pv 4) (pv 7) (fun _ _ => rfl)) pa_nil)) pe_int) pa_nil)))
 (pss_one (ps_asg (pe_op op_fdiv (pe_ix ix_seq (pv 4) (pv 7) (fun _ _ => rfl)) pe_int) (pg_sub (pv 4) (pv 7) set_list)))) (pss_cons (ps_set (i := 8) sc.nd rfl (by first | exact Or.inl rfl | exact Or.inr rfl) (pe_op op_mod (pe_callTy (r := rIntU) call_int1 rfl T.f_int b_int (pa_cons (pe_op op_addU (pe_op op_addU (pe_op op_mulU (pe_ix ix_seq (pv 2) (pv 7) (fun _ _ => rfl)) pe_int) (pe_op op_mulU (pv 6) pe_int)) pe_int) pa_nil)) pe_int))
 (pss_one (ps_expr (pe_bm PySem.F.plainAttrs_list PySem.F.slot_list_append PySem.F.type_list_append mt_append (pv 5) (pa_cons (pe_op op_fdiv (pe_op op_mod (pe_callTy (r := rIntU) call_int1 rfl T.f_int b_int (pa_cons (pe_op op_addU (pe_op op_mulU (pv 8) pe_int) (pe_op op_mulU (pv 6) pe_int)) pa_nil)) pe_int) pe_int) pa_nil)))))))))
 (pss_one (ps_ret (pv 5))))))))
def t_u_law_names (K : PySem.W.Frag) : TS := (tSeq (tAsg (tLst tNil) (gName 4))
 (tSeq (tFor (iRng1 (tCons (tVar 2) tNil)) (gName 5) (tSeq (tAsg (tOp (rIx K) (tVar 0) (tOp (rAddU K) (tVar 1) (tVar 5))) (gName 6))
 (tSeq (tAsg (tOp (rIx K) (tC (.str "abcdefghijklmnoprstuvwy")) (tOp rModU (tVar 6) (tC (.int 23)))) (gName 7))
 (tSeq (tAsg (tOp rDivU (tVar 6) (tC (.int 23))) (gName 6))
 (tSeq (tIfS (tAnd (tTest (tOp (rEqU K) (tOp rModU (tVar 6) (tC (.int 5))) (tC (.int 0)))) (tTest (tOp rGtU (tVar 5) (tC (.int 0))))) (tAsg (tOp (rIx K) (tVar 4) (tOp rSubU (tVar 5) (tC (.int 1)))) (gName 7)) tNext)
 (tSeq (tFor (iRng1 (tCons (tOp rModU (tOp rDivU (tVar 6) (tC (.int 5))) (tC (.int 4))) tNil)) (gName 8) (tAsg (tOp (rAddU K) (tVar 7) (tOp (rIx K) (tC (.str "0xbz9enw")) (tOp rModU (tOp (rAddU K) (tOp rDivU (tVar 6) (tC (.int 20))) (tOp rMulU (tC (.int 3)) (tVar 8))) (tC (.int 8))))) (gName 7)))
 (tSeq (tIfS (tOr (tTest (tOp rGtU (tCB (rLen K) (tCons (tVar 7) tNil)) (tC (.int 8)))) (tTest (tOp (rInU K) (tVar 7) (tVar 4)))) (tAsg (tOp (rAddU K) (tVar 3) (tCB rStrI (tCons (tOp (rAddU K) (tC (.int 1000)) (tVar 5)) tNil))) (gName 7)) tNext)
 (tDrop (tBM K "list" rAppend (tVar 4) (tCons (tVar 7) tNil))))))))))
 (tRet (tVar 4))))
theorem dv_u_law_names (T : Txt K mg)  {f : Addr} (cdv : Value) (A : Around) (outer : List PySem.Env) (s : Shared) (H : Hp) (E : XK) (hr : Room 0 (A.deeper (envOfC "_law_names" (defScope s_u_law_names) s.heap.objs.size f cdv))) :
    PSs (cxOf CX0 P w K mg base N_u_law_names "_law_names" (defScope s_u_law_names) f cdv A outer s H E) (defBody s_u_law_names) (t_u_law_names K) := by
  have sc := sc_u_law_names
  have pa : PassesOwn (model P w) (cxOf CX0 P w K mg base N_u_law_names "_law_names" (defScope s_u_law_names) f cdv A outer s H E).A (cxOf CX0 P w K mg base N_u_law_names "_law_names" (defScope s_u_law_names) f cdv A outer s H E).env (cxOf CX0 P w K mg base N_u_law_names "_law_names" (defScope s_u_law_names) f cdv A outer s H E).xe := passes_of rfl
  exact (pss_cons (ps_set (i := 4) sc.nd rfl (by first | exact Or.inl rfl | exact Or.inr rfl) (pe_lst pa_nil))
 (pss_cons (ps_for pa rfl (pi_range1 rfl T.f_range (pa_cons (pv 2) pa_nil)) (pg_name (i := 5) sc.nd rfl (by first | exact Or.inl rfl | exact Or.inr rfl)) (pss_cons (ps_set (i := 6) sc.nd rfl (by first | exact Or.inl rfl | exact Or.inr rfl) (pe_ix ix_seq (pv 0) (pe_op op_addU (pv 1) (pv 5)) (fun _ _ => rfl)))
 (pss_cons (ps_set (i := 7) sc.nd rfl (by first | exact Or.inl rfl | exact Or.inr rfl) (pe_ix ix_seq pe_str (pe_op op_mod (pv 6) pe_int) (fun _ _ => rfl)))
 (pss_cons (ps_set (i := 6) sc.nd rfl (by first | exact Or.inl rfl | exact Or.inr rfl) (pe_op op_fdiv (pv 6) pe_int))
 (pss_cons (ps_if (PW.pt (pw_and (pt_cmpR (op_eqU hr.units) (pe_op op_mod (pv 6) pe_int) pe_int (nomark _)) (pw_and1 (pt_cmpR op_gtU (pv 5) pe_int (nomark _))))) (pss_one (ps_set (i := 7) sc.nd rfl (by first | exact Or.inl rfl | exact Or.inr rfl) (pe_ix ix_seq (pv 4) (pe_op op_sub (pv 5) pe_int) (fun _ _ => rfl)))) pss_nil)
 (pss_cons (ps_for pa rfl (pi_range1 rfl T.f_range (pa_cons (pe_op op_mod (pe_op op_fdiv (pv 6) pe_int) pe_int) pa_nil)) (pg_name (i := 8) sc.nd rfl (by first | exact Or.inl rfl | exact Or.inr rfl)) (pss_one (ps_set (i := 7) sc.nd rfl (by first | exact Or.inl rfl | exact Or.inr rfl) (pe_op op_addU (pv 7) (pe_ix ix_seq pe_str (pe_op op_mod (pe_op op_addU (pe_op op_fdiv (pv 6) pe_int) (pe_op op_mulU pe_int (pv 8))) pe_int) (fun _ _ => rfl))))))
 (pss_cons (ps_if (PW.pt (pw_or (pt_cmpR op_gtU (pe_callB (r := rLen _) call_len rfl T.f_len b_len (pa_cons (pv 7) pa_nil)) pe_int (nomark _)) (pw_or1 (pt_cmpR op_inU (pv 7) (pv 4) rfl)))) (pss_one (ps_set (i := 7) sc.nd rfl (by first | exact Or.inl rfl | exact Or.inr rfl) (pe_op op_addU (pv 3) (pe_callTy (r := rStrI) call_strI rfl T.f_str b_str (pa_cons (pe_op op_addU pe_int (pv 5)) pa_nil))))) pss_nil)
 (pss_one (ps_expr (pe_bm PySem.F.plainAttrs_list PySem.F.slot_list_append PySem.F.type_list_append mt_append (pv 4) (pa_cons (pv 7) pa_nil)))))))))))
 (pss_one (ps_ret (pv 4)))))
def t_u_law_scheme (K : PySem.W.Frag) : TS := (tSeq (tAsg tDNewT (gName 2))
 (tSeq (tFor (iSeqU K (tVar 1)) (gTup K 2 (gCons (gName 3) (gCons (gName 4) gNil))) (tIfS (tTest (tOp (rNeU K) (tVar 3) (tVar 4))) (sDPut (tVar 2) (tIf (tTest (tOp rLtU (tVar 3) (tVar 4))) (tTup (tCons (tVar 3) (tCons (tVar 4) tNil))) (tTup (tCons (tVar 4) (tCons (tVar 3) tNil)))) (tC (.bl true))) tNext))
 (tRet (tTup (tCons (tCB (rTupU K) (tCons (tCB (rSortedS K) (tCons (tVar 0) tNil)) tNil)) (tCons (tCB (rTupU K) (tCons (tCB (rSortDT K) (tCons (tVar 2) tNil)) tNil)) tNil))))))
theorem dv_u_law_scheme (T : Txt K mg)  {f : Addr} (cdv : Value) (A : Around) (outer : List PySem.Env) (s : Shared) (H : Hp) (E : XK) (hr : Room 0 (A.deeper (envOfC "_law_scheme" (defScope s_u_law_scheme) s.heap.objs.size f cdv))) :
    PSs (cxOf CX0 P w K mg base N_u_law_scheme "_law_scheme" (defScope s_u_law_scheme) f cdv A outer s H E) (defBody s_u_law_scheme) (t_u_law_scheme K) := by
  have sc := sc_u_law_scheme
  have pa : PassesOwn (model P w) (cxOf CX0 P w K mg base N_u_law_scheme "_law_scheme" (defScope s_u_law_scheme) f cdv A outer s H E).A (cxOf CX0 P w K mg base N_u_law_scheme "_law_scheme" (defScope s_u_law_scheme) f cdv A outer s H E).env (cxOf CX0 P w K mg base N_u_law_scheme "_law_scheme" (defScope s_u_law_scheme) f cdv A outer s H E).xe := passes_of rfl
  exact (pss_cons (ps_set (i := 2) sc.nd rfl (by first | exact Or.inl rfl | exact Or.inr rfl) pe_dnewT)
 (pss_cons (ps_for pa rfl (pi_seqU (pv 1)) (pg_tup rfl (pgs_cons (pg_name (i := 3) sc.nd rfl (by first | exact Or.inl rfl | exact Or.inr rfl)) (pgs_cons (pg_name (i := 4) sc.nd rfl (by first | exact Or.inl rfl | exact Or.inr rfl)) pgs_nil))) (pss_one (ps_if (pt_cmpR (op_neU hr.units) (pv 3) (pv 4) (nomark _)) (pss_one (ps_dput (hu_of hr) (pv 2) (pe_ifExp (pt_cmpR op_ltU (pv 3) (pv 4) (nomark _)) (pe_tup (pa_cons (pv 3) (pa_cons (pv 4) pa_nil))) (pe_tup (pa_cons (pv 4) (pa_cons (pv 3) pa_nil)))) pe_bl rfl)) pss_nil)))
 (pss_one (ps_ret (pe_tup (pa_cons (pe_callTy (r := rTupU _) call_tupleU rfl T.f_tuple b_tuple (pa_cons (pe_callB (r := rSortedS _) cr_sortedS rfl T.f_sorted b_sorted (pa_cons (pv 0) pa_nil)) pa_nil)) (pa_cons (pe_callTy (r := rTupU _) call_tupleU rfl T.f_tuple b_tuple (pa_cons (pe_callB (r := rSortDT _) (call_sortedDT rfl) rfl T.f_sorted b_sorted (pa_cons (pv 2) pa_nil)) pa_nil)) pa_nil)))))))
def t_u_law_drawn (K : PySem.W.Frag) : TS := (tSeq (tAsg (tLst tNil) (gName 4))
 (tSeq (tAsg (tOp (rAddU K) (tVar 0) (tLst (tCons (tC (.str "E")) (tCons (tC (.str "N")) (tCons (tC (.str "W")) (tCons (tC (.str "S")) tNil)))))) (gName 5))
 (tSeq (tFor (iRng1 (tCons (tVar 3) tNil)) (gName 6) (tDrop (tBM K "list" rAppend (tVar 4) (tCons (tTup (tCons (tOp (rIx K) (tVar 0) (tOp rModU (tOp (rIx K) (tVar 1) (tOp (rAddU K) (tVar 2) (tVar 6))) (tCB (rLen K) (tCons (tVar 0) tNil)))) (tCons (tOp (rIx K) (tVar 5) (tOp rModU (tOp rDivU (tOp (rIx K) (tVar 1) (tOp (rAddU K) (tVar 2) (tVar 6))) (tC (.int 41))) (tCB (rLen K) (tCons (tVar 5) tNil)))) tNil))) tNil))))
 (tRet (tCall (sp_u_law_scheme K) [] E0 (tCons (tVar 0) (tCons (tVar 4) tNil)))))))
theorem dv_u_law_drawn (T : Txt K mg) (O_u_law_scheme : Okd P w K mg base CX0 1 "_law_scheme" ["rooms", "touches"] (sp_u_law_scheme K)) {f : Addr} (cdv : Value) (A : Around) (outer : List PySem.Env) (s : Shared) (H : Hp) (E : XK) (hr : Room 1 (A.deeper (envOfC "_law_drawn" (defScope s_u_law_drawn) s.heap.objs.size f cdv))) :
    PSs (cxOf CX0 P w K mg base N_u_law_drawn "_law_drawn" (defScope s_u_law_drawn) f cdv A outer s H E) (defBody s_u_law_drawn) (t_u_law_drawn K) := by
  have sc := sc_u_law_drawn
  have pa : PassesOwn (model P w) (cxOf CX0 P w K mg base N_u_law_drawn "_law_drawn" (defScope s_u_law_drawn) f cdv A outer s H E).A (cxOf CX0 P w K mg base N_u_law_drawn "_law_drawn" (defScope s_u_law_drawn) f cdv A outer s H E).env (cxOf CX0 P w K mg base N_u_law_drawn "_law_drawn" (defScope s_u_law_drawn) f cdv A outer s H E).xe := passes_of rfl
  exact (pss_cons (ps_set (i := 4) sc.nd rfl (by first | exact Or.inl rfl | exact Or.inr rfl) (pe_lst pa_nil))
 (pss_cons (ps_set (i := 5) sc.nd rfl (by first | exact Or.inl rfl | exact Or.inr rfl) (pe_op op_addU (pv 0) (pe_lst (pa_cons pe_str (pa_cons pe_str (pa_cons pe_str (pa_cons pe_str pa_nil)))))))
 (pss_cons (ps_for pa rfl (pi_range1 rfl T.f_range (pa_cons (pv 3) pa_nil)) (pg_name (i := 6) sc.nd rfl (by first | exact Or.inl rfl | exact Or.inr rfl)) (pss_one (ps_expr (pe_bm PySem.F.plainAttrs_list PySem.F.slot_list_append PySem.F.type_list_append mt_append (pv 4) (pa_cons (pe_tup (pa_cons (pe_ix ix_seq (pv 0) (pe_op op_mod (pe_ix ix_seq (pv 1) (pe_op op_addU (pv 2) (pv 6)) (fun _ _ => rfl)) (pe_callB (r := rLen _) call_len rfl T.f_len b_len (pa_cons (pv 0) pa_nil))) (fun _ _ => rfl)) (pa_cons (pe_ix ix_seq (pv 5) (pe_op op_mod (pe_op op_fdiv (pe_ix ix_seq (pv 1) (pe_op op_addU (pv 2) (pv 6)) (fun _ _ => rfl)) pe_int) (pe_callB (r := rLen _) call_len rfl T.f_len b_len (pa_cons (pv 5) pa_nil))) (fun _ _ => rfl)) pa_nil))) pa_nil)))))
 (pss_one (ps_ret (pe_callD O_u_law_scheme hr (by decide) (pa_cons (pv 0) (pa_cons (pv 4) pa_nil))))))))
def t_u_law_mapped (K : PySem.W.Frag) : TS := (tSeq (tAsg (tLc (iSeqU K (tOp (rIx K) (tVar 0) (tC (.int 0)))) (gName 3) tYes (tDGet2 (tVar 1) (tVar 3) (tVar 3)) [3]) (gName 2))
 (tRet (tCall (sp_u_law_scheme K) [] E0 (tCons (tVar 2) (tCons (tLc (iSeqU K (tOp (rIx K) (tVar 0) (tC (.int 1)))) (gTup K 2 (gCons (gName 4) (gCons (gName 5) gNil))) tYes (tTup (tCons (tDGet2 (tVar 1) (tVar 4) (tVar 4)) (tCons (tDGet2 (tVar 1) (tVar 5) (tVar 5)) tNil))) [4, 5]) tNil)))))
theorem dv_u_law_mapped (T : Txt K mg) (O_u_law_scheme : Okd P w K mg base CX0 1 "_law_scheme" ["rooms", "touches"] (sp_u_law_scheme K)) {f : Addr} (cdv : Value) (A : Around) (outer : List PySem.Env) (s : Shared) (H : Hp) (E : XK) (hr : Room 1 (A.deeper (envOfC "_law_mapped" (defScope s_u_law_mapped) s.heap.objs.size f cdv))) :
    PSs (cxOf CX0 P w K mg base N_u_law_mapped "_law_mapped" (defScope s_u_law_mapped) f cdv A outer s H E) (defBody s_u_law_mapped) (t_u_law_mapped K) := by
  have sc := sc_u_law_mapped
  exact (pss_cons (ps_setLc (i := 2) (own := [("room", 3)]) (g := (gName 3)) (tt := tYes) rfl sc.nd rfl rfl (sw_true rfl rfl rfl (by decide +kernel)) (pi_seqU (pe_ix ix_seq (pv 0) pe_int (fun _ _ => rfl))) (blkOk_by (own := [("room", 3)]) (N := N_u_law_mapped) (sc := defScope s_u_law_mapped) (by decide +kernel)) (fun _ _ _ _ _ => (pg_name (i := 3) sc.nd rfl (by first | exact Or.inl rfl | exact Or.inr rfl))) (fun _ _ _ _ _ => pts_nil) (fun _ _ _ _ _ => (pe_dget2 (hu_of hr) (pv 1) (pv 3) (pv 3) ⟨rfl, rfl, rfl, rfl⟩)))
 (pss_one (ps_ret (pe_callD O_u_law_scheme hr (by decide) (pa_cons (pv 2) (pa_cons (pe_lc (own := [("one", 4), ("other", 5)]) (g := (gTup K 2 (gCons (gName 4) (gCons (gName 5) gNil)))) (tt := tYes) rfl sc.nd (pi_seqU (pe_ix ix_seq (pv 0) pe_int (fun _ _ => rfl))) (blkOk_by (own := [("one", 4), ("other", 5)]) (N := N_u_law_mapped) (sc := defScope s_u_law_mapped) (by decide +kernel)) (fun _ _ _ _ _ => (pg_tup rfl (pgs_cons (pg_name (i := 4) sc.nd rfl (by first | exact Or.inl rfl | exact Or.inr rfl)) (pgs_cons (pg_name (i := 5) sc.nd rfl (by first | exact Or.inl rfl | exact Or.inr rfl)) pgs_nil)))) (fun _ _ _ _ _ => pts_nil) (fun _ _ _ _ _ => (pe_tup (pa_cons (pe_dget2 (hu_of hr) (pv 1) (pv 4) (pv 4) ⟨rfl, rfl, rfl, rfl⟩) (pa_cons (pe_dget2 (hu_of hr) (pv 1) (pv 5) (pv 5) ⟨rfl, rfl, rfl, rfl⟩) pa_nil))))) pa_nil))))))
def t_u_law_same (K : PySem.W.Frag) (sp : Sp) : TS := (tSeq (tIfS (tOr (tNot (tTr K (tCB (rIsi K) (tCons (tVar 0) (tCons (tC (.ty "tuple")) tNil))))) (tTest (tOp (rNeU K) (tCB (rLen K) (tCons (tVar 0) tNil)) (tCB (rLen K) (tCons (tVar 1) tNil))))) (tRet (tC (.bl false))) tNext)
 (tSeq (tFor (iRng1 (tCons (tCB (rLen K) (tCons (tVar 1) tNil)) tNil)) (gName 2) (tIfS (tTr K (tCB (rIsi K) (tCons (tOp (rIx K) (tVar 1) (tVar 2)) (tCons (tC (.ty "tuple")) tNil)))) (tIfS (tNot (tTr K (tCall sp [] E0 (tCons (tOp (rIx K) (tVar 0) (tVar 2)) (tCons (tOp (rIx K) (tVar 1) (tVar 2)) tNil))))) (tRet (tC (.bl false))) tNext) (tIfS (tOr (tNot (tTr K (tCB (rIsi K) (tCons (tOp (rIx K) (tVar 0) (tVar 2)) (tCons (tC (.ty "str")) tNil))))) (tTest (tOp (rNeU K) (tOp (rIx K) (tVar 0) (tVar 2)) (tOp (rIx K) (tVar 1) (tVar 2))))) (tRet (tC (.bl false))) tNext)))
 (tRet (tC (.bl true)))))
theorem dv_u_law_same {k : Nat} {sp : Sp} (T : Txt K mg) (O_u_law_same : Okd P w K mg base CX0 k "_law_same" ["told", "due"] sp) {f : Addr} (cdv : Value) (A : Around) (outer : List PySem.Env) (s : Shared) (H : Hp) (E : XK) (hr : Room k (A.deeper (envOfC "_law_same" (defScope s_u_law_same) s.heap.objs.size f cdv))) :
    PSs (cxOf CX0 P w K mg base N_u_law_same "_law_same" (defScope s_u_law_same) f cdv A outer s H E) (defBody s_u_law_same) (t_u_law_same K sp) := by
  have sc := sc_u_law_same
  have pa : PassesOwn (model P w) (cxOf CX0 P w K mg base N_u_law_same "_law_same" (defScope s_u_law_same) f cdv A outer s H E).A (cxOf CX0 P w K mg base N_u_law_same "_law_same" (defScope s_u_law_same) f cdv A outer s H E).env (cxOf CX0 P w K mg base N_u_law_same "_law_same" (defScope s_u_law_same) f cdv A outer s H E).xe := passes_of rfl
  exact (pss_cons (ps_if (PW.pt (pw_or (pt_not (pt_tr (pe_callB (r := rIsi _) call_isi rfl T.f_isinstance b_isinstance (pa_cons (pv 0) (pa_cons (pe_bltn (v := .ty "tuple") rfl T.f_tuple b_tuple rfl) pa_nil))))) (pw_or1 (pt_cmpR (op_neU hr.units) (pe_callB (r := rLen _) call_len rfl T.f_len b_len (pa_cons (pv 0) pa_nil)) (pe_callB (r := rLen _) call_len rfl T.f_len b_len (pa_cons (pv 1) pa_nil)) (nomark _))))) (pss_one (ps_ret pe_bl)) pss_nil)
 (pss_cons (ps_for pa rfl (pi_range1 rfl T.f_range (pa_cons (pe_callB (r := rLen _) call_len rfl T.f_len b_len (pa_cons (pv 1) pa_nil)) pa_nil)) (pg_name (i := 2) sc.nd rfl (by first | exact Or.inl rfl | exact Or.inr rfl)) (pss_one (ps_if (pt_tr (pe_callB (r := rIsi _) call_isi rfl T.f_isinstance b_isinstance (pa_cons (pe_ix ix_seq (pv 1) (pv 2) (fun _ _ => rfl)) (pa_cons (pe_bltn (v := .ty "tuple") rfl T.f_tuple b_tuple rfl) pa_nil)))) (pss_one (ps_if (pt_not (pt_tr (pe_callD O_u_law_same hr (Nat.le_refl _) (pa_cons (pe_ix ix_seq (pv 0) (pv 2) (fun _ _ => rfl)) (pa_cons (pe_ix ix_seq (pv 1) (pv 2) (fun _ _ => rfl)) pa_nil))))) (pss_one (ps_ret pe_bl)) pss_nil)) (pss_one (ps_if (PW.pt (pw_or (pt_not (pt_tr (pe_callB (r := rIsi _) call_isi rfl T.f_isinstance b_isinstance (pa_cons (pe_ix ix_seq (pv 0) (pv 2) (fun _ _ => rfl)) (pa_cons (pe_bltn (v := .ty "str") rfl T.f_str b_str rfl) pa_nil))))) (pw_or1 (pt_cmpR (op_neU hr.units) (pe_ix ix_seq (pv 0) (pv 2) (fun _ _ => rfl)) (pe_ix ix_seq (pv 1) (pv 2) (fun _ _ => rfl)) (nomark _))))) (pss_one (ps_ret pe_bl)) pss_nil)))))
 (pss_one (ps_ret pe_bl))))
def ts_u_law_renamed (K : PySem.W.Frag) (a : Addr) (cls : Value) (d : Option Addr) : TS := (tSeq (tIfS (tOr (tNot (tTr K (tCB (rIsX K cls d a) (tCons (tVar 10) (tCons (tC (.ref (He.ga K "BadStep"))) tNil))))) (tNot (tTr K (tCB (rIsX K cls d a) (tCons (tVar 10) (tCons (tC (.ref (He.ga K "CallError"))) tNil)))))) (tRet (tC (.bl false))) tNext)
 (tSeq (tIfS (tOr (tTr K (tCB (rIsX K cls d a) (tCons (tVar 10) (tCons (tC (.ref (He.ga K "DataError"))) tNil)))) (tTr K (tCB (rIsX K cls d a) (tCons (tVar 10) (tCons (tC (.ref (He.ga K "NoHouse"))) tNil))))) (tRet (tC (.bl false))) tNext)
 (tRet (tAndV (tOp rLtU (tCB rLenDK (tCons (tVar 7) tNil)) (tCB (rLen K) (tCons (tVar 5) tNil))) (tAndV (tCB (rIsi K) (tCons (tXf a cls d (He.ga K "BadStep") "word" (tVar 10)) (tCons (tC (.ty "str")) tNil))) (tOp (rEqU K) (tXf a cls d (He.ga K "BadStep") "word" (tVar 10)) (tC (.str "name"))))))))
def t_u_law_renamed (K : PySem.W.Frag) : TS := (tSeq (tAsg tDNewK (gName 2))
 (tSeq (tFor (iSeqU K (tVar 1)) (gTup K 2 (gCons (gName 3) (gCons (gName 4) gNil))) (sDPut (tVar 2) (tVar 3) (tVar 4)))
 (tSeq (tAsg (tLc (iSeqU K (tOp (rIx K) (tVar 0) (tC (.int 0)))) (gName 6) tYes (tDGet2 (tVar 2) (tVar 6) (tVar 6)) [6]) (gName 5))
 (tSeq (tAsg tDNewK (gName 7))
 (tSeq (tFor (iSeqU K (tVar 5)) (gName 8) (sDPut (tVar 7) (tVar 8) (tC (.bl true))))
 (tSeq (tTryA K (.ref (He.ga K "PlanError")) 10 (ts_u_law_renamed K) (sp_renamed_scheme K) (tCons (tVar 0) (tCons (tCB (rTupU K) (tCons (tVar 1) tNil)) tNil)) 9)
 (tRet (tAndV (tOp (rEqU K) (tCB rLenDK (tCons (tVar 7) tNil)) (tCB (rLen K) (tCons (tVar 5) tNil))) (tCall (sp_u_law_same K) [] E0 (tCons (tVar 9) (tCons (tCall (sp_u_law_mapped K) [] E0 (tCons (tVar 0) (tCons (tVar 2) tNil))) tNil)))))))))))
theorem dv_u_law_renamed (T : Txt K mg) (O_renamed_scheme : Okd P w K mg base (L2N.CX P w) 4 "renamed_scheme" ["scheme", "pairs"] (sp_renamed_scheme K)) (O_u_law_same : Okd P w K mg base CX0 3 "_law_same" ["told", "due"] (sp_u_law_same K)) (O_u_law_mapped : Okd P w K mg base CX0 2 "_law_mapped" ["scheme", "names"] (sp_u_law_mapped K)) (X_BadStep : ExOk P w K mg base 1 "BadStep" ["word"]) {f : Addr} (cdv : Value) (A : Around) (outer : List PySem.Env) (s : Shared) (H : Hp) (E : XK) (hr : Room 4 (A.deeper (envOfC "_law_renamed" (defScope s_u_law_renamed) s.heap.objs.size f cdv))) :
    PSs (cxOf CX0 P w K mg base N_u_law_renamed "_law_renamed" (defScope s_u_law_renamed) f cdv A outer s H E) (defBody s_u_law_renamed) (t_u_law_renamed K) := by
  have sc := sc_u_law_renamed
  have pa : PassesOwn (model P w) (cxOf CX0 P w K mg base N_u_law_renamed "_law_renamed" (defScope s_u_law_renamed) f cdv A outer s H E).A (cxOf CX0 P w K mg base N_u_law_renamed "_law_renamed" (defScope s_u_law_renamed) f cdv A outer s H E).env (cxOf CX0 P w K mg base N_u_law_renamed "_law_renamed" (defScope s_u_law_renamed) f cdv A outer s H E).xe := passes_of rfl
  exact (pss_cons (ps_set (i := 2) sc.nd rfl (by first | exact Or.inl rfl | exact Or.inr rfl) pe_dnewK)
 (pss_cons (ps_for pa rfl (pi_seqU (pv 1)) (pg_tup rfl (pgs_cons (pg_name (i := 3) sc.nd rfl (by first | exact Or.inl rfl | exact Or.inr rfl)) (pgs_cons (pg_name (i := 4) sc.nd rfl (by first | exact Or.inl rfl | exact Or.inr rfl)) pgs_nil))) (pss_one (ps_dput (hu_of hr) (pv 2) (pv 3) (pv 4) rfl)))
 (pss_cons (ps_setLc (i := 5) (own := [("room", 6)]) (g := (gName 6)) (tt := tYes) rfl sc.nd rfl rfl (sw_true rfl rfl rfl (by decide +kernel)) (pi_seqU (pe_ix ix_seq (pv 0) pe_int (fun _ _ => rfl))) (blkOk_by (own := [("room", 6)]) (N := N_u_law_renamed) (sc := defScope s_u_law_renamed) (by decide +kernel)) (fun _ _ _ _ _ => (pg_name (i := 6) sc.nd rfl (by first | exact Or.inl rfl | exact Or.inr rfl))) (fun _ _ _ _ _ => pts_nil) (fun _ _ _ _ _ => (pe_dget2 (hu_of hr) (pv 2) (pv 6) (pv 6) ⟨rfl, rfl, rfl, rfl⟩)))
 (pss_cons (ps_set (i := 7) sc.nd rfl (by first | exact Or.inl rfl | exact Or.inr rfl) pe_dnewK)
 (pss_cons (ps_for pa rfl (pi_seqU (pv 5)) (pg_name (i := 8) sc.nd rfl (by first | exact Or.inl rfl | exact Or.inr rfl)) (pss_one (ps_dput (hu_of hr) (pv 7) (pv 8) pe_bl rfl)))
 (pss_cons (L2N.ps_try_as (i := 10) (tb := fun W => tAsg (tCallS (sp_renamed_scheme K) (WE W) (tCons (tVar 0) (tCons (tCB (rTupU K) (tCons (tVar 1) tNil)) tNil))) (gName 9)) (ts := ts_u_law_renamed K) (Wout := fun _ _ _ _ => False) rfl rfl sc.nd rfl rfl ⟨rfl, by decide, .inl T.g_PlanError⟩ takes0N
 (fun W pn xe tk _ => pss_one (ps_set (i := 9) sc.nd rfl (by first | exact Or.inl rfl | exact Or.inr rfl) (by exact (pe_callDSN O_renamed_scheme hr (by decide) tk (pa_cons (pv 0) (pa_cons (pe_callTy (r := rTupU _) call_tupleU rfl T.f_tuple b_tuple (pa_cons (pv 1) pa_nil)) pa_nil))))))
 (fun a oe cls d pn hz hf => (pss_cons (ps_if (PW.pt (pw_or (pt_not (pt_tr (pe_callB (r := rIsX _ cls d a) (call_isX hz.zc hf) rfl T.f_isinstance b_isinstance (pa_cons (pv 10) (pa_cons (pe_gref T.g_BadStep) pa_nil))))) (pw_or1 (pt_not (pt_tr (pe_callB (r := rIsX _ cls d a) (call_isX hz.zc hf) rfl T.f_isinstance b_isinstance (pa_cons (pv 10) (pa_cons (pe_gref T.g_CallError) pa_nil)))))))) (pss_one (ps_ret pe_bl)) pss_nil)
 (pss_cons (ps_if (PW.pt (pw_or (pt_tr (pe_callB (r := rIsX _ cls d a) (call_isX hz.zc hf) rfl T.f_isinstance b_isinstance (pa_cons (pv 10) (pa_cons (pe_gref T.g_DataError) pa_nil)))) (pw_or1 (pt_tr (pe_callB (r := rIsX _ cls d a) (call_isX hz.zc hf) rfl T.f_isinstance b_isinstance (pa_cons (pv 10) (pa_cons (pe_gref T.g_NoHouse) pa_nil))))))) (pss_one (ps_ret pe_bl)) pss_nil)
 (pss_one (ps_ret (pe_and (pe_cmpR op_ltU (pe_callB (r := rLenDK) cr_lenDK rfl T.f_len b_len (pa_cons (pv 7) pa_nil)) (pe_callB (r := rLen _) call_len rfl T.f_len b_len (pa_cons (pv 5) pa_nil)) (nomark _)) (pe_and (pe_callB (r := rIsi _) call_isi rfl T.f_isinstance b_isinstance (pa_cons (pe_xf X_BadStep.ef.xf T.n_BadStep_word hz.zc hf (pv 10)) (pa_cons (pe_bltn (v := .ty "str") rfl T.f_str b_str rfl) pa_nil))) (pe_one (pe_cmpR (op_eqU hr.units) (pe_xf X_BadStep.ef.xf T.n_BadStep_word hz.zc hf (pv 10)) pe_str (nomark _)))))))))))
 (pss_one (ps_ret (pe_and (pe_cmpR (op_eqU hr.units) (pe_callB (r := rLenDK) cr_lenDK rfl T.f_len b_len (pa_cons (pv 7) pa_nil)) (pe_callB (r := rLen _) call_len rfl T.f_len b_len (pa_cons (pv 5) pa_nil)) (nomark _)) (pe_one (pe_callD O_u_law_same hr (by decide) (pa_cons (pv 9) (pa_cons (pe_callD O_u_law_mapped hr (by decide) (pa_cons (pv 0) (pa_cons (pv 2) pa_nil))) pa_nil)))))))))))))
def t_u_law_renamings (K : PySem.W.Frag) : TS := (tSeq (tAsg (tCB (rLen K) (tCons (tVar 0) tNil)) (gName 3))
 (tSeq (tAsg (tOp rModU (tVar 2) (tVar 3)) (gName 4))
 (tSeq (tPar 5 6 (tCons (tOp (rIx K) (tVar 0) (tVar 4)) (tCons (tOp (rIx K) (tVar 0) (tOp rModU (tOp rDivU (tVar 2) (tC (.int 41))) (tVar 3))) tNil)))
 (tSeq (tAsg (tLst (tCons (tLst tNil) (tCons (tLc (iRng1 (tCons (tVar 3) tNil)) (gName 8) tYes (tTup (tCons (tOp (rIx K) (tVar 0) (tVar 8)) (tCons (tOp (rIx K) (tVar 1) (tVar 8)) tNil))) [8]) (tCons (tLc (iRng2 (tCons (tVar 4) (tCons (tVar 3) tNil))) (gName 8) tYes (tTup (tCons (tOp (rIx K) (tVar 0) (tVar 8)) (tCons (tOp (rIx K) (tVar 0) (tVar 8)) tNil))) [8]) tNil)))) (gName 7))
 (tSeq (tAug 7 (tLst (tCons (tLc (iRng1 (tCons (tVar 4) tNil)) (gName 8) tYes (tTup (tCons (tOp (rIx K) (tVar 0) (tVar 8)) (tCons (tOp (rIx K) (tVar 1) (tOp (rAddU K) (tVar 8) (tC (.int 1)))) tNil))) [8]) (tCons (tLst (tCons (tTup (tCons (tVar 5) (tCons (tOp (rIx K) (tVar 1) (tC (.int 0))) tNil))) tNil)) (tCons (tLst (tCons (tTup (tCons (tVar 5) (tCons (tVar 5) tNil))) tNil)) tNil)))) rIAddU)
 (tSeq (tDrop (tBM K "list" rAppend (tVar 7) (tCons (tLc (iRng1 (tCons (tVar 3) tNil)) (gName 8) tYes (tTup (tCons (tOp (rIx K) (tVar 0) (tVar 8)) (tCons (tOp (rIx K) (tVar 0) (tOp rModU (tOp (rAddU K) (tOp (rAddU K) (tVar 8) (tC (.int 1))) (tOp rDivU (tVar 2) (tC (.int 1700)))) (tVar 3))) tNil))) [8]) tNil)))
 (tSeq (tDrop (tBM K "list" rAppend (tVar 7) (tCons (tLc (iRng1 (tCons (tOp (rAddU K) (tVar 4) (tC (.int 1))) tNil)) (gName 8) tYes (tTup (tCons (tOp (rIx K) (tVar 0) (tVar 8)) (tCons (tIf (tTest (tOp rGtU (tVar 8) (tC (.int 0)))) (tOp (rIx K) (tVar 0) (tOp rSubU (tVar 8) (tC (.int 1)))) (tOp (rIx K) (tVar 1) (tVar 3))) tNil))) [8]) tNil)))
 (tSeq (tDrop (tBM K "list" rAppend (tVar 7) (tCons (tIf (tTest (tOp (rNeU K) (tVar 5) (tVar 6))) (tLst (tCons (tTup (tCons (tVar 5) (tCons (tVar 6) tNil))) (tCons (tTup (tCons (tVar 6) (tCons (tVar 5) tNil))) tNil))) (tLst (tCons (tTup (tCons (tVar 5) (tCons (tOp (rIx K) (tVar 1) (tVar 4)) tNil))) tNil))) tNil)))
 (tSeq (tDrop (tBM K "list" rAppend (tVar 7) (tCons (tLst (tCons (tTup (tCons (tVar 5) (tCons (tVar 6) tNil))) tNil)) tNil)))
 (tSeq (tDrop (tBM K "list" rAppend (tVar 7) (tCons (tLc (iRng1 (tCons (tVar 3) tNil)) (gName 8) tYes (tTup (tCons (tOp (rIx K) (tVar 0) (tVar 8)) (tCons (tOp (rIx K) (tVar 1) (tIf (tTest (tOp (rNeU K) (tVar 8) (tVar 4))) (tVar 8) (tC (.int 0)))) tNil))) [8]) tNil)))
 (tSeq (tDrop (tBM K "list" rAppend (tVar 7) (tCons (tOp (rAddU K) (tLc (iRng1 (tCons (tVar 3) tNil)) (gName 8) (tTest (tOp (rNeU K) (tVar 8) (tVar 4))) (tTup (tCons (tOp (rIx K) (tVar 0) (tVar 8)) (tCons (tOp (rIx K) (tVar 1) (tVar 8)) tNil))) [8]) (tLst (tCons (tTup (tCons (tVar 5) (tCons (tOp (rIx K) (tVar 1) (tOp rSubU (tVar 4) (tC (.int 1)))) tNil))) tNil))) tNil)))
 (tSeq (tDrop (tBM K "list" rAppend (tVar 7) (tCons (tIf (tTest (tOp (rNeU K) (tVar 5) (tVar 6))) (tLst (tCons (tTup (tCons (tVar 5) (tCons (tVar 6) tNil))) (tCons (tTup (tCons (tVar 6) (tCons (tOp (rIx K) (tVar 1) (tVar 3)) tNil))) tNil))) (tLst tNil)) tNil)))
 (tSeq (tDrop (tBM K "list" rAppend (tVar 7) (tCons (tLc (iRng1 (tCons (tVar 4) tNil)) (gName 8) tYes (tTup (tCons (tOp (rIx K) (tVar 0) (tVar 8)) (tCons (tOp (rIx K) (tVar 0) (tVar 4)) tNil))) [8]) tNil)))
 (tRet (tVar 7)))))))))))))))
theorem dv_u_law_renamings (T : Txt K mg)  {f : Addr} (cdv : Value) (A : Around) (outer : List PySem.Env) (s : Shared) (H : Hp) (E : XK) (hr : Room 0 (A.deeper (envOfC "_law_renamings" (defScope s_u_law_renamings) s.heap.objs.size f cdv))) :
    PSs (cxOf CX0 P w K mg base N_u_law_renamings "_law_renamings" (defScope s_u_law_renamings) f cdv A outer s H E) (defBody s_u_law_renamings) (t_u_law_renamings K) := by
  have sc := sc_u_law_renamings
  exact (pss_cons (ps_set (i := 3) sc.nd rfl (by first | exact Or.inl rfl | exact Or.inr rfl) (pe_callB (r := rLen _) call_len rfl T.f_len b_len (pa_cons (pv 0) pa_nil)))
 (pss_cons (ps_set (i := 4) sc.nd rfl (by first | exact Or.inl rfl | exact Or.inr rfl) (pe_op op_mod (pv 2) (pv 3)))
 (pss_cons (ps_par (i := 5) (j := 6) rfl sc.nd rfl rfl (by decide) rfl rfl (pa_cons (pe_ix ix_seq (pv 0) (pv 4) (fun _ _ => rfl)) (pa_cons (pe_ix ix_seq (pv 0) (pe_op op_mod (pe_op op_fdiv (pv 2) pe_int) (pv 3)) (fun _ _ => rfl)) pa_nil)) rfl)
 (pss_cons (ps_set (i := 7) sc.nd rfl (by first | exact Or.inl rfl | exact Or.inr rfl) (pe_lst (pa_cons (pe_lst pa_nil) (pa_cons (pe_lc (own := [("k", 8)]) (g := (gName 8)) (tt := tYes) rfl sc.nd (pi_range1 rfl T.f_range (pa_cons (pv 3) pa_nil)) (blkOk_by (own := [("k", 8)]) (N := N_u_law_renamings) (sc := defScope s_u_law_renamings) (by decide +kernel)) (fun _ _ _ _ _ => (pg_name (i := 8) sc.nd rfl (by first | exact Or.inl rfl | exact Or.inr rfl))) (fun _ _ _ _ _ => pts_nil) (fun _ _ _ _ _ => (pe_tup (pa_cons (pe_ix ix_seq (pv 0) (pv 8) (fun _ _ => rfl)) (pa_cons (pe_ix ix_seq (pv 1) (pv 8) (fun _ _ => rfl)) pa_nil))))) (pa_cons (pe_lc (own := [("k", 8)]) (g := (gName 8)) (tt := tYes) rfl sc.nd (pi_range2 rfl T.f_range (pa_cons (pv 4) (pa_cons (pv 3) pa_nil))) (blkOk_by (own := [("k", 8)]) (N := N_u_law_renamings) (sc := defScope s_u_law_renamings) (by decide +kernel)) (fun _ _ _ _ _ => (pg_name (i := 8) sc.nd rfl (by first | exact Or.inl rfl | exact Or.inr rfl))) (fun _ _ _ _ _ => pts_nil) (fun _ _ _ _ _ => (pe_tup (pa_cons (pe_ix ix_seq (pv 0) (pv 8) (fun _ _ => rfl)) (pa_cons (pe_ix ix_seq (pv 0) (pv 8) (fun _ _ => rfl)) pa_nil))))) pa_nil)))))
 (pss_cons (ps_aug (i := 7) sc.nd rfl (by first | exact Or.inl rfl | exact Or.inr rfl) (pe_lst (pa_cons (pe_lc (own := [("k", 8)]) (g := (gName 8)) (tt := tYes) rfl sc.nd (pi_range1 rfl T.f_range (pa_cons (pv 4) pa_nil)) (blkOk_by (own := [("k", 8)]) (N := N_u_law_renamings) (sc := defScope s_u_law_renamings) (by decide +kernel)) (fun _ _ _ _ _ => (pg_name (i := 8) sc.nd rfl (by first | exact Or.inl rfl | exact Or.inr rfl))) (fun _ _ _ _ _ => pts_nil) (fun _ _ _ _ _ => (pe_tup (pa_cons (pe_ix ix_seq (pv 0) (pv 8) (fun _ _ => rfl)) (pa_cons (pe_ix ix_seq (pv 1) (pe_op op_addU (pv 8) pe_int) (fun _ _ => rfl)) pa_nil))))) (pa_cons (pe_lst (pa_cons (pe_tup (pa_cons (pv 5) (pa_cons (pe_ix ix_seq (pv 1) pe_int (fun _ _ => rfl)) pa_nil))) pa_nil)) (pa_cons (pe_lst (pa_cons (pe_tup (pa_cons (pv 5) (pa_cons (pv 5) pa_nil))) pa_nil)) pa_nil)))) ip_addU)
 (pss_cons (ps_expr (pe_bm PySem.F.plainAttrs_list PySem.F.slot_list_append PySem.F.type_list_append mt_append (pv 7) (pa_cons (pe_lc (own := [("k", 8)]) (g := (gName 8)) (tt := tYes) rfl sc.nd (pi_range1 rfl T.f_range (pa_cons (pv 3) pa_nil)) (blkOk_by (own := [("k", 8)]) (N := N_u_law_renamings) (sc := defScope s_u_law_renamings) (by decide +kernel)) (fun _ _ _ _ _ => (pg_name (i := 8) sc.nd rfl (by first | exact Or.inl rfl | exact Or.inr rfl))) (fun _ _ _ _ _ => pts_nil) (fun _ _ _ _ _ => (pe_tup (pa_cons (pe_ix ix_seq (pv 0) (pv 8) (fun _ _ => rfl)) (pa_cons (pe_ix ix_seq (pv 0) (pe_op op_mod (pe_op op_addU (pe_op op_addU (pv 8) pe_int) (pe_op op_fdiv (pv 2) pe_int)) (pv 3)) (fun _ _ => rfl)) pa_nil))))) pa_nil)))
 (pss_cons (ps_expr (pe_bm PySem.F.plainAttrs_list PySem.F.slot_list_append PySem.F.type_list_append mt_append (pv 7) (pa_cons (pe_lc (own := [("k", 8)]) (g := (gName 8)) (tt := tYes) rfl sc.nd (pi_range1 rfl T.f_range (pa_cons (pe_op op_addU (pv 4) pe_int) pa_nil)) (blkOk_by (own := [("k", 8)]) (N := N_u_law_renamings) (sc := defScope s_u_law_renamings) (by decide +kernel)) (fun _ _ _ _ _ => (pg_name (i := 8) sc.nd rfl (by first | exact Or.inl rfl | exact Or.inr rfl))) (fun _ _ _ _ _ => pts_nil) (fun _ _ _ _ _ => (pe_tup (pa_cons (pe_ix ix_seq (pv 0) (pv 8) (fun _ _ => rfl)) (pa_cons (pe_ifExp (pt_cmpR op_gtU (pv 8) pe_int (nomark _)) (pe_ix ix_seq (pv 0) (pe_op op_sub (pv 8) pe_int) (fun _ _ => rfl)) (pe_ix ix_seq (pv 1) (pv 3) (fun _ _ => rfl))) pa_nil))))) pa_nil)))
 (pss_cons (ps_expr (pe_bm PySem.F.plainAttrs_list PySem.F.slot_list_append PySem.F.type_list_append mt_append (pv 7) (pa_cons (pe_ifExp (pt_cmpR (op_neU hr.units) (pv 5) (pv 6) (nomark _)) (pe_lst (pa_cons (pe_tup (pa_cons (pv 5) (pa_cons (pv 6) pa_nil))) (pa_cons (pe_tup (pa_cons (pv 6) (pa_cons (pv 5) pa_nil))) pa_nil))) (pe_lst (pa_cons (pe_tup (pa_cons (pv 5) (pa_cons (pe_ix ix_seq (pv 1) (pv 4) (fun _ _ => rfl)) pa_nil))) pa_nil))) pa_nil)))
 (pss_cons (ps_expr (pe_bm PySem.F.plainAttrs_list PySem.F.slot_list_append PySem.F.type_list_append mt_append (pv 7) (pa_cons (pe_lst (pa_cons (pe_tup (pa_cons (pv 5) (pa_cons (pv 6) pa_nil))) pa_nil)) pa_nil)))
 (pss_cons (ps_expr (pe_bm PySem.F.plainAttrs_list PySem.F.slot_list_append PySem.F.type_list_append mt_append (pv 7) (pa_cons (pe_lc (own := [("k", 8)]) (g := (gName 8)) (tt := tYes) rfl sc.nd (pi_range1 rfl T.f_range (pa_cons (pv 3) pa_nil)) (blkOk_by (own := [("k", 8)]) (N := N_u_law_renamings) (sc := defScope s_u_law_renamings) (by decide +kernel)) (fun _ _ _ _ _ => (pg_name (i := 8) sc.nd rfl (by first | exact Or.inl rfl | exact Or.inr rfl))) (fun _ _ _ _ _ => pts_nil) (fun _ _ _ _ _ => (pe_tup (pa_cons (pe_ix ix_seq (pv 0) (pv 8) (fun _ _ => rfl)) (pa_cons (pe_ix ix_seq (pv 1) (pe_ifExp (pt_cmpR (op_neU hr.units) (pv 8) (pv 4) (nomark _)) (pv 8) pe_int) (fun _ _ => rfl)) pa_nil))))) pa_nil)))
 (pss_cons (ps_expr (pe_bm PySem.F.plainAttrs_list PySem.F.slot_list_append PySem.F.type_list_append mt_append (pv 7) (pa_cons (pe_op op_addU (pe_lc (own := [("k", 8)]) (g := (gName 8)) (tt := (tTest (tOp (rNeU K) (tVar 8) (tVar 4)))) rfl sc.nd (pi_range1 rfl T.f_range (pa_cons (pv 3) pa_nil)) (blkOk_by (own := [("k", 8)]) (N := N_u_law_renamings) (sc := defScope s_u_law_renamings) (by decide +kernel)) (fun _ _ _ _ _ => (pg_name (i := 8) sc.nd rfl (by first | exact Or.inl rfl | exact Or.inr rfl))) (fun _ _ _ _ _ => (pts_one (pt_cmpR (op_neU hr.units) (pv 8) (pv 4) (nomark _)))) (fun _ _ _ _ _ => (pe_tup (pa_cons (pe_ix ix_seq (pv 0) (pv 8) (fun _ _ => rfl)) (pa_cons (pe_ix ix_seq (pv 1) (pv 8) (fun _ _ => rfl)) pa_nil))))) (pe_lst (pa_cons (pe_tup (pa_cons (pv 5) (pa_cons (pe_ix ix_seq (pv 1) (pe_op op_sub (pv 4) pe_int) (fun _ _ => rfl)) pa_nil))) pa_nil))) pa_nil)))
 (pss_cons (ps_expr (pe_bm PySem.F.plainAttrs_list PySem.F.slot_list_append PySem.F.type_list_append mt_append (pv 7) (pa_cons (pe_ifExp (pt_cmpR (op_neU hr.units) (pv 5) (pv 6) (nomark _)) (pe_lst (pa_cons (pe_tup (pa_cons (pv 5) (pa_cons (pv 6) pa_nil))) (pa_cons (pe_tup (pa_cons (pv 6) (pa_cons (pe_ix ix_seq (pv 1) (pv 3) (fun _ _ => rfl)) pa_nil))) pa_nil))) (pe_lst pa_nil)) pa_nil)))
 (pss_cons (ps_expr (pe_bm PySem.F.plainAttrs_list PySem.F.slot_list_append PySem.F.type_list_append mt_append (pv 7) (pa_cons (pe_lc (own := [("k", 8)]) (g := (gName 8)) (tt := tYes) rfl sc.nd (pi_range1 rfl T.f_range (pa_cons (pv 4) pa_nil)) (blkOk_by (own := [("k", 8)]) (N := N_u_law_renamings) (sc := defScope s_u_law_renamings) (by decide +kernel)) (fun _ _ _ _ _ => (pg_name (i := 8) sc.nd rfl (by first | exact Or.inl rfl | exact Or.inr rfl))) (fun _ _ _ _ _ => pts_nil) (fun _ _ _ _ _ => (pe_tup (pa_cons (pe_ix ix_seq (pv 0) (pv 8) (fun _ _ => rfl)) (pa_cons (pe_ix ix_seq (pv 0) (pv 4) (fun _ _ => rfl)) pa_nil))))) pa_nil)))
 (pss_one (ps_ret (pv 7))))))))))))))))
def t_u_law_moved (K : PySem.W.Frag) : TS := (tSeq (tAsg (tLst (tCons (tC (.str "E")) (tCons (tC (.str "N")) (tCons (tC (.str "W")) (tCons (tC (.str "S")) tNil))))) (gName 2))
 (tSeq (tFor (iSeqU K (tVar 1)) (gName 3) (tSeq (tAsg tDNewK (gName 4))
 (tSeq (tFor (iRng1 (tCons (tC (.int 4)) tNil)) (gName 5) (sDPut (tVar 4) (tOp (rIx K) (tVar 2) (tVar 5)) (tOp (rIx K) (tVar 2) (tOp rModU (tOp (rAddU K) (tVar 5) (tVar 3)) (tC (.int 4))))))
 (tIfS (tNot (tTr K (tCall (sp_u_law_same K) [] E0 (tCons (tCall (sp_turned_scheme K) [] E0 (tCons (tVar 0) (tCons (tVar 3) tNil))) (tCons (tCall (sp_u_law_mapped K) [] E0 (tCons (tVar 0) (tCons (tVar 4) tNil))) tNil))))) (tRet (tC (.bl false))) tNext))))
 (tRet (tCall (sp_u_law_same K) [] E0 (tCons (tCall (sp_mirrored_scheme K) [] E0 (tCons (tVar 0) tNil)) (tCons (tCall (sp_u_law_mapped K) [] E0 (tCons (tVar 0) (tCons (tDisp (((tC (.str "E")), (tC (.str "W"))) :: (((tC (.str "W")), (tC (.str "E"))) :: []))) tNil))) tNil))))))
theorem dv_u_law_moved (T : Txt K mg) (O_u_law_same : Okd P w K mg base CX0 3 "_law_same" ["told", "due"] (sp_u_law_same K)) (O_mirrored_scheme : Okd P w K mg base CX0 4 "mirrored_scheme" ["scheme"] (sp_mirrored_scheme K)) (O_u_law_mapped : Okd P w K mg base CX0 2 "_law_mapped" ["scheme", "names"] (sp_u_law_mapped K)) (O_turned_scheme : Okd P w K mg base CX0 4 "turned_scheme" ["scheme", "n"] (sp_turned_scheme K)) {f : Addr} (cdv : Value) (A : Around) (outer : List PySem.Env) (s : Shared) (H : Hp) (E : XK) (hr : Room 4 (A.deeper (envOfC "_law_moved" (defScope s_u_law_moved) s.heap.objs.size f cdv))) :
    PSs (cxOf CX0 P w K mg base N_u_law_moved "_law_moved" (defScope s_u_law_moved) f cdv A outer s H E) (defBody s_u_law_moved) (t_u_law_moved K) := by
  have sc := sc_u_law_moved
  have pa : PassesOwn (model P w) (cxOf CX0 P w K mg base N_u_law_moved "_law_moved" (defScope s_u_law_moved) f cdv A outer s H E).A (cxOf CX0 P w K mg base N_u_law_moved "_law_moved" (defScope s_u_law_moved) f cdv A outer s H E).env (cxOf CX0 P w K mg base N_u_law_moved "_law_moved" (defScope s_u_law_moved) f cdv A outer s H E).xe := passes_of rfl
  exact (pss_cons (ps_set (i := 2) sc.nd rfl (by first | exact Or.inl rfl | exact Or.inr rfl) (pe_lst (pa_cons pe_str (pa_cons pe_str (pa_cons pe_str (pa_cons pe_str pa_nil))))))
 (pss_cons (ps_for pa rfl (pi_seqU (pv 1)) (pg_name (i := 3) sc.nd rfl (by first | exact Or.inl rfl | exact Or.inr rfl)) (pss_cons (ps_set (i := 4) sc.nd rfl (by first | exact Or.inl rfl | exact Or.inr rfl) pe_dnewK)
 (pss_cons (ps_for pa rfl (pi_range1 rfl T.f_range (pa_cons pe_int pa_nil)) (pg_name (i := 5) sc.nd rfl (by first | exact Or.inl rfl | exact Or.inr rfl)) (pss_one (ps_dput (hu_of hr) (pv 4) (pe_ix ix_seq (pv 2) (pv 5) (fun _ _ => rfl)) (pe_ix ix_seq (pv 2) (pe_op op_mod (pe_op op_addU (pv 5) (pv 3)) pe_int) (fun _ _ => rfl)) rfl)))
 (pss_one (ps_if (pt_not (pt_tr (pe_callD O_u_law_same hr (by decide) (pa_cons (pe_callD O_turned_scheme hr (by decide) (pa_cons (pv 0) (pa_cons (pv 3) pa_nil))) (pa_cons (pe_callD O_u_law_mapped hr (by decide) (pa_cons (pv 0) (pa_cons (pv 4) pa_nil))) pa_nil))))) (pss_one (ps_ret pe_bl)) pss_nil)))))
 (pss_one (ps_ret (pe_callD O_u_law_same hr (by decide) (pa_cons (pe_callD O_mirrored_scheme hr (by decide) (pa_cons (pv 0) pa_nil)) (pa_cons (pe_callD O_u_law_mapped hr (by decide) (pa_cons (pv 0) (pa_cons (pe_disp (pps_cons pe_str pe_str (pps_cons pe_str pe_str pps_nil)) rfl rfl (by decide) (by decide)) pa_nil))) pa_nil)))))))
def t_law (K : PySem.W.Frag) : TS := (tSeq (tAsg (tCall (sp_u_law_pool K) [] E0 (tCons (tVar 0) (tCons (tC (.int 260)) tNil))) (gName 1))
 (tSeq (tAsg (tCall (sp_u_law_names K) [] E0 (tCons (tVar 1) (tCons (tC (.int 0)) (tCons (tOp (rAddU K) (tC (.int 1)) (tOp rModU (tOp rDivU (tOp (rIx K) (tVar 1) (tC (.int 0))) (tC (.int 11))) (tC (.int 8)))) (tCons (tC (.str "q")) tNil))))) (gName 2))
 (tSeq (tAsg (tCall (sp_u_law_names K) [] E0 (tCons (tVar 1) (tCons (tC (.int 10)) (tCons (tC (.int 40)) (tCons (tC (.str "q")) tNil))))) (gName 3))
 (tSeq (tAsg (tCall (sp_u_law_names K) [] E0 (tCons (tVar 1) (tCons (tC (.int 60)) (tCons (tC (.int 50)) (tCons (tC (.str "x")) tNil))))) (gName 4))
 (tSeq (tAsg (tC (.int 0)) (gName 5))
 (tSeq (tFor (iSeqU K (tLst (tCons (tVar 2) (tCons (tVar 3) tNil)))) (gName 6) (tSeq (tAsg (tIf (tTest (tOp (rEqU K) (tCB (rLen K) (tCons (tVar 6) tNil)) (tC (.int 40)))) (tTup (tCons (tC (.int 120)) (tCons (tC (.int 60)) tNil))) (tTup (tCons (tC (.int 200)) (tCons (tC (.int 20)) tNil)))) (gTup K 2 (gCons (gName 7) (gCons (gName 8) gNil))))
 (tSeq (tAsg (tCall (sp_u_law_drawn K) [] E0 (tCons (tVar 6) (tCons (tVar 1) (tCons (tVar 7) (tCons (tOp (rAddU K) (tC (.int 5)) (tOp rModU (tOp (rIx K) (tVar 1) (tC (.int 119))) (tVar 8))) tNil))))) (gName 9))
 (tSeq (tAsg (tSl (rSlU K) (tLc (iSeqU K (tVar 4)) (gName 11) (tTest (tOp (rNinU K) (tVar 11) (tVar 6))) (tVar 11) [11]) tNoPart (tPart (tCB (rLen K) (tCons (tVar 6) tNil)))) (gName 10))
 (tSeq (tAsg (tOp (rAddU K) (tVar 10) (tLc (iRng1 (tCons (tOp rSubU (tOp (rAddU K) (tCB (rLen K) (tCons (tVar 6) tNil)) (tC (.int 1))) (tCB (rLen K) (tCons (tVar 10) tNil))) tNil)) (gName 12) tYes (tOp (rAddU K) (tC (.str "z")) (tCB rStrI (tCons (tOp (rAddU K) (tC (.int 2000)) (tVar 12)) tNil))) [12])) (gName 10))
 (tSeq (tFor (iSeqU K (tCall (sp_u_law_renamings K) [] E0 (tCons (tVar 6) (tCons (tVar 10) (tCons (tOp (rIx K) (tVar 1) (tOp (rAddU K) (tC (.int 230)) (tOp rDivU (tCB (rLen K) (tCons (tVar 6) tNil)) (tC (.int 40))))) tNil))))) (gName 13) (tIfS (tOr (tNot (tTr K (tCall (sp_u_law_renamed K) [] E0 (tCons (tVar 9) (tCons (tVar 13) tNil))))) (tNot (tTr K (tCall (sp_u_law_renamed K) [] E0 (tCons (tVar 9) (tCons (tRevL K (tVar 13)) tNil)))))) (tRet (tC (.bl false))) tNext))
 (tSeq (tAsg (tIf (tTest (tOp (rEqU K) (tCB (rLen K) (tCons (tVar 6) tNil)) (tC (.int 40)))) (tLst (tCons (tC (.int 0)) (tCons (tC (.int 1)) (tCons (tC (.int 2)) (tCons (tC (.int 3)) (tCons (tUn (rU fun i => .int (-i)) (tC (.int 1))) tNil)))))) (tLst (tCons (tC (.int 4)) (tCons (tUn (rU fun i => .int (-i)) (tC (.int 2))) (tCons (tUn (rU fun i => .int (-i)) (tC (.int 5))) (tCons (tC (.int 1)) tNil)))))) (gName 14))
 (tSeq (tIfS (tNot (tTr K (tCall (sp_u_law_moved K) [] E0 (tCons (tVar 9) (tCons (tOp (rAddU K) (tVar 14) (tLst (tCons (tOp rSubU (tOp rModU (tOp (rIx K) (tVar 1) (tOp (rAddU K) (tC (.int 240)) (tOp rDivU (tCB (rLen K) (tCons (tVar 6) tNil)) (tC (.int 40))))) (tC (.int 81))) (tC (.int 40))) tNil))) tNil))))) (tRet (tC (.bl false))) tNext)
 (tSeq (tIfS (tAnd (tTest (tOp rGtU (tCB (rLen K) (tCons (tVar 6) tNil)) (tC (.int 1)))) (tNot (tTr K (tCall (sp_u_law_renamed K) [] E0 (tCons (tVar 9) (tCons (tLst (tCons (tTup (tCons (tOp (rIx K) (tVar 6) (tC (.int 0))) (tCons (tOp (rIx K) (tVar 6) (tC (.int 1))) tNil))) tNil)) tNil)))))) (tRet (tC (.bl false))) tNext)
 (tAug 5 (tC (.int 1)) rIAddU))))))))))
 (tSeq (tIfS (tAnd (tTest (tOp (rEqU K) (tOp rModU (tOp (rIx K) (tVar 1) (tC (.int 242))) (tC (.int 13))) (tC (.int 0)))) (tNot (tTr K (tCall (sp_u_law_moved K) [] E0 (tCons (tCall (sp_u_law_drawn K) [] E0 (tCons (tVar 2) (tCons (tVar 1) (tCons (tC (.int 200)) (tCons (tC (.int 9)) tNil))))) (tCons (tLst (tCons (tC (.int 1000)) (tCons (tUn (rU fun i => .int (-i)) (tC (.int 1000))) (tCons (tC (.int 999)) tNil)))) tNil)))))) (tRet (tC (.bl false))) tNext)
 (tSeq (tAsg (tTup (tCons (tTup (tCons (tC (.str "a")) (tCons (tC (.str "b")) tNil))) (tCons (tTup (tCons (tTup (tCons (tC (.str "E")) (tCons (tC (.str "a")) tNil))) (tCons (tTup (tCons (tC (.str "a")) (tCons (tC (.str "b")) tNil))) tNil))) tNil))) (gName 15))
 (tSeq (tIfS (tOr (tNot (tTr K (tCall (sp_u_law_renamed K) [] E0 (tCons (tVar 15) (tCons (tLst (tCons (tTup (tCons (tC (.str "a")) (tCons (tC (.str "b")) tNil))) tNil)) tNil))))) (tNot (tTr K (tCall (sp_u_law_renamed K) [] E0 (tCons (tVar 15) (tCons (tLst (tCons (tTup (tCons (tC (.str "a")) (tCons (tC (.str "c")) tNil))) (tCons (tTup (tCons (tC (.str "b")) (tCons (tC (.str "c")) tNil))) tNil))) tNil)))))) (tRet (tC (.bl false))) tNext)
 (tRet (tAndV (tCall (sp_u_law_renamed K) [] E0 (tCons (tVar 15) (tCons (tLst (tCons (tTup (tCons (tC (.str "a")) (tCons (tC (.str "b")) tNil))) (tCons (tTup (tCons (tC (.str "b")) (tCons (tC (.str "a")) tNil))) tNil))) tNil))) (tAndV (tCall (sp_u_law_moved K) [] E0 (tCons (tVar 15) (tCons (tLst (tCons (tC (.int 1)) (tCons (tC (.int 2)) (tCons (tC (.int 3)) tNil)))) tNil))) (tOp (rEqU K) (tVar 5) (tC (.int 2)))))))))))))))
theorem dv_law (T : Txt K mg) (O_u_law_pool : Okd P w K mg base CX0 1 "_law_pool" ["script", "many"] (sp_u_law_pool K)) (O_u_law_names : Okd P w K mg base CX0 1 "_law_names" ["pool", "begin", "many", "last"] (sp_u_law_names K)) (O_u_law_drawn : Okd P w K mg base CX0 2 "_law_drawn" ["rooms", "pool", "begin", "many"] (sp_u_law_drawn K)) (O_u_law_renamings : Okd P w K mg base CX0 1 "_law_renamings" ["rooms", "fresh", "pick"] (sp_u_law_renamings K)) (O_u_law_renamed : Okd P w K mg base CX0 5 "_law_renamed" ["scheme", "pairs"] (sp_u_law_renamed K)) (O_u_law_moved : Okd P w K mg base CX0 5 "_law_moved" ["scheme", "numbers"] (sp_u_law_moved K)) {f : Addr} (cdv : Value) (A : Around) (outer : List PySem.Env) (s : Shared) (H : Hp) (E : XK) (hr : Room 5 (A.deeper (envOfC "law" (defScope s_law) s.heap.objs.size f cdv))) :
    PSs (cxOf CX0 P w K mg base N_law "law" (defScope s_law) f cdv A outer s H E) (defBody s_law) (t_law K) := by
  have sc := sc_law
  have pa : PassesOwn (model P w) (cxOf CX0 P w K mg base N_law "law" (defScope s_law) f cdv A outer s H E).A (cxOf CX0 P w K mg base N_law "law" (defScope s_law) f cdv A outer s H E).env (cxOf CX0 P w K mg base N_law "law" (defScope s_law) f cdv A outer s H E).xe := passes_of rfl
  exact (pss_cons (ps_set (i := 1) sc.nd rfl (by first | exact Or.inl rfl | exact Or.inr rfl) (pe_callD O_u_law_pool hr (by decide) (pa_cons (pv 0) (pa_cons pe_int pa_nil))))
 (pss_cons (ps_set (i := 2) sc.nd rfl (by first | exact Or.inl rfl | exact Or.inr rfl) (pe_callD O_u_law_names hr (by decide) (pa_cons (pv 1) (pa_cons pe_int (pa_cons (pe_op op_addU pe_int (pe_op op_mod (pe_op op_fdiv (pe_ix ix_seq (pv 1) pe_int (fun _ _ => rfl)) pe_int) pe_int)) (pa_cons pe_str pa_nil))))))
 (pss_cons (ps_set (i := 3) sc.nd rfl (by first | exact Or.inl rfl | exact Or.inr rfl) (pe_callD O_u_law_names hr (by decide) (pa_cons (pv 1) (pa_cons pe_int (pa_cons pe_int (pa_cons pe_str pa_nil))))))
 (pss_cons (ps_set (i := 4) sc.nd rfl (by first | exact Or.inl rfl | exact Or.inr rfl) (pe_callD O_u_law_names hr (by decide) (pa_cons (pv 1) (pa_cons pe_int (pa_cons pe_int (pa_cons pe_str pa_nil))))))
 (pss_cons (ps_set (i := 5) sc.nd rfl (by first | exact Or.inl rfl | exact Or.inr rfl) pe_int)
 (pss_cons (ps_for pa rfl (pi_seqU (pe_lst (pa_cons (pv 2) (pa_cons (pv 3) pa_nil)))) (pg_name (i := 6) sc.nd rfl (by first | exact Or.inl rfl | exact Or.inr rfl)) (pss_cons (ps_asg (pe_ifExp (pt_cmpR (op_eqU hr.units) (pe_callB (r := rLen _) call_len rfl T.f_len b_len (pa_cons (pv 6) pa_nil)) pe_int (nomark _)) (pe_tup (pa_cons pe_int (pa_cons pe_int pa_nil))) (pe_tup (pa_cons pe_int (pa_cons pe_int pa_nil)))) (pg_tup rfl (pgs_cons (pg_name (i := 7) sc.nd rfl (by first | exact Or.inl rfl | exact Or.inr rfl)) (pgs_cons (pg_name (i := 8) sc.nd rfl (by first | exact Or.inl rfl | exact Or.inr rfl)) pgs_nil))))
 (pss_cons (ps_set (i := 9) sc.nd rfl (by first | exact Or.inl rfl | exact Or.inr rfl) (pe_callD O_u_law_drawn hr (by decide) (pa_cons (pv 6) (pa_cons (pv 1) (pa_cons (pv 7) (pa_cons (pe_op op_addU pe_int (pe_op op_mod (pe_ix ix_seq (pv 1) pe_int (fun _ _ => rfl)) (pv 8))) pa_nil))))))
 (pss_cons (ps_set (i := 10) sc.nd rfl (by first | exact Or.inl rfl | exact Or.inr rfl) (pe_slice sl_U (pe_lc (own := [("name", 11)]) (g := (gName 11)) (tt := (tTest (tOp (rNinU K) (tVar 11) (tVar 6)))) rfl sc.nd (pi_seqU (pv 4)) (blkOk_by (own := [("name", 11)]) (N := N_law) (sc := defScope s_law) (by decide +kernel)) (fun _ _ _ _ _ => (pg_name (i := 11) sc.nd rfl (by first | exact Or.inl rfl | exact Or.inr rfl))) (fun _ _ _ _ _ => (pts_one (pt_cmpR op_ninU (pv 11) (pv 6) rfl))) (fun _ _ _ _ _ => (pv 11))) po_none (po_some (pe_callB (r := rLen _) call_len rfl T.f_len b_len (pa_cons (pv 6) pa_nil)))))
 (pss_cons (ps_set (i := 10) sc.nd rfl (by first | exact Or.inl rfl | exact Or.inr rfl) (pe_op op_addU (pv 10) (pe_lc (own := [("k", 12)]) (g := (gName 12)) (tt := tYes) rfl sc.nd (pi_range1 rfl T.f_range (pa_cons (pe_op op_sub (pe_op op_addU (pe_callB (r := rLen _) call_len rfl T.f_len b_len (pa_cons (pv 6) pa_nil)) pe_int) (pe_callB (r := rLen _) call_len rfl T.f_len b_len (pa_cons (pv 10) pa_nil))) pa_nil)) (blkOk_by (own := [("k", 12)]) (N := N_law) (sc := defScope s_law) (by decide +kernel)) (fun _ _ _ _ _ => (pg_name (i := 12) sc.nd rfl (by first | exact Or.inl rfl | exact Or.inr rfl))) (fun _ _ _ _ _ => pts_nil) (fun _ _ _ _ _ => (pe_op op_addU pe_str (pe_callTy (r := rStrI) call_strI rfl T.f_str b_str (pa_cons (pe_op op_addU pe_int (pv 12)) pa_nil)))))))
 (pss_cons (ps_for pa rfl (pi_seqU (pe_callD O_u_law_renamings hr (by decide) (pa_cons (pv 6) (pa_cons (pv 10) (pa_cons (pe_ix ix_seq (pv 1) (pe_op op_addU pe_int (pe_op op_fdiv (pe_callB (r := rLen _) call_len rfl T.f_len b_len (pa_cons (pv 6) pa_nil)) pe_int)) (fun _ _ => rfl)) pa_nil))))) (pg_name (i := 13) sc.nd rfl (by first | exact Or.inl rfl | exact Or.inr rfl)) (pss_one (ps_if (PW.pt (pw_or (pt_not (pt_tr (pe_callD O_u_law_renamed hr (by decide) (pa_cons (pv 9) (pa_cons (pv 13) pa_nil))))) (pw_or1 (pt_not (pt_tr (pe_callD O_u_law_renamed hr (by decide) (pa_cons (pv 9) (pa_cons (pe_revL (pv 13)) pa_nil)))))))) (pss_one (ps_ret pe_bl)) pss_nil)))
 (pss_cons (ps_set (i := 14) sc.nd rfl (by first | exact Or.inl rfl | exact Or.inr rfl) (pe_ifExp (pt_cmpR (op_eqU hr.units) (pe_callB (r := rLen _) call_len rfl T.f_len b_len (pa_cons (pv 6) pa_nil)) pe_int (nomark _)) (pe_lst (pa_cons pe_int (pa_cons pe_int (pa_cons pe_int (pa_cons pe_int (pa_cons (pe_un un_neg pe_int) pa_nil)))))) (pe_lst (pa_cons pe_int (pa_cons (pe_un un_neg pe_int) (pa_cons (pe_un un_neg pe_int) (pa_cons pe_int pa_nil)))))))
 (pss_cons (ps_if (pt_not (pt_tr (pe_callD O_u_law_moved hr (by decide) (pa_cons (pv 9) (pa_cons (pe_op op_addU (pv 14) (pe_lst (pa_cons (pe_op op_sub (pe_op op_mod (pe_ix ix_seq (pv 1) (pe_op op_addU pe_int (pe_op op_fdiv (pe_callB (r := rLen _) call_len rfl T.f_len b_len (pa_cons (pv 6) pa_nil)) pe_int)) (fun _ _ => rfl)) pe_int) pe_int) pa_nil))) pa_nil))))) (pss_one (ps_ret pe_bl)) pss_nil)
 (pss_cons (ps_if (PW.pt (pw_and (pt_cmpR op_gtU (pe_callB (r := rLen _) call_len rfl T.f_len b_len (pa_cons (pv 6) pa_nil)) pe_int (nomark _)) (pw_and1 (pt_not (pt_tr (pe_callD O_u_law_renamed hr (by decide) (pa_cons (pv 9) (pa_cons (pe_lst (pa_cons (pe_tup (pa_cons (pe_ix ix_seq (pv 6) pe_int (fun _ _ => rfl)) (pa_cons (pe_ix ix_seq (pv 6) pe_int (fun _ _ => rfl)) pa_nil))) pa_nil)) pa_nil)))))))) (pss_one (ps_ret pe_bl)) pss_nil)
 (pss_one (ps_aug (i := 5) sc.nd rfl (by first | exact Or.inl rfl | exact Or.inr rfl) pe_int ip_addU)))))))))))
 (pss_cons (ps_if (PW.pt (pw_and (pt_cmpR (op_eqU hr.units) (pe_op op_mod (pe_ix ix_seq (pv 1) pe_int (fun _ _ => rfl)) pe_int) pe_int (nomark _)) (pw_and1 (pt_not (pt_tr (pe_callD O_u_law_moved hr (by decide) (pa_cons (pe_callD O_u_law_drawn hr (by decide) (pa_cons (pv 2) (pa_cons (pv 1) (pa_cons pe_int (pa_cons pe_int pa_nil))))) (pa_cons (pe_lst (pa_cons pe_int (pa_cons (pe_un un_neg pe_int) (pa_cons pe_int pa_nil)))) pa_nil)))))))) (pss_one (ps_ret pe_bl)) pss_nil)
 (pss_cons (ps_set (i := 15) sc.nd rfl (by first | exact Or.inl rfl | exact Or.inr rfl) (pe_tup (pa_cons (pe_tup (pa_cons pe_str (pa_cons pe_str pa_nil))) (pa_cons (pe_tup (pa_cons (pe_tup (pa_cons pe_str (pa_cons pe_str pa_nil))) (pa_cons (pe_tup (pa_cons pe_str (pa_cons pe_str pa_nil))) pa_nil))) pa_nil))))
 (pss_cons (ps_if (PW.pt (pw_or (pt_not (pt_tr (pe_callD O_u_law_renamed hr (by decide) (pa_cons (pv 15) (pa_cons (pe_lst (pa_cons (pe_tup (pa_cons pe_str (pa_cons pe_str pa_nil))) pa_nil)) pa_nil))))) (pw_or1 (pt_not (pt_tr (pe_callD O_u_law_renamed hr (by decide) (pa_cons (pv 15) (pa_cons (pe_lst (pa_cons (pe_tup (pa_cons pe_str (pa_cons pe_str pa_nil))) (pa_cons (pe_tup (pa_cons pe_str (pa_cons pe_str pa_nil))) pa_nil))) pa_nil)))))))) (pss_one (ps_ret pe_bl)) pss_nil)
 (pss_one (ps_ret (pe_and (pe_callD O_u_law_renamed hr (by decide) (pa_cons (pv 15) (pa_cons (pe_lst (pa_cons (pe_tup (pa_cons pe_str (pa_cons pe_str pa_nil))) (pa_cons (pe_tup (pa_cons pe_str (pa_cons pe_str pa_nil))) pa_nil))) pa_nil))) (pe_and (pe_callD O_u_law_moved hr (by decide) (pa_cons (pv 15) (pa_cons (pe_lst (pa_cons pe_int (pa_cons pe_int (pa_cons pe_int pa_nil)))) pa_nil))) (pe_one (pe_cmpR (op_eqU hr.units) (pv 5) pe_int (nomark _))))))))))))))))
end
end K04

set_option maxHeartbeats 4000000
namespace K04
open PySem PySem.Spec PyProof.Rows L2 DL
local macro_rules | `(tactic| walk_at "sz") => `(tactic| first
  | assumption
  | decide
  | omega
  | (rw [sizeLine_eq]; omega)
  | (simp only [sizeLine_eq, len_app, len_rep, len_one, List.length_append, List.length_cons, List.length_nil, List.length_map, List.length_replicate] <;> omega)
  | (simp only [sizeLine_eq, len_app, len_rep, len_one, List.length_append, List.length_cons, List.length_nil, List.length_map, List.length_replicate] at * <;> omega))
local macro_rules | `(tactic| walk_at "flat") => `(tactic| first
  | rfl
  | assumption
  | exact strs_flat _
  | decide)
local macro_rules | `(tactic| walk_at "ix") => `(tactic| first
  | rfl
  | exact atI_ints (by walk_at "sz") (by walk_at "sz")
  | exact atI_strs (by walk_at "sz") (by walk_at "sz")
  | exact atI_nn PyData.none (by walk_at "sz") (by walk_at "sz")
  | exact atI_nn (α := Nat) 0 (by walk_at "sz") (by walk_at "sz"))
local macro_rules | `(tactic| walk_at "odx") => `(tactic| first
  | fail "odx")
local macro_rules | `(tactic| walk_at "od") => `(tactic| first
  | ((with_reducible apply od_addI))
  | ((with_reducible apply od_sub))
  | ((with_reducible apply od_cmpI))
  | ((with_reducible apply od_eqI))
  | ((with_reducible apply od_neI))
  | ((with_reducible apply od_cmpS))
  | ((with_reducible apply od_eqS))
  | ((with_reducible apply od_neS))
  | ((with_reducible apply od_eqB))
  | ((with_reducible apply od_neB))
  | ((with_reducible apply od_isB))
  | ((with_reducible apply od_notB))
  | ((with_reducible apply od_inC))
  | ((with_reducible apply od_ninC))
  | ((with_reducible apply od_mod); (· walk_at "sz"))
  | ((with_reducible apply od_div); (· walk_at "sz"))
  | ((with_reducible apply od_mulI); (· first | exact Or.inr (by decide) | exact Or.inl (by decide) | exact Or.inr (by omega) | exact Or.inl (by omega)))
  | ((with_reducible apply od_addS); (· walk_at "sz"))
  | ((with_reducible apply od_addT); (· walk_at "sz"))
  | ((with_reducible apply od_ixL); (· walk_at "ix"))
  | ((with_reducible apply od_ixT); (· walk_at "ix"))
  | ((with_reducible apply od_ixS); (· walk_at "sz"); (· walk_at "ix"))
  | ((with_reducible apply od_inT); (· walk_at "flat"); (· walk_at "flat"))
  | ((with_reducible apply od_ninT); (· walk_at "flat"); (· walk_at "flat"))
  | ((with_reducible apply od_inL); (· walk_at "flat"); (· walk_at "flat"))
  | ((with_reducible apply od_ninL); (· walk_at "flat"); (· walk_at "flat"))
  | ((with_reducible apply od_pow); (· walk_at "sz"))
  | ((with_reducible apply od_mulS); (· walk_at "sz"); (· walk_at "sz"); (· walk_at "sz"))
  | ((with_reducible apply od_ltQ))
  | ((with_reducible apply od_geQ))
  | exact od_inC
  | exact od_ninC
  | walk_at "odx")
local macro_rules | `(tactic| walk_at "ea") => `(tactic| first
  | ((with_reducible apply ea_nil))
  | ((with_reducible apply ea_cons); (· walk_at "ev"); (· walk_at "ea")))
local macro_rules | `(tactic| walk_at "cdx") => `(tactic| first
  | fail "cdx")
local macro_rules | `(tactic| walk_at "cd") => `(tactic| first
  | ((with_reducible apply cd_max))
  | ((with_reducible apply cd_min))
  | ((with_reducible apply cd_abs))
  | ((with_reducible apply cd_lenL))
  | ((with_reducible apply cd_lenT))
  | ((with_reducible apply cd_lenS); (· walk_at "sz"))
  | ((with_reducible apply cd_int))
  | ((with_reducible apply cd_strI); (· walk_at "sz"))
  | ((with_reducible apply cd_tupL))
  | ((with_reducible apply cd_tupT))
  | walk_at "cdx")
local macro_rules | `(tactic| walk_at "eo") => `(tactic| first
  | ((with_reducible apply eo_none))
  | ((with_reducible apply eo_some); (· walk_at "ev")))
local macro_rules | `(tactic| walk_at "cnx") => `(tactic| first
  | fail "cnx")
local macro_rules | `(tactic| walk_at "evnx") => `(tactic| first
  | fail "evnx")
local macro_rules | `(tactic| walk_at "evn") => `(tactic| first
  | ((with_reducible apply en_lst); (· walk_at "ea"); (· walk_at "sz"))
  | ((with_reducible apply en_slL); (· walk_at "ev"); (· walk_at "eo"); (· walk_at "eo"))
  | ((with_reducible apply en_slScr); (· walk_at "ev"); (· walk_at "eo"); (· walk_at "eo"))
  | ((with_reducible apply en_revL); (· walk_at "ev"))
  | ((with_reducible apply en_dnewT))
  | ((with_reducible apply en_dnewK))
  | ((with_reducible apply en_op); (· walk_at "ev"); (· walk_at "ev"); (· first | ((with_reducible apply on_addL); (· walk_at "sz")) | ((with_reducible apply on_mulL); (· walk_at "sz"); (· walk_at "sz"); (· walk_at "sz"))))
  | ((with_reducible apply en_cb); (· walk_at "ea"); (· first | with_reducible exact cn_listL | with_reducible exact cn_listT | with_reducible exact cn_sortS (by walk_at "sz") | walk_at "cnx"))
  | walk_at "evnx")
local macro_rules | `(tactic| walk_at "sd") => `(tactic| first
  | assumption
  | rfl
  | omega
  | decide
  | (constructor <;> omega)
  | (simp only [*]; done))
local macro_rules | `(tactic| walk_at "relx") => `(tactic| first
  | fail "relx")
local macro_rules | `(tactic| walk_at "rel") => `(tactic| first
  | exact ⟨_, rfl, by rfl⟩
  | exact ⟨_, rfl, by walk_at "sd", by rfl⟩
  | exact ⟨_, _, rfl, by rfl⟩
  | exact ⟨_, _, rfl, by walk_at "sd", by rfl⟩
  | exact ⟨_, _, rfl, by walk_at "sd", by walk_at "sd", by rfl⟩
  | walk_at "relx")
local macro_rules | `(tactic| walk_at "evx") => `(tactic| first
  | fail "evx")
local macro_rules | `(tactic| walk_at "isi") => `(tactic| first
  | rfl
  | assumption
  | (simp only [isDicD, tyD]; done))
local macro_rules | `(tactic| walk_at "ok") => `(tactic| first
  | rfl
  | assumption
  | decide
  | (simp only [*]; done))
local macro_rules | `(tactic| walk_at "ev") => `(tactic| first
  | ((with_reducible apply ev_var); (· exact rfl))
  | ((with_reducible apply ev_int))
  | ((with_reducible apply ev_str))
  | ((with_reducible apply ev_bl))
  | ((with_reducible apply ev_non))
  | ((with_reducible apply ev_neg); (· walk_at "ev"))
  | ((with_reducible apply ev_ixO); (· exact rfl); (· walk_at "ev"); (· walk_at "ix"))
  | ((with_reducible apply ev_lenO); (· exact rfl))
  | ((with_reducible apply ev_inO); (· walk_at "ev"); (· exact rfl); (· walk_at "flat"); (· walk_at "flat"))
  | ((with_reducible apply ev_ninO); (· walk_at "ev"); (· exact rfl); (· walk_at "flat"); (· walk_at "flat"))
  | ((with_reducible apply ev_op); (· walk_at "ev"); (· walk_at "ev"); (· walk_at "od"))
  | ((with_reducible apply ev_cb); (· walk_at "ea"); (· walk_at "cd"))
  | ((with_reducible apply ev_call); (· walk_at "ea"); (· walk_at "rel"))
  | ((with_reducible apply ev_tup); (· walk_at "ea"); (· walk_at "sz"))
  | ((with_reducible apply ev_isi); (· walk_at "ev"); (· walk_at "isi"); (· first | exact (show kitB _ _ = some true from rfl) | exact (show kitB _ _ = some false from rfl)))
  | ((with_reducible apply ev_isN); (· walk_at "ev"))
  | ((with_reducible apply ev_notN); (· walk_at "ev"))
  | ((with_reducible apply ev_inDS); (· walk_at "ev"); (· walk_at "ev"))
  | ((with_reducible apply ev_ninDS); (· walk_at "ev"); (· walk_at "ev"))
  | ((with_reducible apply ev_and0); (· exact ev_is (by walk_at "ev") (congrArg PyData.bool (by walk_at "ok"))))
  | ((with_reducible apply ev_or1); (· exact ev_is (by walk_at "ev") (congrArg PyData.bool (by walk_at "ok"))))
  | ((with_reducible apply ev_andV); (· walk_at "ev"); (· intro _; walk_at "ev"))
  | ((with_reducible apply ev_orV); (· walk_at "ev"); (· intro _; walk_at "ev"))
  | ((with_reducible apply ev_notV); (· walk_at "ev"))
  | ((with_reducible apply ev_if1); (· exact et_is (by walk_at "et") (by walk_at "ok")); (· walk_at "ev"))
  | ((with_reducible apply ev_if0); (· exact et_is (by walk_at "et") (by walk_at "ok")); (· walk_at "ev"))
  | ((with_reducible apply ev_ite); (· walk_at "et"); (· intro _; walk_at "ev"); (· intro _; walk_at "ev"))
  | ((with_reducible apply ev_slS); (· walk_at "ev"); (· walk_at "sz"); (· walk_at "eo"); (· walk_at "eo"))
  | ((with_reducible apply ev_slT); (· walk_at "ev"); (· walk_at "eo"); (· walk_at "eo"))
  | ((with_reducible apply ev_chain); (· walk_at "ev"); (· walk_at "ev"); (· walk_at "od"); (· intro _; walk_at "ev"); (· intro _; walk_at "od"))
  | ((with_reducible apply ev_N); (· walk_at "evn"))
  | walk_at "evx")
local macro_rules | `(tactic| walk_at "et!") => `(tactic| first
  | exact et_is (by walk_at "et") (by walk_at "ok"))
local macro_rules | `(tactic| walk_at "et") => `(tactic| first
  | ((with_reducible apply et_or1); (· exact et_is (by walk_at "et") (by walk_at "ok")))
  | ((with_reducible apply et_and0); (· exact et_is (by walk_at "et") (by walk_at "ok")))
  | ((with_reducible apply et_test); (· walk_at "ev"))
  | ((with_reducible apply et_B); (· walk_at "ev"))
  | ((with_reducible apply et_not); (· walk_at "et"))
  | ((with_reducible apply et_and); (· walk_at "et"); (· intro _; walk_at "et"))
  | ((with_reducible apply et_or); (· walk_at "et"); (· intro _; walk_at "et"))
  | ((with_reducible apply et_trB); (· walk_at "ev"))
  | ((with_reducible apply et_trO); (· exact rfl))
  | ((with_reducible apply et_tr); (· walk_at "ev"); (· walk_at "isi"); (· walk_at "sz")))
section
variable {P : Program} {w : World} {K : PySem.W.Frag} {mg : Str → Option Value} {base : Heap}
abbrev FnP (K : PySem.W.Frag) (x : Str) (st : Stmt) : Prop := ∃ fd, FunD K x x (defArgs st) (defBody st) (defScope st) [] [] (He.ga K x) fd
theorem side_cases {z : Str} (h : z ∈ sides4) : z = "E" ∨ z = "N" ∨ z = "W" ∨ z = "S" := by
  unfold sides4 at h
  simpa only [List.mem_cons, List.not_mem_nil, or_false] using h
theorem ok_direction_number (T : Txt K mg) (hd : FnP K "direction_number" s_direction_number) (hm : mg "direction_number" = some (.ref (He.ga K "direction_number")))  : Okd P w K mg base CX0 1 "direction_number" ["direction"] (sp_direction_number K) := by
  obtain ⟨fd, F⟩ := hd
  refine ⟨hm, fd, fn_pf F sc_direction_number ?_ (fun cdv A outer s H E hr => ⟨_, dv_direction_number T  cdv A outer s H E hr, ?_⟩), F.bindsN (fun _ _ _ _ _ _ us hl => match us, hl with | [_], _ => rfl), F.kp⟩
  · rintro ds d ⟨x0, rfl, _⟩
    rfl
  · rintro ds d ⟨z, rfl, hz, rfl⟩
    refine ST.mono (P := fun o => o = .rt (.int (dirN z))) ?_ fun o h => .inl h
    show ST K E0 (t_direction_number K) [.fr (.str z)] _
    unfold t_direction_number
    rcases side_cases hz with rfl | rfl | rfl | rfl
    · exact st_ret (ev_sindex (i := 0) (rest := []) (by walk_at "ev") (by walk_at "ev") (by decide +kernel)) (by exact congrArg (fun i => Oc.rt (.int i)) (by decide +kernel))
    · exact st_ret (ev_sindex (i := 1) (rest := []) (by walk_at "ev") (by walk_at "ev") (by decide +kernel)) (by exact congrArg (fun i => Oc.rt (.int i)) (by decide +kernel))
    · exact st_ret (ev_sindex (i := 2) (rest := []) (by walk_at "ev") (by walk_at "ev") (by decide +kernel)) (by exact congrArg (fun i => Oc.rt (.int i)) (by decide +kernel))
    · exact st_ret (ev_sindex (i := 3) (rest := []) (by walk_at "ev") (by walk_at "ev") (by decide +kernel)) (by exact congrArg (fun i => Oc.rt (.int i)) (by decide +kernel))
theorem len4 : ((("ENWS" : Str).cps.toList.length : Nat) : Int) = 4 := by decide +kernel
theorem ok_direction_by (T : Txt K mg) (hd : FnP K "direction_by" s_direction_by) (hm : mg "direction_by" = some (.ref (He.ga K "direction_by")))  : Okd P w K mg base CX0 1 "direction_by" ["number"] (sp_direction_by K) := by
  obtain ⟨fd, F⟩ := hd
  refine ⟨hm, fd, fn_pf F sc_direction_by ?_ (fun cdv A outer s H E hr => ⟨_, dv_direction_by T  cdv A outer s H E hr, ?_⟩), F.bindsN (fun _ _ _ _ _ _ us hl => match us, hl with | [_], _ => rfl), F.kp⟩
  · rintro ds d ⟨x0, rfl, _⟩
    rfl
  · rintro ds d ⟨i, rfl, rfl⟩
    refine ST.mono (P := fun o => o = .rt (.str (dirS i))) ?_ fun o h => .inl h
    show ST K E0 (t_direction_by K) [.fr (.int i)] _
    unfold t_direction_by
    exact st_ret (ev_op (by walk_at "ev") (by walk_at "ev") (od_ixS (by decide) (ch_at (Int.emod_nonneg _ (by decide)) (by rw [len4]; exact Int.emod_lt_of_pos _ (by decide))))) (by rfl)
theorem ok_turned_direction (T : Txt K mg) (hd : FnP K "turned_direction" s_turned_direction) (hm : mg "turned_direction" = some (.ref (He.ga K "turned_direction"))) (O_direction_by : Okd P w K mg base CX0 1 "direction_by" ["number"] (sp_direction_by K)) (O_direction_number : Okd P w K mg base CX0 1 "direction_number" ["direction"] (sp_direction_number K)) : Okd P w K mg base CX0 2 "turned_direction" ["direction", "n"] (sp_turned_direction K) := by
  obtain ⟨fd, F⟩ := hd
  refine ⟨hm, fd, fn_pf F sc_turned_direction ?_ (fun cdv A outer s H E hr => ⟨_, dv_turned_direction T O_direction_by O_direction_number cdv A outer s H E hr, ?_⟩), F.bindsN (fun _ _ _ _ _ _ us hl => match us, hl with | [_, _], _ => rfl), F.kp⟩
  · rintro ds d ⟨x0, x1, rfl, _⟩
    rfl
  · rintro ds d ⟨z, n, rfl, hz, rfl⟩
    refine ST.mono (P := fun o => o = .rt (.str (turnS n z))) ?_ fun o h => .inl h
    show ST K E0 (t_turned_direction K) [.fr (.str z), .fr (.int n)] _
    unfold t_turned_direction sp_direction_by sp_direction_number
    exact st_ret (by walk_at "ev") (by rfl)
theorem ok_mirrored_direction (T : Txt K mg) (hd : FnP K "mirrored_direction" s_mirrored_direction) (hm : mg "mirrored_direction" = some (.ref (He.ga K "mirrored_direction"))) (O_direction_by : Okd P w K mg base CX0 1 "direction_by" ["number"] (sp_direction_by K)) (O_direction_number : Okd P w K mg base CX0 1 "direction_number" ["direction"] (sp_direction_number K)) : Okd P w K mg base CX0 2 "mirrored_direction" ["direction"] (sp_mirrored_direction K) := by
  obtain ⟨fd, F⟩ := hd
  refine ⟨hm, fd, fn_pf F sc_mirrored_direction ?_ (fun cdv A outer s H E hr => ⟨_, dv_mirrored_direction T O_direction_by O_direction_number cdv A outer s H E hr, ?_⟩), F.bindsN (fun _ _ _ _ _ _ us hl => match us, hl with | [_], _ => rfl), F.kp⟩
  · rintro ds d ⟨x0, rfl, _⟩
    rfl
  · rintro ds d ⟨z, rfl, hz, rfl⟩
    refine ST.mono (P := fun o => o = .rt (.str (mirrS z))) ?_ fun o h => .inl h
    show ST K E0 (t_mirrored_direction K) [.fr (.str z)] _
    unfold t_mirrored_direction sp_direction_by sp_direction_number
    exact st_ret (by walk_at "ev") (by rfl)
theorem ev_SIDES (T : Txt K mg) {ρ : List Sl} : EV K (tC (.ref (He.ga K "SIDES"))) ρ (.tuple [.str "E", .str "N", .str "W", .str "S"]) := ev_glob fun G => .tup (T.t_SIDES G) (.cons (.str _) (.cons (.str _) (.cons (.str _) (.cons (.str _) .nil))))
theorem ok_ordered_pair (T : Txt K mg) (hd : FnP K "ordered_pair" s_ordered_pair) (hm : mg "ordered_pair" = some (.ref (He.ga K "ordered_pair")))  : Okd P w K mg base CX0 1 "ordered_pair" ["one", "other"] (sp_ordered_pair K) := by
  obtain ⟨fd, F⟩ := hd
  refine ⟨hm, fd, fn_pf F sc_ordered_pair ?_ (fun cdv A outer s H E hr => ⟨_, dv_ordered_pair T  cdv A outer s H E hr, ?_⟩), F.bindsN (fun _ _ _ _ _ _ us hl => match us, hl with | [_, _], _ => rfl), F.kp⟩
  · rintro ds d ⟨x0, x1, rfl, _⟩
    rfl
  · rintro ds d ⟨a, b, rfl, rfl⟩
    refine ST.mono (P := fun o => o = .rt (pqD (ordQ (a, b)))) ?_ fun o h => .inl h
    show ST K E0 (t_ordered_pair K) [.fr (.str a), .fr (.str b)] _
    unfold t_ordered_pair
    refine st_ret (ev_ite (b := ltS a b) (d1 := .tuple [.str a, .str b]) (d2 := .tuple [.str b, .str a]) (et_is (by walk_at "et") (by rfl)) (fun _ => by walk_at "ev") (fun _ => by walk_at "ev")) ?_
    unfold ordQ
    dsimp only
    split <;> rfl
theorem range_getD {α β : Type} (f : α → β) (z : α) (l : List α) : (List.range l.length).map (fun i => f (l.getD i z)) = l.map f := by
  refine List.ext_getElem (by rw [List.length_map, List.length_range, List.length_map]) fun i h1 h2 => ?_
  rw [List.length_map, List.length_range] at h1
  rw [List.getElem_map, List.getElem_range, List.getElem_map, List.getD_eq_getElem?_getD, List.getElem?_eq_getElem h1]
  rfl
theorem ok_make_scheme (T : Txt K mg) (hd : FnP K "make_scheme" s_make_scheme) (hm : mg "make_scheme" = some (.ref (He.ga K "make_scheme"))) (O_ordered_pair : Okd P w K mg base CX0 1 "ordered_pair" ["one", "other"] (sp_ordered_pair K)) : Okd P w K mg base CX0 2 "make_scheme" ["rooms", "touches"] (sp_make_scheme K) := by
  obtain ⟨fd, F⟩ := hd
  refine ⟨hm, fd, fn_pf F sc_make_scheme ?_ (fun cdv A outer s H E hr => ⟨_, dv_make_scheme T O_ordered_pair cdv A outer s H E hr, ?_⟩), F.bindsN (fun _ _ _ _ _ _ us hl => match us, hl with | [_, _], _ => rfl), F.kp⟩
  · rintro ds d ⟨x0, x1, rfl, _⟩
    rfl
  · rintro ds d ⟨rs, ts, rfl, hr, ht, rfl⟩
    refine ST.mono (P := fun o => o = .rt (mkD rs ts)) ?_ fun o h => .inl h
    show ST K E0 (t_make_scheme K) [.fr (.tuple (rs.map PyData.str)), .fr (.tuple (ts.map pqD)), .no, .no, .no] _
    unfold t_make_scheme sp_ordered_pair
    have e := range_getD ordQ (Str.empty, Str.empty) ts
    refine q_asgN (en_sortSc (n := ts.length) (f := fun i => ordQ (ts.getD i (Str.empty, Str.empty))) (ei_tupQ (by walk_at "ev")) ?_ fun i hi => ⟨_, _, gt_tup rfl (gts_cons gt_name (gts_cons gt_name gts_nil)), by simp, ev_call (by walk_at "ea") ⟨_, _, rfl, rfl⟩⟩) ?_
    · rw [e]
      have := dd_len (ts.map ordQ)
      rw [List.length_map] at this
      omega
    rw [e]
    refine q_frz (i := 2) rfl ?_
    exact st_ret (ev_tup (ea_cons (ev_cb (ea_cons (ev_N (en_sortSet (ev_var rfl) (.inr rfl) (by omega))) ea_nil) cd_tupL) (ea_cons (ev_cb (ea_cons (ev_var rfl) ea_nil) cd_tupL) ea_nil)) (by show 2 ≤ sizeLine; rw [sizeLine_eq]; decide)) (by rfl)

theorem take_one {α : Type} {ps : List α} {i : Nat} (hi : i < ps.length) (z : α) : ps.take (i + 1) = ps.take i ++ [ps.getD i z] := by
  rw [List.take_succ, List.getElem?_eq_getElem hi, List.getD_eq_getElem?_getD, List.getElem?_eq_getElem hi]
  rfl
section
variable {κ : Type} [DecidableEq κ]
theorem getG_cons (a : κ) (v : D) (r : List (κ × D)) (j : κ) : getG ((a, v) :: r) j = if a = j then some v else getG r j := by
  unfold getG
  rw [List.find?_cons]
  by_cases h : a = j
  · rw [decide_eq_true h, if_pos h]
    rfl
  · rw [decide_eq_false h, if_neg h]
theorem getG_app (l r : List (κ × D)) (j : κ) : getG (l ++ r) j = (getG l j).or (getG r j) := by
  induction l with
  | nil => rfl
  | cons a l ih =>
    obtain ⟨a, v⟩ := a
    rw [List.cons_append, getG_cons, getG_cons, ih]
    split <;> rfl
theorem getG_map (kvs : List (κ × D)) (k : κ) (d : D) (j : κ) : getG (kvs.map fun kv => if kv.1 = k then (kv.1, d) else kv) j = if k = j then (getG kvs j).map (fun _ => d) else getG kvs j := by
  induction kvs with
  | nil => split <;> rfl
  | cons a r ih =>
    obtain ⟨a, v⟩ := a
    rw [List.map_cons, getG_cons]
    dsimp only
    by_cases h : a = k
    · subst h
      rw [if_pos rfl, getG_cons, ih]
      by_cases hj : a = j
      · rw [if_pos hj, if_pos hj, if_pos hj]
        rfl
      · simp only [if_neg hj]
    · rw [if_neg h, getG_cons, ih]
      by_cases hj : a = j
      · rw [if_pos hj, if_pos hj, if_neg (fun e => h (hj.trans e.symm))]
      · rw [if_neg hj, if_neg hj]
theorem any_get (kvs : List (κ × D)) (k : κ) : (kvs.any fun kv => decide (kv.1 = k)) = (getG kvs k).isSome := by
  induction kvs with
  | nil => rfl
  | cons a r ih =>
    obtain ⟨a, v⟩ := a
    rw [List.any_cons, getG_cons, ih]
    by_cases h : a = k
    · rw [if_pos h, decide_eq_true h]
      rfl
    · rw [if_neg h, decide_eq_false h]
      rfl
theorem getG_put (kvs : List (κ × D)) (k : κ) (d : D) (j : κ) : getG (putG kvs k d) j = if k = j then some d else getG kvs j := by
  unfold putG
  rw [any_get]
  cases h : getG kvs k with
  | some x =>
    rw [if_pos (by rfl), getG_map]
    by_cases hj : k = j
    · subst hj
      rw [if_pos rfl, if_pos rfl, h]
      rfl
    · rw [if_neg hj, if_neg hj]
  | none =>
    rw [if_neg (by decide), getG_app, getG_cons]
    by_cases hj : k = j
    · subst hj
      rw [if_pos rfl, if_pos rfl, h]
      rfl
    · rw [if_neg hj, if_neg hj]
      cases getG kvs j <;> rfl
theorem putG_new {kvs : List (κ × D)} {k : κ} {d : D} (h : getG kvs k = none) : putG kvs k d = kvs ++ [(k, d)] := by
  unfold putG
  rw [any_get, h, if_neg (by decide)]
end
theorem dcS_take {us : List (Str × Str)} {i : Nat} (hi : i < us.length) : dcS (us.take (i + 1)) = putG (dcS (us.take i)) (.inr (us.getD i (Str.empty, Str.empty)).1) (.str (us.getD i (Str.empty, Str.empty)).2) := by
  unfold dcS
  rw [take_one hi (Str.empty, Str.empty), List.foldl_append]
  rfl
theorem dcD_us (us : List (Str × Str)) : ∀ n, n ≤ us.length → dcD n (fun _ => true) (fun i => .inr (us.getD i (Str.empty, Str.empty)).1) (fun i => .str (us.getD i (Str.empty, Str.empty)).2) = dcS (us.take n)
  | 0, _ => rfl
  | n + 1, h => by
    rw [dcS_take (by omega), ← dcD_us us n (by omega)]
    rfl
theorem dcS_len (us : List (Str × Str)) : (dcS us).length ≤ us.length := by
  have := dcD_us us us.length (Nat.le_refl _)
  rw [List.take_length] at this
  rw [← this]
  exact dcD_len _ _ _ _
theorem fold_get (us : List (Str × Str)) (z : Str) : ∀ (kvs : List (Key × D)) (o : Option Str), getG kvs (.inr z) = o.map PyData.str → getG (us.foldl (fun kvs p => putG kvs (.inr p.1) (.str p.2)) kvs) (.inr z) = (us.foldl (fun o p => if p.1 = z then some p.2 else o) o).map PyData.str := by
  induction us with
  | nil => exact fun _ _ h => h
  | cons p r ih =>
    intro kvs o h
    rw [List.foldl_cons, List.foldl_cons]
    refine ih _ _ ?_
    rw [getG_put]
    by_cases e : p.1 = z
    · rw [if_pos (by rw [e]), if_pos e]
      rfl
    · rw [if_neg (fun x => e (Sum.inr.inj x)), if_neg e]
      exact h
theorem dcS_get (us : List (Str × Str)) (z : Str) : getG (dcS us) (.inr z) = (lastO us z).map PyData.str := fold_get us z [] none rfl
theorem dcS_rn (us : List (Str × Str)) (z : Str) : (getG (dcS us) (.inr z)).getD (.str z) = .str (rn us z) := by
  rw [dcS_get]
  unfold rn
  cases lastO us z <;> rfl
theorem last_fold (us : List (Str × Str)) (z : Str) : ∀ o : Option Str, (∀ x, us.foldl (fun o p => if p.1 = z then some p.2 else o) o = some x → o = some x ∨ ∃ p ∈ us, p.1 = z ∧ p.2 = x) := by
  induction us with
  | nil => exact fun o x h => .inl h
  | cons p r ih =>
    intro o x h
    rw [List.foldl_cons] at h
    rcases ih _ x h with e | ⟨q, hq, e⟩
    · by_cases hp : p.1 = z
      · rw [if_pos hp] at e
        exact .inr ⟨p, List.mem_cons_self, hp, Option.some.inj e⟩
      · rw [if_neg hp] at e
        exact .inl e
    · exact .inr ⟨q, List.mem_cons_of_mem _ hq, e⟩
theorem rn_cases (us : List (Str × Str)) (z : Str) : rn us z = z ∨ ∃ p ∈ us, p.1 = z ∧ p.2 = rn us z := by
  unfold rn
  cases h : lastO us z with
  | none => exact .inl rfl
  | some x =>
    rcases last_fold us z none x h with e | e
    · cases e
    · exact .inr e
theorem good_side {z : Str} (h : goodS z) : z ∉ sides4 := fun m => by
  have : ∀ z ∈ sides4, ∃ c, z.cps.toList = [c] ∧ c ∉ sL.cps.toList := by
    intro z hz
    rcases side_cases hz with rfl | rfl | rfl | rfl
    · exact ⟨69, by decide +kernel, by decide +kernel⟩
    · exact ⟨78, by decide +kernel, by decide +kernel⟩
    · exact ⟨87, by decide +kernel, by decide +kernel⟩
    · exact ⟨83, by decide +kernel, by decide +kernel⟩
  obtain ⟨c, e, hc⟩ := this z m
  unfold goodS at h
  rw [e] at h
  exact hc h.1
section
variable {rs : List Str} {ps us : List (Str × Str)}
theorem rn_side (W : WS rs ps) (h : RnOk rs us) {s : Str} (hs : s ∈ sides4) : rn us s = s := by
  rcases rn_cases us s with e | ⟨p, hp, e, _⟩
  · exact e
  · have := good_side (W.good p.1 (h.2 p hp).1).1
    rw [e] at this
    exact absurd hs this
theorem rn_good (W : WS rs ps) (h : RnOk rs us) {z : Str} (hz : z ∈ rs) : goodS (rn us z) ∧ (rn us z).length ≤ 8 := by
  rcases rn_cases us z with e | ⟨p, hp, _, e⟩
  · rw [e]
    exact W.good z hz
  · rw [← e]
    exact (h.2 p hp).2
theorem WS.nodup (W : WS rs ps) : rs.Nodup := W.up.imp fun h e => by rw [e, ltS_irr] at h; cases h
theorem dcD_rooms (f : Str → Str) (nd : rs.Nodup) : ∀ n, n ≤ rs.length → dcD n (fun _ => true) (fun i => .inr (rs.getD i Str.empty)) (fun i => .str (f (rs.getD i Str.empty))) = (rs.take n).map fun z => (.inr z, .str (f z))
  | 0, _ => rfl
  | n + 1, h => by
    show putG (dcD n _ _ _) _ _ = _
    rw [dcD_rooms f nd n (by omega), putG_new, take_one (z := Str.empty) (by omega), List.map_append]
    · rfl
    · have : rs.getD n Str.empty ∉ rs.take n := fun m => by
        have h2 := nd
        rw [← List.take_append_drop n rs] at h2
        have h3 := (List.nodup_append.mp h2).2.2 _ m (rs.getD n Str.empty) ?_
        · exact h3 rfl
        · rw [List.getD_eq_getElem?_getD, List.getElem?_eq_getElem (by omega)]
          exact List.mem_iff_getElem?.mpr ⟨0, by rw [List.getElem?_drop, Nat.add_zero, List.getElem?_eq_getElem (by omega)]; rfl⟩
      show getG ((rs.take n).map fun z => ((.inr z : Key), PyData.str (f z))) (.inr (rs.getD n Str.empty)) = none
      generalize rs.take n = l at this ⊢
      generalize rs.getD n Str.empty = x at this ⊢
      clear h
      induction l with
      | nil => rfl
      | cons a l ih =>
        rw [List.map_cons, getG_cons, if_neg (fun e => this (by rw [Sum.inr.inj e]; exact List.mem_cons_self))]
        exact ih fun m => this (List.mem_cons_of_mem _ m)
theorem rooms_get (f : Str → Str) {z : Str} : ∀ {l : List Str}, z ∈ l → getG (l.map fun z => ((.inr z : Key), PyData.str (f z))) (.inr z) = some (.str (f z))
  | a :: l, h => by
    rw [List.map_cons, getG_cons]
    by_cases e : a = z
    · rw [if_pos (by rw [e]), e]
    · rw [if_neg (fun x => e (Sum.inr.inj x))]
      exact rooms_get f ((List.mem_cons.mp h).resolve_left (Ne.symm e))
theorem sides_get (z : Str) : ∀ (ss : List Str) (kvs : List (Key × D)), getG (ss.foldl (fun kvs s => putG kvs (.inr s) (.str s)) kvs) (.inr z) = if z ∈ ss then some (.str z) else getG kvs (.inr z)
  | [], kvs => by rw [if_neg (List.not_mem_nil)]; rfl
  | s :: ss, kvs => by
    rw [List.foldl_cons, sides_get z ss, getG_put]
    by_cases h : z ∈ ss
    · rw [if_pos h, if_pos (List.mem_cons_of_mem _ h)]
    · rw [if_neg h]
      by_cases e : s = z
      · rw [if_pos (by rw [e]), if_pos (by rw [e]; exact List.mem_cons_self), e]
      · rw [if_neg (fun x => e (Sum.inr.inj x)), if_neg (fun m => (List.mem_cons.mp m).elim (fun x => e x.symm) h)]
theorem tab_get (W : WS rs ps) (h : RnOk rs us) {z : Str} (hz : z ∈ rs ++ sides4) : getG (tabD us rs) (.inr z) = some (.str (rn us z)) := by
  unfold tabD
  rw [sides_get]
  by_cases hs : z ∈ sides4
  · rw [if_pos hs, rn_side W h hs]
  · rw [if_neg hs]
    exact rooms_get (rn us) ((List.mem_append.mp hz).resolve_right hs)
end
theorem dd_nodup {α : Type} [DecidableEq α] {l : List α} : (dd l).length < l.length ↔ ¬l.Nodup := by
  constructor
  · intro h nd
    rw [dd_of nd] at h
    exact Nat.lt_irrefl _ h
  · intro h
    refine Nat.lt_of_not_le fun c => h ?_
    exact (perm_of_sub (nodup_dd l) (fun x hx => mem_dd.mp hx) c).nodup_iff.mp (nodup_dd l)

theorem stepP_len (qs : List (Str × Str)) (t : Str × Str) : (stepP qs t).length ≤ qs.length + 1 := by
  unfold stepP
  split
  · exact Nat.le_succ _
  · exact addP_len _ _
theorem fold_len (ts qs : List (Str × Str)) : (ts.foldl stepP qs).length ≤ qs.length + ts.length := by
  induction ts generalizing qs with
  | nil => exact Nat.le_refl _
  | cons t r ih =>
    rw [List.foldl_cons, List.length_cons]
    have := ih (stepP qs t)
    have := stepP_len qs t
    omega
theorem pairs_take {ts : List (Str × Str)} {i : Nat} (hi : i < ts.length) : pairsOf (ts.take (i + 1)) = stepP (pairsOf (ts.take i)) (ts.getD i (Str.empty, Str.empty)) := by
  unfold pairsOf
  rw [take_one hi (Str.empty, Str.empty), List.foldl_append]
  rfl
theorem pairs_len (ts : List (Str × Str)) : (pairsOf ts).length ≤ ts.length := by
  have := fold_len ts []
  rw [List.length_nil, Nat.zero_add] at this
  exact this
theorem pairs_step (qs : List (Str × Str)) (t : Str × Str) (x : Str × Str) : x ∈ stepP qs t ↔ x ∈ qs ∨ (t.1 ≠ t.2 ∧ x = ordQ t) := by
  unfold stepP ordQ
  by_cases h : t.1 = t.2
  · rw [if_pos h]
    exact ⟨.inl, fun e => e.elim id fun e => absurd h e.1⟩
  · rw [if_neg h]
    generalize (if ltS t.1 t.2 = true then t else (t.2, t.1)) = u
    unfold addP
    by_cases hu : u ∈ qs
    · rw [if_pos hu]
      exact ⟨.inl, fun e => e.elim id fun e => e.2 ▸ hu⟩
    · rw [if_neg hu, List.mem_append, List.mem_singleton]
      exact ⟨fun e => e.imp id fun e => ⟨h, e⟩, fun e => e.imp id fun e => e.2⟩
theorem pairs_fold (ts : List (Str × Str)) (x : Str × Str) : ∀ qs, x ∈ ts.foldl stepP qs ↔ x ∈ qs ∨ ∃ t ∈ ts, t.1 ≠ t.2 ∧ x = ordQ t := by
  induction ts with
  | nil => exact fun qs => ⟨.inl, fun e => e.elim id fun ⟨t, h, _⟩ => by cases h⟩
  | cons t r ih =>
    intro qs
    rw [List.foldl_cons, ih, pairs_step]
    constructor
    · rintro ((h | h) | ⟨u, hu, h⟩)
      · exact .inl h
      · exact .inr ⟨t, List.mem_cons_self, h⟩
      · exact .inr ⟨u, List.mem_cons_of_mem _ hu, h⟩
    · rintro (h | ⟨u, hu, h⟩)
      · exact .inl (.inl h)
      · rcases List.mem_cons.mp hu with rfl | hu
        · exact .inl (.inr h)
        · exact .inr ⟨u, hu, h⟩
theorem stepP_nd {qs : List (Str × Str)} (nd : qs.Nodup) (t : Str × Str) : (stepP qs t).Nodup := by
  unfold stepP
  split
  · exact nd
  · generalize (if ltS t.1 t.2 = true then t else (t.2, t.1)) = u
    unfold addP
    split
    · exact nd
    · rename_i hn
      refine List.nodup_append.mpr ⟨nd, List.nodup_cons.mpr ⟨fun h => (by cases h), List.nodup_nil⟩, fun a ha c hc e => hn ?_⟩
      rw [List.mem_singleton.mp hc] at e
      exact e ▸ ha
theorem pairs_nd (ts : List (Str × Str)) : ∀ {qs}, List.Nodup qs → (ts.foldl stepP qs).Nodup := by
  induction ts with
  | nil => exact fun h => h
  | cons t r ih => exact fun h => ih (stepP_nd h t)
/-- the program's maker and the law's make the same of different names and of pairs of different ones -/
theorem mk_law {rs : List Str} {ts : List (Str × Str)} (nd : rs.Nodup) (h : ∀ t ∈ ts, t.1 ≠ t.2) : mkD rs ts = lawD rs ts := by
  unfold mkD lawD
  rw [dd_of nd]
  have e : srt ltQ (dd (ts.map ordQ)) = srt ltQ (pairsOf ts) := by
    refine srt_uniq stoQ ((srt_perm _).trans (dd_perm (pairs_nd ts List.nodup_nil) fun x => ?_).symm) (srt_pw stoQ _)
    show x ∈ ts.foldl stepP [] ↔ _
    rw [pairs_fold, List.mem_map]
    constructor
    · rintro (e | ⟨t, ht, _, rfl⟩)
      · cases e
      · exact ⟨t, ht, rfl⟩
    · rintro ⟨t, ht, rfl⟩
      exact .inr ⟨t, ht, h t ht, rfl⟩
  rw [e]
theorem low_good {s z : Str} (hs : s ∈ sides4) (hz : goodS z) : ltS s z = true := by
  have h1 : ∃ c, s.cps.toList = [c] ∧ c < 97 := by
    rcases side_cases hs with rfl | rfl | rfl | rfl
    · exact ⟨69, by decide +kernel, by decide⟩
    · exact ⟨78, by decide +kernel, by decide⟩
    · exact ⟨87, by decide +kernel, by decide⟩
    · exact ⟨83, by decide +kernel, by decide⟩
  have h2 : ∀ c ∈ sL.cps.toList, 97 ≤ c := by decide +kernel
  obtain ⟨c, e, hc⟩ := h1
  unfold ltS
  refine decide_eq_true ?_
  unfold goodS at hz
  cases ez : z.cps.toList with
  | nil => rw [ez] at hz; exact hz.elim
  | cons d r =>
    rw [ez] at hz
    have := h2 d hz.1
    rw [e]
    exact List.Lex.rel (by omega)
section
variable {rs : List Str} {ps us : List (Str × Str)}
/-- the second name of a touch is a room's -/
theorem WS.snd (W : WS rs ps) {p : Str × Str} (hp : p ∈ ps) : p.2 ∈ rs := by
  obtain ⟨h1, h2, h3⟩ := W.one p hp
  rcases List.mem_append.mp h2 with h | h
  · exact h
  · have hr : p.1 ∈ rs := h3.elim id fun h' => absurd h (good_side (W.good _ h').1)
    have h4 := W.lt p hp
    rw [ltS_as (low_good h (W.good _ hr).1)] at h4
    cases h4
theorem WS.ne (W : WS rs ps) {p : Str × Str} (hp : p ∈ ps) : p.1 ≠ p.2 := fun e => by
  have h4 := W.lt p hp
  rw [e, ltS_irr] at h4
  cases h4
theorem map_inj {f : Str → Str} {l : List Str} (nd : (l.map f).Nodup) {a b : Str} (ha : a ∈ l) (hb : b ∈ l) (e : f a = f b) : a = b := by
  induction l with
  | nil => cases ha
  | cons c l ih =>
    rw [List.map_cons, List.nodup_cons] at nd
    rcases List.mem_cons.mp ha with h1 | h1
    · rcases List.mem_cons.mp hb with h2 | h2
      · rw [h1, h2]
      · exact absurd (List.mem_map.mpr ⟨b, h2, by rw [← e, h1]⟩) nd.1
    · rcases List.mem_cons.mp hb with h2 | h2
      · exact absurd (List.mem_map.mpr ⟨a, h1, by rw [e, h2]⟩) nd.1
      · exact ih nd.2 h1 h2
theorem ren_law (W : WS rs ps) (h : RnOk rs us) (nd : (rs.map (rn us)).Nodup) : mkD (rs.map (rn us)) (ps.map (both (rn us))) = lawD (rs.map (rn us)) (ps.map (both (rn us))) := by
  refine mk_law nd fun t ht e => ?_
  obtain ⟨p, hp, rfl⟩ := List.mem_map.mp ht
  have e : rn us p.1 = rn us p.2 := e
  have h2 := W.snd hp
  rcases List.mem_append.mp (W.one p hp).1 with h1 | h1
  · exact W.ne hp (map_inj nd h1 h2 e)
  · rw [rn_side W h h1] at e
    exact good_side (rn_good W h h2).1 (e ▸ h1)
theorem sg_room (W : WS rs ps) (g : Str → Str) {z : Str} (h : z ∈ rs) : sg g z = z := by
  unfold sg
  rw [if_neg (good_side (W.good z h).1)]
theorem sid_law (W : WS rs ps) {g : Str → Str} (hg : ∀ s ∈ sides4, g s ∈ sides4) : mkD rs (ps.map fun p => (sg g p.1, p.2)) = lawD (rs.map (sg g)) (ps.map (both (sg g))) := by
  have e1 : rs.map (sg g) = rs := by
    conv => rhs; rw [← List.map_id rs]
    exact List.map_congr_left fun z hz => sg_room W g hz
  have e2 : ps.map (both (sg g)) = ps.map fun p => (sg g p.1, p.2) := List.map_congr_left fun p hp => by
    unfold both
    rw [sg_room W g (W.snd hp)]
  rw [e1, e2]
  refine mk_law W.nodup fun t ht e => ?_
  obtain ⟨p, hp, rfl⟩ := List.mem_map.mp ht
  have e : sg g p.1 = p.2 := e
  have h2 := W.snd hp
  rcases List.mem_append.mp (W.one p hp).1 with h1 | h1
  · rw [sg_room W g h1] at e
    exact W.ne hp e
  · unfold sg at e
    rw [if_pos h1] at e
    have := hg _ h1
    rw [e] at this
    exact good_side (W.good _ h2).1 this
end
theorem sdK_get (g : Str → Str) (z : Str) : (getG (sdK g) (.inr z)).getD (.str z) = .str (sg g z) := by
  unfold sg
  by_cases h : z ∈ sides4
  · rw [if_pos h]
    unfold sdK
    rw [rooms_get g h]
    rfl
  · rw [if_neg h]
    have : getG (sdK g) (.inr z) = none := by
      unfold sdK
      generalize sides4 = l at h
      induction l with
      | nil => rfl
      | cons a l ih =>
        rw [List.map_cons, getG_cons, if_neg (fun e => h (by rw [Sum.inr.inj e]; exact List.mem_cons_self))]
        exact ih fun m => h (List.mem_cons_of_mem _ m)
    rw [this]
    rfl
theorem dirS_side (x : Int) : dirS x ∈ sides4 := by
  have : ∀ k : Nat, k < 4 → (⟨#[("ENWS" : Str).cps.toList.getD k 0]⟩ : Str) ∈ sides4 := by decide +kernel
  exact this _ (mod_nat (k := 4) rfl (by decide))
/-- the k-th side turned, as the law's list tells it -/
theorem order_turn (n : Int) : ∀ k : Nat, k < 4 → turnS n (sides4.getD k Str.empty) = sides4.getD ((((k : Nat) : Int) + n) % 4).toNat Str.empty := by
  have h1 : ∀ k : Nat, k < 4 → dirN (sides4.getD k Str.empty) = (k : Nat) := by decide +kernel
  have h2 : ∀ k : Nat, k < 4 → (⟨#[("ENWS" : Str).cps.toList.getD k 0]⟩ : Str) = sides4.getD k Str.empty := by decide +kernel
  intro k hk
  unfold turnS dirS
  rw [h1 k hk]
  exact h2 _ (mod_nat (k := 4) rfl (by decide))
theorem mirr_sides : ∀ s ∈ sides4, mirrS s = (if s = "E" then ("W" : Str) else if s = "W" then ("E" : Str) else s) := by decide +kernel
theorem sameS {zs : List Str} (hl : zs.length ≤ 1000) (h : ∀ z ∈ zs, z.length ≤ 1000) : sameD (.tuple (zs.map PyData.str)) = true := by
  unfold sameD
  dsimp only
  rw [List.length_map, Bool.and_eq_true, decide_eq_true_eq, List.all_map, List.all_eq_true]
  exact ⟨hl, fun z hz => decide_eq_true (h z hz)⟩
theorem sameQ {qs : List (Str × Str)} (hl : qs.length ≤ 1000) (h : ∀ q ∈ qs, q.1.length ≤ 1000 ∧ q.2.length ≤ 1000) : sameD (.tuple (qs.map pqD)) = true := by
  unfold sameD
  dsimp only
  rw [List.length_map, Bool.and_eq_true, decide_eq_true_eq, List.all_map, List.all_eq_true]
  refine ⟨hl, fun q hq => ?_⟩
  show (decide (q.1.length ≤ 1000) && decide (q.2.length ≤ 1000)) = true
  rw [Bool.and_eq_true, decide_eq_true_eq, decide_eq_true_eq]
  exact h q hq
theorem samS_law {rs : List Str} {ts : List (Str × Str)} (h1 : rs.length ≤ 1000) (h2 : ts.length ≤ 1000) (h3 : ∀ z ∈ rs, z.length ≤ 1000) (h4 : ∀ t ∈ ts, t.1.length ≤ 1000 ∧ t.2.length ≤ 1000) : samS (lawD rs ts) := by
  refine ⟨_, _, rfl, sameS (by rw [srt_len]; exact h1) fun z hz => h3 z (mem_srt.mp hz), sameQ ?_ fun q hq => ?_⟩
  · rw [srt_len]
    have := pairs_len ts
    omega
  · have := (pairs_fold ts q []).mp (mem_srt.mp hq)
    rcases this with e | ⟨t, ht, _, rfl⟩
    · cases e
    · have := h4 t ht
      unfold ordQ
      split
      · exact this
      · exact ⟨this.2, this.1⟩

section
variable {ρ : List Sl} {te : TE} {rs : List Str} {ps us : List (Str × Str)}
theorem ev_s0 (h : EV K te ρ (schD rs ps)) : EV K (tOp (rIx K) te (tC (.int 0))) ρ (.tuple (rs.map PyData.str)) := ev_op h ev_int (od_ixT (atI_nat (j := 0) (by rfl)))
theorem ev_s1 (h : EV K te ρ (schD rs ps)) : EV K (tOp (rIx K) te (tC (.int 1))) ρ (.tuple (ps.map pqD)) := ev_op h ev_int (od_ixT (atI_nat (j := 1) (by rfl)))
end
theorem lcD_map (f : Nat → D) : ∀ n, lcD n (fun _ => true) f = (List.range n).map f
  | 0 => rfl
  | n + 1 => by
    unfold lcD
    rw [if_pos rfl, lcD_map f n, List.range_succ, List.map_append]
    rfl
theorem na_walk (T : Txt K mg) {E : XK} {rs : List Str} {ps us : List (Str × Str)} (W : WS rs ps) (h : RnOk rs us) :
    ST K E (t_names_after K E) [.fr (schD rs ps), .fr (.tuple (us.map pqD)), .no, .no, .no, .no, .no, .no] (fun o => ((rs.map (rn us)).Nodup → o = .rt (dkD (tabD us rs))) ∧ (¬(rs.map (rn us)).Nodup → o = .ex (He.ga K "BadStep") [(("word" : Str), PyData.str "name")])) := by
  have hm := W.many
  have hu := h.1
  unfold t_names_after
  refine q_asgN (en_dc (n := us.length) (b := fun _ => true) (k := fun i => .inr (us.getD i (Str.empty, Str.empty)).1) (f := fun i => .str (us.getD i (Str.empty, Str.empty)).2) (ei_tupQ (ev_var rfl)) (by omega) fun i hi => ⟨_, _, gt_tup rfl (gts_cons gt_name (gts_cons gt_name gts_nil)), by simp, et_yes, fun _ => ⟨ev_var (by rfl), ev_var (by rfl)⟩⟩) ?_
  rw [dcD_us us us.length (Nat.le_refl _), List.take_length]
  refine q_frz (i := 2) rfl ?_
  refine q_asgN (en_dc (n := rs.length) (b := fun _ => true) (k := fun i => .inr (rs.getD i Str.empty)) (f := fun i => .str (rn us (rs.getD i Str.empty))) (ei_tupS (ev_s0 (ev_var rfl))) (by omega) fun i hi => ⟨_, _, gt_name, by simp, et_yes, fun _ => ⟨ev_var (by rfl), ev_is (ev_get2 (kvs := dcS us) (k := .inr (rs.getD i Str.empty)) (ev_var (by rfl)) (ev_var (by rfl)) (by rfl) (ev_var (by rfl))) (dcS_rn us _)⟩⟩) ?_
  rw [dcD_rooms (rn us) W.nodup rs.length (Nat.le_refl _), List.take_length]
  have hv : (rs.map fun z => ((.inr z : Key), PyData.str (rn us z))).map (·.2) = (rs.map (rn us)).map PyData.str := by rw [List.map_map, List.map_map]; rfl
  have hk : (rs.map fun z => ((.inr z : Key), PyData.str (rn us z))).length = rs.length := List.length_map _
  have key : (dd (rs.map (rn us))).length < rs.length ↔ ¬(rs.map (rn us)).Nodup := by
    have := dd_nodup (l := rs.map (rn us))
    rw [List.length_map] at this
    exact this
  unfold tabD
  generalize (rs.map fun z => ((.inr z : Key), PyData.str (rn us z))) = tb at hv hk ⊢
  have ht : ET K (tTest (tOp rLtU (tLenSet' K (tListVw (tVar 5))) (tCB rLenDK (tCons (tVar 5) tNil)))) [.fr (schD rs ps), .fr (.tuple (us.map pqD)), .fr (dkD (dcS us)), .no, .no, .ow (dkD tb), .no, .no] (decide (((dd (rs.map (rn us))).length : Int) < (tb.length : Int))) :=
    et_test (ev_op (ev_lenSet (zs := rs.map (rn us)) (ev_N (en_listVwO rfl)) (.inl (by rw [hv])) (by rw [List.length_map]; omega)) (ev_lenDKO rfl) od_cmpI)
  by_cases nd : (rs.map (rn us)).Nodup
  · refine ST.mono (P := fun o => o = .rt (dkD (sides4.foldl (fun kvs s => putG kvs (.inr s) (.str s)) tb))) ?_ fun o ho => ⟨fun _ => ho, fun c => absurd nd c⟩
    refine q_no (et_is ht (decide_eq_false fun c => key.mp (by omega) nd)) ?_
    refine q_for (ei_tupS (zs := sides4) (ev_SIDES T)) (fun i ρ => ∃ s7 : Sl, ρ = [.fr (schD rs ps), .fr (.tuple (us.map pqD)), .fr (dkD (dcS us)), .no, .no, .ow (dkD ((sides4.take i).foldl (fun kvs s => putG kvs (.inr s) (.str s)) tb)), .no, s7]) ⟨_, rfl⟩ ?_ ?_
    · rintro i ρ hi ⟨s7, rfl⟩
      refine ⟨_, _, gt_name, ?_⟩
      rw [take_one hi Str.empty, List.foldl_append]
      have hl : ((sides4.take i).foldl (fun kvs s => putG kvs (.inr s) (PyData.str s)) tb).length ≤ tb.length + (sides4.take i).length := by
        generalize sides4.take i = l
        clear ht hv hk
        induction l generalizing tb with
        | nil => exact Nat.le_refl _
        | cons a l ih =>
          rw [List.foldl_cons, List.length_cons]
          have := ih (putG tb (.inr a) (.str a))
          have := putG_len tb (.inr a) (.str a)
          omega
      have h4 : (sides4.take i).length ≤ 4 := by rw [List.length_take]; exact Nat.min_le_right _ _
      exact st_dputK (k := .inr (sides4.getD i Str.empty)) rfl (ev_var (by rfl)) (by rfl) (ev_var (by rfl)) (Nat.lt_of_le_of_lt hl (by omega)) ⟨_, rfl⟩
    · rintro ρ ⟨s7, rfl⟩
      exact q_frz (i := 5) rfl (st_ret (ev_var (by rfl)) (by rfl))
  · refine ST.mono (P := fun o => o = .ex (He.ga K "BadStep") [(("word" : Str), PyData.str "name")]) ?_ fun o ho => ⟨fun c => absurd c nd, fun _ => ho⟩
    refine q_yes (et_is ht (decide_eq_true (by have := key.mpr nd; omega))) ?_
    exact st_raiseO (by walk_at "ea") (by rfl) (by show 1 ≤ 1000; decide) (by rfl)
theorem ok_names_after (T : Txt K mg) (hd : FnP K "names_after" s_names_after) (hm : mg "names_after" = some (.ref (He.ga K "names_after"))) (X_BadStep : ExOk P w K mg base 1 "BadStep" ["word"]) : Okd P w K mg base (L2N.CX P w) 3 "names_after" ["scheme", "pairs"] (sp_names_after K) := by
  obtain ⟨fd, F⟩ := hd
  refine ⟨hm, fd, fn_pxC F sc_names_after ?_ ?_ (fun cdv A outer s H E hr => ⟨_, dv_names_after T X_BadStep cdv A outer s H E hr, ?_, ?_⟩), F.bindsN (fun _ _ _ _ _ _ us hl => match us, hl with | [_, _], _ => rfl), F.kp⟩
  · rintro ds d ⟨rs, ps, us, rfl, _⟩
    rfl
  · rintro ds C fl ⟨rs, ps, us, rfl, _⟩
    rfl
  · rintro ds d ⟨rs, ps, us, rfl, W, h, nd, rfl⟩
    exact ST.mono (na_walk T W h) fun o ho => .inl (ho.1 nd)
  · rintro ds C fl ⟨rs, ps, us, rfl, W, h, nd, rfl, rfl⟩
    exact ST.mono (na_walk T W h) fun o ho => ho.2 nd
theorem ok_renamed_scheme (T : Txt K mg) (hd : FnP K "renamed_scheme" s_renamed_scheme) (hm : mg "renamed_scheme" = some (.ref (He.ga K "renamed_scheme"))) (O1 : Okd P w K mg base (L2N.CX P w) 3 "names_after" ["scheme", "pairs"] (sp_names_after K)) (O2 : Okd P w K mg base CX0 2 "make_scheme" ["rooms", "touches"] (sp_make_scheme K)) : Okd P w K mg base (L2N.CX P w) 4 "renamed_scheme" ["scheme", "pairs"] (sp_renamed_scheme K) := by
  obtain ⟨fd, F⟩ := hd
  refine ⟨hm, fd, fn_pxC F sc_renamed_scheme ?_ ?_ (fun cdv A outer s H E hr => ⟨_, dv_renamed_scheme T O1 O2 cdv A outer s H E hr, ?_, ?_⟩), F.bindsN (fun _ _ _ _ _ _ us hl => match us, hl with | [_, _], _ => rfl), F.kp⟩
  · rintro ds d ⟨rs, ps, us, rfl, _⟩
    rfl
  · rintro ds C fl ⟨rs, ps, us, rfl, _⟩
    rfl
  · rintro ds d ⟨rs, ps, us, rfl, W, h, nd, rfl⟩
    refine ST.mono (P := fun o => o = .rt (mkD (rs.map (rn us)) (ps.map (both (rn us))))) ?_ fun o h => .inl h
    have hm := W.many
    have hf := W.few
    show ST K E (t_renamed_scheme K E) [.fr (schD rs ps), .fr (.tuple (us.map pqD)), .no, .no, .no, .no, .no] _
    unfold t_renamed_scheme sp_names_after sp_make_scheme
    refine st_seq (st_asgX (by walk_at "ea") (.inl ⟨_, ⟨rs, ps, us, rfl, W, h, nd, rfl⟩, ?_⟩))
    have e1 := range_getD (fun z => PyData.str (rn us z)) Str.empty rs
    have e2 := range_getD (fun p => pqD (both (rn us) p)) (Str.empty, Str.empty) ps
    refine q_asg (d := .tuple ((rs.map (rn us)).map PyData.str)) (ev_cb (ea_cons (ev_N (en_is (en_lc (n := rs.length) (b := fun _ => true) (f := fun i => .str (rn us (rs.getD i Str.empty))) (ei_tupS (ev_s0 (ev_var rfl))) (by omega) fun i hi => ⟨_, _, gt_name, by simp, et_yes, fun _ => ev_getD (k := .inr (rs.getD i Str.empty)) (ev_var (by rfl)) (ev_var (by rfl)) (by rfl) (tab_get W h (List.mem_append_left _ (getD_mem hi)))⟩) (congrArg PyData.list ?_))) ea_nil) cd_tupL) ?_
    · rw [lcD_map, e1, List.map_map]
      rfl
    refine st_ret (ev_call (ea_cons (ev_var rfl) (ea_cons (ev_cb (ea_cons (ev_N (en_is (e := .list ((ps.map (both (rn us))).map pqD)) (en_lc (n := ps.length) (b := fun _ => true) (f := fun i => pqD (both (rn us) (ps.getD i (Str.empty, Str.empty)))) (ei_tupQ (ev_s1 (ev_var rfl))) (by omega) fun i hi => ⟨_, _, gt_tup rfl (gts_cons gt_name (gts_cons gt_name gts_nil)), by simp, et_yes, fun _ => ?_⟩) (congrArg PyData.list ?_))) ea_nil) cd_tupL) ea_nil)) ⟨rs.map (rn us), ps.map (both (rn us)), rfl, by rw [List.length_map]; omega, by rw [List.length_map]; exact hf, rfl⟩) (by rfl)
    · obtain ⟨h1, h2, _⟩ := W.one _ (getD_mem (z := (Str.empty, Str.empty)) hi)
      exact ev_tup (ea_cons (ev_getD (k := .inr (ps.getD i (Str.empty, Str.empty)).1) (ev_var (by rfl)) (ev_var (by rfl)) (by rfl) (tab_get W h h1)) (ea_cons (ev_getD (k := .inr (ps.getD i (Str.empty, Str.empty)).2) (ev_var (by rfl)) (ev_var (by rfl)) (by rfl) (tab_get W h h2)) ea_nil)) (by show 2 ≤ sizeLine; rw [sizeLine_eq]; decide)
    · rw [lcD_map, e2, List.map_map]
      rfl
  · rintro ds C fl ⟨rs, ps, us, rfl, W, h, nd, hx⟩
    show ST K E (t_renamed_scheme K E) [.fr (schD rs ps), .fr (.tuple (us.map pqD)), .no, .no, .no, .no, .no] _
    unfold t_renamed_scheme sp_names_after
    exact st_seq (st_asgX (by walk_at "ea") (.inr ⟨_, _, ⟨rs, ps, us, rfl, W, h, nd, hx⟩, rfl⟩))

theorem ok_sides_changed (T : Txt K mg) (hd : FnP K "sides_changed" s_sides_changed) (hm : mg "sides_changed" = some (.ref (He.ga K "sides_changed"))) (O_make_scheme : Okd P w K mg base CX0 2 "make_scheme" ["rooms", "touches"] (sp_make_scheme K)) : Okd P w K mg base CX0 3 "sides_changed" ["scheme", "sides"] (sp_sides_changed K) := by
  obtain ⟨fd, F⟩ := hd
  refine ⟨hm, fd, fn_pf F sc_sides_changed ?_ (fun cdv A outer s H E hr => ⟨_, dv_sides_changed T O_make_scheme cdv A outer s H E hr, ?_⟩), F.bindsN (fun _ _ _ _ _ _ us hl => match us, hl with | [_, _], _ => rfl), F.kp⟩
  · rintro ds d ⟨x0, x1, x2, rfl, _⟩
    rfl
  · rintro ds d ⟨rs, ps, g, rfl, W, rfl⟩
    refine ST.mono (P := fun o => o = .rt (mkD rs (ps.map fun p => (sg g p.1, p.2)))) ?_ fun o h => .inl h
    have hm := W.many
    have hf := W.few
    show ST K E0 (t_sides_changed K) [.fr (schD rs ps), .fr (dkD (sdK g)), .no, .no] _
    unfold t_sides_changed sp_make_scheme
    have e2 := range_getD (fun p => pqD (sg g p.1, p.2)) (Str.empty, Str.empty) ps
    refine st_ret (ev_call (ea_cons (ev_s0 (ev_var rfl)) (ea_cons (ev_cb (ea_cons (ev_N (en_is (e := .list ((ps.map fun p => (sg g p.1, p.2)).map pqD)) (en_lc (n := ps.length) (b := fun _ => true) (f := fun i => pqD (sg g (ps.getD i (Str.empty, Str.empty)).1, (ps.getD i (Str.empty, Str.empty)).2)) (ei_tupQ (ev_s1 (ev_var rfl))) (by omega) fun i hi => ⟨_, _, gt_tup rfl (gts_cons gt_name (gts_cons gt_name gts_nil)), by simp, et_yes, fun _ => ev_tup (ea_cons (ev_is (ev_get2 (kvs := sdK g) (k := .inr (ps.getD i (Str.empty, Str.empty)).1) (ev_var (by rfl)) (ev_var (by rfl)) (by rfl) (ev_var (by rfl))) (sdK_get g _)) (ea_cons (ev_var (by rfl)) ea_nil)) (by show 2 ≤ sizeLine; rw [sizeLine_eq]; decide)⟩) (congrArg PyData.list ?_))) ea_nil) cd_tupL) ea_nil)) ⟨rs, ps.map fun p => (sg g p.1, p.2), rfl, by omega, by rw [List.length_map]; exact hf, rfl⟩) (by rfl)
    rw [lcD_map, e2, List.map_map]
    rfl
theorem sides_nd : sides4.Nodup := by decide +kernel
theorem ok_turned_scheme (T : Txt K mg) (hd : FnP K "turned_scheme" s_turned_scheme) (hm : mg "turned_scheme" = some (.ref (He.ga K "turned_scheme"))) (O_sides_changed : Okd P w K mg base CX0 3 "sides_changed" ["scheme", "sides"] (sp_sides_changed K)) (O_turned_direction : Okd P w K mg base CX0 2 "turned_direction" ["direction", "n"] (sp_turned_direction K)) : Okd P w K mg base CX0 4 "turned_scheme" ["scheme", "n"] (sp_turned_scheme K) := by
  obtain ⟨fd, F⟩ := hd
  refine ⟨hm, fd, fn_pf F sc_turned_scheme ?_ (fun cdv A outer s H E hr => ⟨_, dv_turned_scheme T O_sides_changed O_turned_direction cdv A outer s H E hr, ?_⟩), F.bindsN (fun _ _ _ _ _ _ us hl => match us, hl with | [_, _], _ => rfl), F.kp⟩
  · rintro ds d ⟨x0, x1, x2, rfl, _⟩
    rfl
  · rintro ds d ⟨rs, ps, n, rfl, W, rfl⟩
    refine ST.mono (P := fun o => o = .rt (mkD rs (ps.map fun p => (sg (turnS n) p.1, p.2)))) ?_ fun o h => .inl h
    show ST K E0 (t_turned_scheme K) [.fr (schD rs ps), .fr (.int n), .no] _
    unfold t_turned_scheme sp_sides_changed sp_turned_direction
    have e := dcD_rooms (turnS n) sides_nd sides4.length (Nat.le_refl _)
    rw [List.take_length] at e
    exact st_ret (ev_call (ea_cons (ev_var rfl) (ea_cons (ev_N (en_is (e := dkD (sdK (turnS n))) (en_dc (n := sides4.length) (b := fun _ => true) (k := fun i => .inr (sides4.getD i Str.empty)) (f := fun i => .str (turnS n (sides4.getD i Str.empty))) (ei_tupS (zs := sides4) (ev_SIDES T)) (by decide) fun i hi => ⟨_, _, gt_name, by simp, et_yes, fun _ => ⟨ev_var (by rfl), ev_call (by walk_at "ea") ⟨_, n, rfl, getD_mem hi, rfl⟩⟩⟩) (congrArg dkD e))) ea_nil)) ⟨rs, ps, turnS n, rfl, W, rfl⟩) (by rfl)
theorem ok_mirrored_scheme (T : Txt K mg) (hd : FnP K "mirrored_scheme" s_mirrored_scheme) (hm : mg "mirrored_scheme" = some (.ref (He.ga K "mirrored_scheme"))) (O_sides_changed : Okd P w K mg base CX0 3 "sides_changed" ["scheme", "sides"] (sp_sides_changed K)) (O_mirrored_direction : Okd P w K mg base CX0 2 "mirrored_direction" ["direction"] (sp_mirrored_direction K)) : Okd P w K mg base CX0 4 "mirrored_scheme" ["scheme"] (sp_mirrored_scheme K) := by
  obtain ⟨fd, F⟩ := hd
  refine ⟨hm, fd, fn_pf F sc_mirrored_scheme ?_ (fun cdv A outer s H E hr => ⟨_, dv_mirrored_scheme T O_sides_changed O_mirrored_direction cdv A outer s H E hr, ?_⟩), F.bindsN (fun _ _ _ _ _ _ us hl => match us, hl with | [_], _ => rfl), F.kp⟩
  · rintro ds d ⟨x0, x1, rfl, _⟩
    rfl
  · rintro ds d ⟨rs, ps, rfl, W, rfl⟩
    refine ST.mono (P := fun o => o = .rt (mkD rs (ps.map fun p => (sg mirrS p.1, p.2)))) ?_ fun o h => .inl h
    show ST K E0 (t_mirrored_scheme K) [.fr (schD rs ps), .no] _
    unfold t_mirrored_scheme sp_sides_changed sp_mirrored_direction
    have e := dcD_rooms mirrS sides_nd sides4.length (Nat.le_refl _)
    rw [List.take_length] at e
    exact st_ret (ev_call (ea_cons (ev_var rfl) (ea_cons (ev_N (en_is (e := dkD (sdK mirrS)) (en_dc (n := sides4.length) (b := fun _ => true) (k := fun i => .inr (sides4.getD i Str.empty)) (f := fun i => .str (mirrS (sides4.getD i Str.empty))) (ei_tupS (zs := sides4) (ev_SIDES T)) (by decide) fun i hi => ⟨_, _, gt_name, by simp, et_yes, fun _ => ⟨ev_var (by rfl), ev_call (by walk_at "ea") ⟨_, rfl, getD_mem hi, rfl⟩⟩⟩) (congrArg dkD e))) ea_nil)) ⟨rs, ps, mirrS, rfl, W, rfl⟩) (by rfl)
theorem ok_u_law_scheme (T : Txt K mg) (hd : FnP K "_law_scheme" s_u_law_scheme) (hm : mg "_law_scheme" = some (.ref (He.ga K "_law_scheme")))  : Okd P w K mg base CX0 1 "_law_scheme" ["rooms", "touches"] (sp_u_law_scheme K) := by
  obtain ⟨fd, F⟩ := hd
  refine ⟨hm, fd, fn_pf F sc_u_law_scheme ?_ (fun cdv A outer s H E hr => ⟨_, dv_u_law_scheme T  cdv A outer s H E hr, ?_⟩), F.bindsN (fun _ _ _ _ _ _ us hl => match us, hl with | [_, _], _ => rfl), F.kp⟩
  · rintro ds d ⟨x0, x1, rfl, _⟩
    rfl
  · rintro ds d ⟨rs, ts, rfl, hr, ht, rfl⟩
    refine ST.mono (P := fun o => o = .rt (lawD rs ts)) ?_ fun o h => .inl h
    show ST K E0 (t_u_law_scheme K) [.fr (.list (rs.map PyData.str)), .fr (.list (ts.map pqD)), .no, .no, .no] _
    unfold t_u_law_scheme
    refine q_asgN (d := dtD ((pairsOf (ts.take 0)).map fun p => (keyQ p, PyData.bool true))) (by exact en_dnewT) ?_
    refine q_for (ei_listQ (qs := ts) (by walk_at "ev")) (fun i ρ => ∃ s3 s4 : Sl, ρ = [.fr (.list (rs.map PyData.str)), .fr (.list (ts.map pqD)), .ow (dtD ((pairsOf (ts.take i)).map fun p => (keyQ p, PyData.bool true))), s3, s4]) ⟨_, _, rfl⟩ ?_ ?_
    · rintro i ρ hi ⟨s3, s4, rfl⟩
      rw [pairs_take hi]
      have hl := pairs_len (ts.take i)
      have hl2 : (ts.take i).length ≤ 75 := Nat.le_trans (List.length_take_le _ _) (by omega)
      generalize ts.getD i (Str.empty, Str.empty) = p
      generalize pairsOf (ts.take i) = qs at hl
      refine ⟨_, _, gt_tup rfl (gts_cons gt_name (gts_cons gt_name gts_nil)), ?_⟩
      unfold stepP
      refine st_if (b := !decide (p.1 = p.2)) (by walk_at "et") (fun hb => ?_) (fun hb => st_next ?_)
      · rw [if_neg (by simpa using hb)]
        refine st_dputT (kvs := qs.map fun p => (keyQ p, PyData.bool true)) (k := if ltS p.1 p.2 = true then keyQ (p.1, p.2) else keyQ (p.2, p.1)) (d := .bool true) rfl (evt_ite (et_is (b := ltS p.1 p.2) (by walk_at "et") (by rfl)) (fun _ => evt_tup (by walk_at "ea") (by rfl) (by show 2 ≤ sizeLine; rw [sizeLine_eq]; decide)) (fun _ => evt_tup (by walk_at "ea") (by rfl) (by show 2 ≤ sizeLine; rw [sizeLine_eq]; decide))) (by walk_at "ev") (by rw [List.length_map]; omega) ?_
        have e : (if ltS p.1 p.2 = true then keyQ (p.1, p.2) else keyQ (p.2, p.1)) = keyQ (if ltS p.1 p.2 = true then p else (p.2, p.1)) := by
          split <;> rfl
        rw [e, putQ]
        exact ⟨_, _, rfl⟩
      · rw [if_pos (by simpa using hb)]
        exact ⟨_, _, rfl⟩
    · rintro ρ ⟨s3, s4, rfl⟩
      rw [List.take_length]
      refine q_frz (i := 2) rfl ?_
      refine st_ret (ev_tup (ea_cons (ev_cb (ea_cons (ev_N (en_cb (by walk_at "ea") (cn_sortS (by omega)))) ea_nil) cd_tupL) (ea_cons (ev_cb (ea_cons (ev_N (en_cb (ea_cons (ev_var rfl) ea_nil) (cn_sortDT (qs := pairsOf ts) ?_))) ea_nil) cd_tupL) ea_nil)) (by show 2 ≤ sizeLine; rw [sizeLine_eq]; decide)) (by rfl)
      rw [List.map_map]
      rfl
theorem ok_u_law_mapped (T : Txt K mg) (hd : FnP K "_law_mapped" s_u_law_mapped) (hm : mg "_law_mapped" = some (.ref (He.ga K "_law_mapped"))) (O_u_law_scheme : Okd P w K mg base CX0 1 "_law_scheme" ["rooms", "touches"] (sp_u_law_scheme K)) : Okd P w K mg base CX0 2 "_law_mapped" ["scheme", "names"] (sp_u_law_mapped K) := by
  obtain ⟨fd, F⟩ := hd
  refine ⟨hm, fd, fn_pf F sc_u_law_mapped ?_ (fun cdv A outer s H E hr => ⟨_, dv_u_law_mapped T O_u_law_scheme cdv A outer s H E hr, ?_⟩), F.bindsN (fun _ _ _ _ _ _ us hl => match us, hl with | [_, _], _ => rfl), F.kp⟩
  · rintro ds d ⟨x0, x1, x2, x3, rfl, _⟩
    rfl
  · rintro ds d ⟨rs, ps, kvs, g, rfl, hr, hp, hg, rfl⟩
    refine ST.mono (P := fun o => o = .rt (lawD (rs.map g) (ps.map (both g)))) ?_ fun o h => .inl h
    show ST K E0 (t_u_law_mapped K) [.fr (schD rs ps), .fr (dkD kvs), .no, .no, .no, .no] _
    unfold t_u_law_mapped sp_u_law_scheme
    have e1 := range_getD (fun z => PyData.str (g z)) Str.empty rs
    have e2 := range_getD (fun p => pqD (both g p)) (Str.empty, Str.empty) ps
    refine q_asgN (d := .list ((rs.map g).map PyData.str)) (en_is (en_lc (n := rs.length) (b := fun _ => true) (f := fun i => .str (g (rs.getD i Str.empty))) (ei_tupS (ev_s0 (ev_var rfl))) (by omega) fun i hi => ⟨_, _, gt_name, by simp, et_yes, fun _ => ev_is (ev_get2 (kvs := kvs) (k := .inr (rs.getD i Str.empty)) (ev_var (by rfl)) (ev_var (by rfl)) (by rfl) (ev_var (by rfl))) (hg _ (.inl (getD_mem hi)))⟩) (congrArg PyData.list ?_)) ?_
    · rw [lcD_map, e1, List.map_map]
      rfl
    refine q_frz (i := 2) rfl ?_
    refine st_ret (ev_call (ea_cons (ev_var rfl) (ea_cons (ev_N (en_is (e := .list ((ps.map (both g)).map pqD)) (en_lc (n := ps.length) (b := fun _ => true) (f := fun i => pqD (both g (ps.getD i (Str.empty, Str.empty)))) (ei_tupQ (ev_s1 (ev_var rfl))) (by omega) fun i hi => ⟨_, _, gt_tup rfl (gts_cons gt_name (gts_cons gt_name gts_nil)), by simp, et_yes, fun _ => ev_tup (ea_cons (ev_is (ev_get2 (kvs := kvs) (k := .inr (ps.getD i (Str.empty, Str.empty)).1) (ev_var (by rfl)) (ev_var (by rfl)) (by rfl) (ev_var (by rfl))) (hg _ (.inr ⟨_, getD_mem hi, .inl rfl⟩))) (ea_cons (ev_is (ev_get2 (kvs := kvs) (k := .inr (ps.getD i (Str.empty, Str.empty)).2) (ev_var (by rfl)) (ev_var (by rfl)) (by rfl) (ev_var (by rfl))) (hg _ (.inr ⟨_, getD_mem hi, .inr rfl⟩))) ea_nil)) (by show 2 ≤ sizeLine; rw [sizeLine_eq]; decide)⟩) (congrArg PyData.list ?_))) ea_nil)) ⟨rs.map g, ps.map (both g), rfl, by rw [List.length_map]; exact hr, by rw [List.length_map]; exact hp, rfl⟩) (by rfl)
    rw [lcD_map, e2, List.map_map]
    rfl
/-! _law_same of equal things -/
theorem same_walk {R : List D → D → Prop} {ds : List D} (hl : ds.length ≤ 1000) (h : ∀ i, i < ds.length → (∃ z, ds.getD i .none = .str z ∧ z.length ≤ 1000) ∨ ∃ es, ds.getD i .none = .tuple es ∧ R [.tuple es, .tuple es] (.bool true)) :
    ST K E0 (t_u_law_same K (PF K R)) [.fr (.tuple ds), .fr (.tuple ds), .no] (fun o => o = .rt (.bool true)) := by
  unfold t_u_law_same
  refine q_no (et_is (by walk_at "et") (by simp [isDicD])) ?_
  refine q_for (ei_rng1 (by walk_at "ea") (by omega) (by omega)) (fun i ρ => ∃ s, ρ = [.fr (.tuple ds), .fr (.tuple ds), s]) ⟨_, rfl⟩ ?_ ?_
  · rintro i ρ hi ⟨s2, rfl⟩
    have hi : i < ds.length := by omega
    have e : ds.getD ((i : Nat) : Int).toNat .none = ds.getD i .none := by rfl
    refine ⟨_, _, gt_name, ?_⟩
    have hx : ∀ n, n = 0 ∨ n = 1 → EV K (tOp (rIx K) (tVar n) (tVar 2)) (([Sl.fr (.tuple ds), .fr (.tuple ds), s2] : List Sl).set 2 (.fr (.int (i : Nat)))) (ds.getD i .none) := by
      rintro n (rfl | rfl)
      · exact ev_is (by walk_at "ev") e
      · exact ev_is (by walk_at "ev") e
    have hh := h i hi
    generalize ds.getD i .none = x at hx hh
    rcases hh with ⟨z, rfl, hzl⟩ | ⟨es, rfl, hr⟩
    · exact DL.st_no (et_trB (ev_isi (hx 1 (.inr rfl)) rfl rfl)) (DL.st_no (et_is (et_or (et_not (et_trB (ev_isi (hx 0 (.inl rfl)) rfl rfl))) fun _ => et_test (ev_op (hx 0 (.inl rfl)) (hx 1 (.inr rfl)) od_neS)) (by simp)) (st_next ⟨_, rfl⟩))
    · exact st_yes (et_trB (ev_isi (hx 1 (.inr rfl)) rfl rfl)) (DL.st_no (et_not (et_trB (ev_call (ea_cons (hx 0 (.inl rfl)) (ea_cons (hx 1 (.inr rfl)) ea_nil)) hr))) (st_next ⟨_, rfl⟩))
  · rintro ρ ⟨s2, rfl⟩
    exact st_ret (by walk_at "ev") (by rfl)
def pairT : D → Bool
  | .tuple [.str a, .str b] => decide (a.length ≤ 1000) && decide (b.length ≤ 1000)
  | _ => false
theorem pairT_cases {x : D} (h : pairT x = true) : ∃ a b : Str, x = .tuple [.str a, .str b] ∧ a.length ≤ 1000 ∧ b.length ≤ 1000 := by
  unfold pairT at h
  split at h
  · rw [Bool.and_eq_true, decide_eq_true_eq, decide_eq_true_eq] at h
    exact ⟨_, _, rfl, h⟩
  · cases h
def sp_same0 (K : PySem.W.Frag) : Sp := PF K fun ds d => ∃ x, ds = [x, x] ∧ pairT x = true ∧ d = .bool true
theorem ok_same0 (T : Txt K mg) (hd : FnP K "_law_same" s_u_law_same) (hm : mg "_law_same" = some (.ref (He.ga K "_law_same"))) : Okd P w K mg base CX0 1 "_law_same" ["told", "due"] (sp_same0 K) := by
  obtain ⟨fd, F⟩ := hd
  have b := F.bindsN (ps := ["told", "due"]) (fun _ _ _ _ _ _ us hl => match us, hl with | [_, _], _ => rfl)
  have O0 : Okd P w K mg base CX0 0 "_law_same" ["told", "due"] (PF K fun _ _ => False) := ⟨hm, fd, ⟨fun _ _ _ _ ⟨_, _, _, _, _, h, _⟩ => h.elim, fun _ _ _ _ _ _ _ _ _ _ _ _ _ ⟨_, _, _, _, _, h, _⟩ => h.elim⟩, b, F.kp⟩
  refine ⟨hm, fd, fn_pf F sc_u_law_same ?_ (fun cdv A outer s H E hr => ⟨_, dv_u_law_same T O0 cdv A outer s H E hr, ?_⟩), b, F.kp⟩
  · rintro ds d ⟨x, rfl, _⟩
    rfl
  · rintro ds d ⟨x, rfl, hx, rfl⟩
    obtain ⟨a, b, rfl, h1, h2⟩ := pairT_cases hx
    refine ST.mono (P := fun o => o = .rt (.bool true)) (same_walk (ds := [.str a, .str b]) (by show 2 ≤ 1000; decide) fun i hi => ?_) fun o h => .inl h
    match i, hi with
    | 0, _ => exact .inl ⟨a, rfl, h1⟩
    | 1, _ => exact .inl ⟨b, rfl, h2⟩
theorem sameD_all {ds : List D} (h : sameD (.tuple ds) = true) : ds.length ≤ 1000 ∧ ∀ x ∈ ds, (∃ z : Str, x = .str z ∧ z.length ≤ 1000) ∨ pairT x = true := by
  unfold sameD at h
  rw [Bool.and_eq_true, decide_eq_true_eq, List.all_eq_true] at h
  refine ⟨h.1, fun x hx => ?_⟩
  have := h.2 x hx
  split at this
  · rename_i z
    exact .inl ⟨z, rfl, of_decide_eq_true this⟩
  · exact .inr this
  · cases this
def sp_same1 (K : PySem.W.Frag) : Sp := PF K fun ds d => ∃ x, ds = [x, x] ∧ sameD x = true ∧ d = .bool true
theorem ok_same1 (T : Txt K mg) (hd : FnP K "_law_same" s_u_law_same) (hm : mg "_law_same" = some (.ref (He.ga K "_law_same"))) : Okd P w K mg base CX0 2 "_law_same" ["told", "due"] (sp_same1 K) := by
  have O0 : Okd P w K mg base CX0 1 "_law_same" ["told", "due"] (sp_same0 K) := ok_same0 T hd hm
  obtain ⟨fd, F⟩ := hd
  refine ⟨hm, fd, fn_pf F sc_u_law_same ?_ (fun cdv A outer s H E hr => ⟨_, dv_u_law_same T O0 cdv A outer s H E hr, ?_⟩), F.bindsN (fun _ _ _ _ _ _ us hl => match us, hl with | [_, _], _ => rfl), F.kp⟩
  · rintro ds d ⟨x, rfl, _⟩
    rfl
  · rintro ds d ⟨x, rfl, hx, rfl⟩
    cases x with
    | tuple ds =>
      obtain ⟨h1, h2⟩ := sameD_all hx
      refine ST.mono (P := fun o => o = .rt (.bool true)) (same_walk h1 fun i hi => ?_) fun o h => .inl h
      rcases h2 _ (getD_mem (z := PyData.none) hi) with h | h
      · exact .inl h
      · obtain ⟨a, b, e, _, _⟩ := pairT_cases h
        exact .inr ⟨_, e, _, rfl, by rw [← e]; exact h, rfl⟩
    | _ => cases hx
theorem ok_u_law_same (T : Txt K mg) (hd : FnP K "_law_same" s_u_law_same) (hm : mg "_law_same" = some (.ref (He.ga K "_law_same"))) : Okd P w K mg base CX0 3 "_law_same" ["told", "due"] (sp_u_law_same K) := by
  have O0 : Okd P w K mg base CX0 2 "_law_same" ["told", "due"] (sp_same1 K) := ok_same1 T hd hm
  obtain ⟨fd, F⟩ := hd
  refine ⟨hm, fd, fn_pf F sc_u_law_same ?_ (fun cdv A outer s H E hr => ⟨_, dv_u_law_same T O0 cdv A outer s H E hr, ?_⟩), F.bindsN (fun _ _ _ _ _ _ us hl => match us, hl with | [_, _], _ => rfl), F.kp⟩
  · rintro ds d ⟨x, rfl, _⟩
    rfl
  · rintro ds d ⟨_, rfl, ⟨x, y, rfl, hx, hy⟩, rfl⟩
    refine ST.mono (P := fun o => o = .rt (.bool true)) (same_walk (ds := [x, y]) (by show 2 ≤ 1000; decide) fun i hi => ?_) fun o h => .inl h
    have tp : ∀ {z : D}, sameD z = true → ∃ es, z = .tuple es := fun {z} h => by
      cases z with
      | tuple es => exact ⟨es, rfl⟩
      | _ => cases h
    match i, hi with
    | 0, _ =>
      obtain ⟨es, rfl⟩ := tp hx
      exact .inr ⟨es, rfl, _, rfl, hx, rfl⟩
    | 1, _ =>
      obtain ⟨es, rfl⟩ := tp hy
      exact .inr ⟨es, rfl, _, rfl, hy, rfl⟩

theorem ok_u_law_pool (T : Txt K mg) (hd : FnP K "_law_pool" s_u_law_pool) (hm : mg "_law_pool" = some (.ref (He.ga K "_law_pool"))) : Okd P w K mg base CX0 1 "_law_pool" ["script", "many"] (sp_u_law_pool K) := by
  obtain ⟨fd, F⟩ := hd
  refine ⟨hm, fd, fn_pq F sc_u_law_pool ?_ (fun cdv A outer s H E hr => ⟨_, dv_u_law_pool T cdv A outer s H E hr, ?_⟩), F.bindsN (fun _ _ _ _ _ _ us hl => match us, hl with | [_, _], _ => rfl), F.kp⟩
  · rintro ds ⟨ns, m, rfl, _⟩
    rfl
  · rintro ds ⟨ns, m, rfl, hns, h0, h1⟩
    show ST K E0 (t_u_law_pool K) [.fr (.dict [(.none, .list (ns.map PyData.int))]), .fr (.int m), .no, .no, .no, .no, .no, .no, .no] _
    unfold t_u_law_pool
    -- cells = [..]
    obtain ⟨ms, e1, hms⟩ := map_cut (ns := ns) none (some 63)
    refine q_asg (ev_N (en_lc (b := fun _ => true) (f := fun i => .int (if decide (0 ≤ ms.getD i 0) = true then ms.getD i 0 else - ms.getD i 0)) (ei_list (ds := ms.map PyData.int) (ev_is (ev_N (by walk_at "evn")) (congrArg PyData.list e1))) (by rw [List.length_map]; omega) fun i hi => ?_)) ?_
    · rw [List.length_map] at hi
      refine ⟨_, _, gt_name, by simp, et_yes, fun _ => ?_⟩
      rw [getD_map_int hi]
      refine ev_is (ev_ite (by walk_at "et") (fun _ => by walk_at "ev") (fun _ => by walk_at "ev")) ?_
      by_cases h : 0 ≤ ms.getD i 0
      · rw [decide_eq_true h]; rfl
      · rw [decide_eq_false h]; rfl
    rw [lcD_all (fun _ => rfl) (fun i _ => rfl), List.length_map]
    -- if len(cells) == 0: cells = [37]
    refine q_cut (fun ρ => ∃ cs : List Int, 1 ≤ cs.length ∧ cs.length ≤ 63 ∧ ρ = [.fr (.dict [(.none, .list (ns.map PyData.int))]), .fr (.int m), .fr (.list (cs.map PyData.int)), .no, .no, .no, .no, .no, .no]) ?_ ?_
    · refine st_if (by walk_at "et") (fun hb => st_asg (by walk_at "ev") ?_) (fun hb => st_next ?_)
      · exact ⟨[_], by decide, by decide, rfl⟩
      · refine ⟨_, ?_, ?_, rfl⟩
        · have := of_decide_eq_false hb
          rw [List.length_map] at this
          omega
        · rw [List.length_map, List.length_range]
          omega
    rintro ρ ⟨cs, hc1, hc2, rfl⟩
    -- rest = [..]
    refine q_asgN (en_lc (b := fun _ => true) (f := fun i => .int (if decide ((10 : Int) ^ (18 : Int).toNat ≤ cs.getD i 0) = true then cs.getD i 0 else 0)) (ei_list (by walk_at "ev")) (by rw [List.length_map]; omega) fun i hi => ?_) ?_
    · rw [List.length_map] at hi
      refine ⟨_, _, gt_name, by simp, et_yes, fun _ => ?_⟩
      rw [getD_map_int hi]
      refine ev_is (ev_ite (by walk_at "et") (fun _ => by walk_at "ev") (fun _ => by walk_at "ev")) ?_
      by_cases h : (10 : Int) ^ (18 : Int).toNat ≤ cs.getD i 0
      · rw [decide_eq_true h]; rfl
      · rw [decide_eq_false h]; rfl
    rw [lcD_all (fun _ => rfl) (fun i _ => rfl), List.length_map]
    -- pool = []
    refine q_asgN (by walk_at "evn") ?_
    -- for k in range(many)
    refine q_for (ei_rng1 (by walk_at "ea") (by omega) (by omega)) (fun i ρ => ∃ (rs ps : List Int) (s6 s7 s8 : Sl), rs.length = cs.length ∧ ps.length = i ∧
      ρ = [.fr (.dict [(.none, .list (ns.map PyData.int))]), .fr (.int m), .fr (.list (cs.map PyData.int)), .no, .ow (.list (rs.map PyData.int)), .ow (.list (ps.map PyData.int)), s6, s7, s8]) ⟨_, [], _, _, _, ?_, rfl, rfl⟩ ?_ ?_
    · rw [List.length_map, List.length_range]
    · rintro i ρ hi ⟨rs, ps, s6, s7, s8, hr1, hp1, rfl⟩
      refine ⟨_, _, gt_name, ?_⟩
      have hcl : 0 < ((cs.map PyData.int).length : Int) := by rw [List.length_map]; omega
      have hm0 : 0 ≤ (i : Int) % ((cs.map PyData.int).length : Int) := Int.emod_nonneg _ (by omega)
      have hm1 : (i : Int) % ((cs.map PyData.int).length : Int) < (cs.map PyData.int).length := Int.emod_lt_of_pos _ hcl
      refine q_asg (by walk_at "ev") ?_
      have hm2 : (i : Int) % ((cs.map PyData.int).length : Int) < cs.length := by rw [List.length_map] at hm1; rw [List.length_map]; exact hm1
      have hm3 : (i : Int) % ((cs.map PyData.int).length : Int) < rs.length := by rw [hr1]; exact hm2
      generalize (i : Int) % ((cs.map PyData.int).length : Int) = a at hm0 hm1 hm2 hm3
      refine st_if (by walk_at "et") (fun hb => ?_) (fun hb => ?_)
      · refine q_append (by rfl) (by walk_at "ev") (by rw [List.length_map]; omega) ?_
        rw [map_add]
        refine st_setL (by rfl) (by walk_at "ev") (by walk_at "ev") (ixN_nn hm0 (by rw [List.length_map]; exact hm3)) ?_
        rw [map_set]
        exact ⟨_, _, _, _, _, by rw [List.length_set]; exact hr1, by rw [List.length_append, hp1]; rfl, rfl⟩
      · refine q_asg (by walk_at "ev") ?_
        refine st_append (by rfl) (by walk_at "ev") (by rw [List.length_map]; omega) ?_
        rw [map_add]
        exact ⟨_, _, _, _, _, hr1, by rw [List.length_append, hp1]; rfl, rfl⟩
    · rintro ρ ⟨rs, ps, s6, s7, s8, hr1, hp1, rfl⟩
      refine q_frz (i := 5) rfl ?_
      refine st_ret (by walk_at "ev") ?_
      exact ⟨_, rfl, m, _, ps, rfl, rfl, by omega⟩
theorem len23 : ((("abcdefghijklmnoprstuvwy" : Str).cps.toList.length : Nat) : Int) = 23 := by decide +kernel
theorem len8 : ((("0xbz9enw" : Str).cps.toList.length : Nat) : Int) = 8 := by decide +kernel
theorem str_k : ∀ k : Nat, k < 51 → (strI (1000 + (k : Nat))).length = 4 ∧ (1000 + (k : Nat) : Int).natAbs.log2 < 1920 := by decide +kernel
theorem tail_len (z : Str) (p : Int) : ∀ n, (tailS z p n).length = z.length + n
  | 0 => rfl
  | n + 1 => by
    unfold tailS
    rw [len_app, tail_len z p n]
    rfl
theorem namesK_len (l : Str) (ps : List Int) (b : Int) : ∀ n, (namesK l ps b n).length = n
  | 0 => rfl
  | n + 1 => by
    unfold namesK
    rw [List.length_append, namesK_len l ps b n]
    rfl
theorem cap_len {z y : Str} {c : Bool} (hy : y.length ≤ 8) : (if (decide ((z.length : Int) > 8) || c) = true then y else z).length ≤ 8 := by
  split
  · exact hy
  · rename_i h
    simp only [Bool.or_eq_true, decide_eq_true_eq, not_or] at h
    omega
theorem nameAt_len {l : Str} (hl1 : l.length = 1) (ps : List Int) (b : Int) {k : Nat} (hk : k < 51) (ns : List Str) : (nameAt l ps b k ns).length ≤ 8 := by
  unfold nameAt
  dsimp only
  refine cap_len ?_
  rw [len_app, (str_k k hk).1, hl1]
  decide
theorem namesK_small {l : Str} (hl1 : l.length = 1) (ps : List Int) (b : Int) : ∀ n, n ≤ 51 → ∀ z ∈ namesK l ps b n, z.length ≤ 8
  | 0, _, z, h => by cases h
  | n + 1, hn, z, h => by
    unfold namesK at h
    rcases List.mem_append.mp h with h | h
    · exact namesK_small hl1 ps b n (by omega) z h
    · rw [List.mem_singleton.mp h]
      exact nameAt_len hl1 ps b (by omega) _
theorem ok_u_law_names (T : Txt K mg) (hd : FnP K "_law_names" s_u_law_names) (hm : mg "_law_names" = some (.ref (He.ga K "_law_names"))) : Okd P w K mg base CX0 1 "_law_names" ["pool", "begin", "many", "last"] (sp_u_law_names K) := by
  obtain ⟨fd, F⟩ := hd
  refine ⟨hm, fd, fn_pf F sc_u_law_names ?_ (fun cdv A outer s H E hr => ⟨_, dv_u_law_names T cdv A outer s H E hr, ?_⟩), F.bindsN (fun _ _ _ _ _ _ us hl => match us, hl with | [_, _, _, _], _ => rfl), F.kp⟩
  · rintro ds d ⟨ps, b, m, l, rfl, _⟩
    rfl
  · rintro ds d ⟨ps, b, m, l, rfl, hl1, hb, hm0, hm1, hl, rfl⟩
    refine ST.mono (P := fun o => o = .rt (.list ((namesK l ps b m.toNat).map PyData.str))) ?_ fun o h => .inl h
    show ST K E0 (t_u_law_names K) [.fr (.list (ps.map PyData.int)), .fr (.int b), .fr (.int m), .fr (.str l), .no, .no, .no, .no, .no] _
    unfold t_u_law_names
    refine q_asgN (by walk_at "evn") ?_
    refine q_for (ei_rng1 (by walk_at "ea") (by omega) (by omega)) (fun i ρ => ∃ s4 s5 s6 s7 : Sl, ρ = [.fr (.list (ps.map PyData.int)), .fr (.int b), .fr (.int m), .fr (.str l), .ow (.list ((namesK l ps b i).map PyData.str)), s4, s5, s6, s7]) ⟨_, _, _, _, rfl⟩ ?_ ?_
    · rintro i ρ hi ⟨s4, s5, s6, s7, rfl⟩
      have hi : i < 50 ∧ (i : Int) < m := by omega
      have hnl := namesK_len l ps b i
      have hsm := namesK_small hl1 ps b i (by omega)
      refine ⟨_, _, gt_name, ?_⟩
      refine q_asg (d := .int (pI ps (b + (i : Nat)))) (ev_op (by walk_at "ev") (by walk_at "ev") (od_ixL (pI_get (by omega) (by omega)))) ?_
      show ST K E0 _ _ (loopP (fun ρ => ∃ s4 s5 s6 s7 : Sl, ρ = [.fr (.list (ps.map PyData.int)), .fr (.int b), .fr (.int m), .fr (.str l), .ow (.list ((namesK l ps b i ++ [nameAt l ps b i (namesK l ps b i)]).map PyData.str)), s4, s5, s6, s7]) _)
      have hna : ∀ y, (let p := pI ps (b + (i : Nat)); let z := chS "abcdefghijklmnoprstuvwy" (p % 23); let q := p / 23; let z := if (decide (q % 5 = 0) && decide ((i : Int) > 0)) = true then (namesK l ps b i).getD (i - 1) Str.empty else z; let z := tailS z q (q / 5 % 4).toNat; if (decide ((z.length : Int) > 8) || inD (.str z) ((namesK l ps b i).map PyData.str)) = true then l ++ strI (1000 + (i : Nat)) else z) = y → nameAt l ps b i (namesK l ps b i) = y := fun y h => h
      generalize nameAt l ps b i (namesK l ps b i) = nm at hna ⊢
      dsimp only at hna
      generalize namesK l ps b i = ns at hnl hsm hna ⊢
      generalize pI ps (b + (i : Nat)) = p at hna ⊢
      refine q_asg (d := .str (chS "abcdefghijklmnoprstuvwy" (p % 23))) (ev_op (by walk_at "ev") (ev_op (by walk_at "ev") (by walk_at "ev") (od_mod (by decide))) (od_ixS (by decide) (ch_at (Int.emod_nonneg _ (by decide)) (by rw [len23]; exact Int.emod_lt_of_pos _ (by decide))))) ?_
      have hz0 : (chS "abcdefghijklmnoprstuvwy" (p % 23)).length = 1 := rfl
      generalize chS "abcdefghijklmnoprstuvwy" (p % 23) = z0 at hna hz0 ⊢
      refine q_asg (by walk_at "ev") ?_
      generalize p / 23 = q at hna ⊢
      refine q_ifAsg (i := 7) (d := .str (ns.getD (i - 1) Str.empty)) (d' := .str z0) rfl (by walk_at "et") (fun hc => ?_) ?_
      · rw [Bool.and_eq_true, decide_eq_true_eq, decide_eq_true_eq] at hc
        have e : ((i : Int) - 1).toNat = i - 1 := by omega
        rw [← e]
        exact ev_ixO rfl (by walk_at "ev") (atI_strs (by omega) (by omega))
      rw [ite_str]
      have hz1 : (if (decide (q % 5 = 0) && decide ((i : Int) > 0)) = true then ns.getD (i - 1) Str.empty else z0).length ≤ 8 := by
        split
        · rename_i hc
          rw [Bool.and_eq_true, decide_eq_true_eq, decide_eq_true_eq] at hc
          have hlt : i - 1 < ns.length := by omega
          rw [List.getD_eq_getElem?_getD, List.getElem?_eq_getElem hlt]
          exact hsm _ (List.getElem_mem hlt)
        · omega
      generalize (if (decide (q % 5 = 0) && decide ((i : Int) > 0)) = true then ns.getD (i - 1) Str.empty else z0) = z1 at hna hz1 ⊢
      have hq0 : 0 ≤ q / 5 % 4 := Int.emod_nonneg _ (by decide)
      have hq1 : q / 5 % 4 < 4 := Int.emod_lt_of_pos _ (by decide)
      refine q_for (ei_rng1 (ea_cons (ev_op (by walk_at "ev") (by walk_at "ev") (od_mod (by decide))) ea_nil) (by omega) (by omega)) (fun j ρ => ∃ s7 : Sl, ρ = [.fr (.list (ps.map PyData.int)), .fr (.int b), .fr (.int m), .fr (.str l), .ow (.list (ns.map PyData.str)), .fr (.int i), .fr (.int q), .fr (.str (tailS z1 q j)), s7]) ⟨_, rfl⟩ ?_ ?_
      · rintro j ρ hj ⟨s7, rfl⟩
        refine ⟨_, _, gt_name, ?_⟩
        refine st_asg (d := .str (tailS z1 q (j + 1))) (ev_op (by walk_at "ev") (ev_op (by walk_at "ev") (ev_op (ev_op (by walk_at "ev") (by walk_at "ev") od_addI) (by walk_at "ev") (od_mod (by decide))) (od_ixS (by decide) (ch_at (Int.emod_nonneg _ (by decide)) (by rw [len8]; exact Int.emod_lt_of_pos _ (by decide))))) (od_addS ?_)) ⟨_, rfl⟩
        rw [tail_len, len_one, sizeLine_eq]
        omega
      rintro ρ ⟨s7', rfl⟩
      have htl := tail_len z1 q (q / 5 % 4).toNat
      generalize tailS z1 q (q / 5 % 4).toNat = z2 at hna htl ⊢
      have hz2 : z2.length ≤ sizeLine := by rw [sizeLine_eq]; omega
      obtain ⟨hk1, hk2⟩ := str_k i (by omega)
      refine q_ifAsg (i := 7) (d := .str (l ++ strI (1000 + (i : Nat)))) (d' := .str z2) rfl (et_or (by walk_at "et") fun _ => et_test (ev_inO (by walk_at "ev") rfl rfl (strs_flat _))) (fun _ => ev_op (by walk_at "ev") (ev_cb (by walk_at "ea") (cd_strI hk2)) (od_addS ?_)) ?_
      · rw [hk1, hl1, sizeLine_eq]
        decide
      rw [ite_str]
      rw [← hna _ rfl]
      refine st_append rfl (by walk_at "ev") (by rw [List.length_map]; omega) ?_
      rw [List.map_append]
      exact ⟨_, _, _, _, rfl⟩
    · rintro ρ ⟨s4, s5, s6, s7, rfl⟩
      exact q_frz (i := 4) rfl (st_ret (by walk_at "ev") rfl)

theorem goodL_app {a b : List Nat} (h : goodL a) (k : ∀ x ∈ b, x ∈ sL.cps.toList ∨ x ∈ sF.cps.toList) : goodL (a ++ b) := by
  cases a with
  | nil => exact h.elim
  | cons c r =>
    refine ⟨h.1, fun x hx => ?_⟩
    rcases List.mem_append.mp hx with hx | hx
    · exact h.2 x hx
    · exact k x hx
def qk (l : Str) (k : Nat) : Str := l ++ strI (1000 + (k : Nat))
def hd0 (l : Str) : Nat := l.cps.toList.headD 0
def qx : List Str := ["q", "x"]
theorem qk_facts : ∀ l ∈ qx, ∀ k : Nat, k < 51 → ((qk l k).cps.toList.head? = some (hd0 l) ∧ (qk l k).length = 5 ∧ (hd0 l ∈ sL.cps.toList) ∧ ((qk l k).cps.toList.tail.all fun x => decide (x ∈ sL.cps.toList) || decide (x ∈ sF.cps.toList)) = true) ∧ ∀ j : Nat, j < 51 → qk l j = qk l k → j = k := by decide +kernel
theorem qx_one : ∀ l ∈ qx, l.length = 1 := by decide +kernel
theorem qk_good {l : Str} (hq : l ∈ qx) {k : Nat} (h : k < 51) : goodS (qk l k) := by
  obtain ⟨⟨h1, _, h3, h4⟩, _⟩ := qk_facts l hq k h
  unfold goodS
  cases e : (qk l k).cps.toList with
  | nil => rw [e] at h1; cases h1
  | cons c r =>
    rw [e] at h1 h4
    injection h1 with h1
    subst h1
    refine ⟨h3, fun x hx => ?_⟩
    have := List.all_eq_true.mp h4 x hx
    simpa using this
theorem head_facts : ∀ l ∈ qx, ∀ i : Nat, i < 23 → ("abcdefghijklmnoprstuvwy" : Str).cps.toList.getD i 0 ∈ sL.cps.toList ∧ ("abcdefghijklmnoprstuvwy" : Str).cps.toList.getD i 0 ≠ hd0 l := by decide +kernel
theorem tail_facts : ∀ i : Nat, i < 8 → ("0xbz9enw" : Str).cps.toList.getD i 0 ∈ sL.cps.toList ∨ ("0xbz9enw" : Str).cps.toList.getD i 0 ∈ sF.cps.toList := by decide +kernel
theorem tail_good {z : Str} {p : Int} (h : goodS z) : ∀ n, goodS (tailS z p n)
  | 0 => h
  | n + 1 => by
    unfold tailS goodS
    rw [app_list]
    refine goodL_app (tail_good h n) fun x hx => ?_
    rw [chS_list] at hx
    rw [List.mem_singleton.mp hx]
    exact tail_facts _ (mod_nat (k := 8) rfl (by decide))
theorem tail_head {z : Str} {p : Int} (h : goodS z) : ∀ n, (tailS z p n).cps.toList.head? = z.cps.toList.head?
  | 0 => rfl
  | n + 1 => by
    unfold tailS
    rw [app_list, ← tail_head h n]
    have := tail_good (p := p) h n
    unfold goodS at this
    cases e : (tailS z p n).cps.toList with
    | nil => rw [e] at this; exact this.elim
    | cons c r => rfl
def Fr (l : Str) (n : Nat) (z : Str) : Prop := (∃ j, j < n ∧ z = qk l j) ∨ z.cps.toList.head? ≠ some (hd0 l) ∨ 5 < z.length
theorem tail_fr {l : Str} (hq : l ∈ qx) {z : Str} {p : Int} {n : Nat} (hn : n ≤ 51) (hg : goodS z) (h : Fr l n z) (t : Nat) : Fr l (n + 1) (tailS z p t) := by
  have hl := tail_len z p t
  rcases h with ⟨j, hj, rfl⟩ | h | h
  · cases t with
    | zero => exact .inl ⟨j, by omega, rfl⟩
    | succ t =>
      have := (qk_facts l hq j (by omega)).1.2.1
      exact .inr (.inr (by omega))
  · exact .inr (.inl (by rw [tail_head hg]; exact h))
  · exact .inr (.inr (by omega))
theorem names_all {l : Str} (hq : l ∈ qx) (ps : List Int) (b : Int) : ∀ n, n ≤ 51 → (∀ z ∈ namesK l ps b n, goodS z ∧ Fr l n z) ∧ (namesK l ps b n).Nodup
  | 0, _ => ⟨fun z h => (by cases h), List.nodup_nil⟩
  | n + 1, hn => by
    obtain ⟨ih, nd⟩ := names_all hq ps b n (by omega)
    have hl := namesK_len l ps b n
    unfold namesK
    generalize namesK l ps b n = ns at ih nd hl ⊢
    have key : goodS (nameAt l ps b n ns) ∧ Fr l (n + 1) (nameAt l ps b n ns) ∧ nameAt l ps b n ns ∉ ns := by
      unfold nameAt
      dsimp only
      generalize pI ps (b + (n : Nat)) = p
      have h0 : goodS (chS "abcdefghijklmnoprstuvwy" (p % 23)) ∧ Fr l n (chS "abcdefghijklmnoprstuvwy" (p % 23)) := by
        obtain ⟨f1, f2⟩ := head_facts l hq (p % 23).toNat (mod_nat (k := 23) rfl (by decide))
        refine ⟨⟨f1, fun x hx => (by cases hx)⟩, .inr (.inl ?_)⟩
        rw [chS_list]
        intro e
        injection e with e
        exact f2 e
      have h1 : goodS (if (decide (p / 23 % 5 = 0) && decide ((n : Int) > 0)) = true then ns.getD (n - 1) Str.empty else chS "abcdefghijklmnoprstuvwy" (p % 23)) ∧ Fr l n (if (decide (p / 23 % 5 = 0) && decide ((n : Int) > 0)) = true then ns.getD (n - 1) Str.empty else chS "abcdefghijklmnoprstuvwy" (p % 23)) := by
        split
        · rename_i hc
          rw [Bool.and_eq_true, decide_eq_true_eq, decide_eq_true_eq] at hc
          have hlt : n - 1 < ns.length := by omega
          rw [List.getD_eq_getElem?_getD, List.getElem?_eq_getElem hlt]
          exact ih _ (List.getElem_mem hlt)
        · exact h0
      generalize (if (decide (p / 23 % 5 = 0) && decide ((n : Int) > 0)) = true then ns.getD (n - 1) Str.empty else chS "abcdefghijklmnoprstuvwy" (p % 23)) = z1 at h1 ⊢
      have g2 := tail_good (p := p / 23) h1.1 (p / 23 / 5 % 4).toNat
      have f2 := tail_fr hq (p := p / 23) (by omega) h1.1 h1.2 (p / 23 / 5 % 4).toNat
      generalize tailS z1 (p / 23) (p / 23 / 5 % 4).toNat = z2 at g2 f2 ⊢
      split
      · refine ⟨qk_good hq (by omega), .inl ⟨n, by omega, rfl⟩, fun hm => ?_⟩
        obtain ⟨⟨q1, q2, _, _⟩, q3⟩ := qk_facts l hq n (by omega)
        rcases (ih _ hm).2 with ⟨j, hj, e⟩ | e | e
        · have := q3 j (by omega) e.symm
          omega
        · exact e q1
        · have e : 5 < (qk l n).length := e
          omega
      · rename_i hc
        refine ⟨g2, f2, fun hm => hc ?_⟩
        rw [inD_str, decide_eq_true hm, Bool.or_true]
    refine ⟨fun z hz => ?_, ?_⟩
    · rcases List.mem_append.mp hz with hz | hz
      · refine ⟨(ih z hz).1, ?_⟩
        rcases (ih z hz).2 with ⟨j, hj, e⟩ | e | e
        · exact .inl ⟨j, by omega, e⟩
        · exact .inr (.inl e)
        · exact .inr (.inr e)
      · rw [List.mem_singleton.mp hz]
        exact ⟨key.1, key.2.1⟩
    · refine List.nodup_append.mpr ⟨nd, List.nodup_cons.mpr ⟨fun h => (by cases h), List.nodup_nil⟩, fun a ha c hc e => ?_⟩
      rw [List.mem_singleton.mp hc] at e
      subst e
      exact key.2.2 ha
def TouchOk (rs : List Str) (t : Str × Str) : Prop := t.1 ∈ rs ∧ t.2 ∈ rs ++ sides4
theorem lcD_ex {α : Type} {Pr : α → Prop} {h : α → D} {b : Nat → Bool} {f : Nat → D} : ∀ {n : Nat}, (∀ i, i < n → b i = true → ∃ x, Pr x ∧ f i = h x) → ∃ xs : List α, lcD n b f = xs.map h ∧ xs.length ≤ n ∧ ∀ x ∈ xs, Pr x
  | 0, _ => ⟨[], rfl, Nat.le_refl _, fun x h => (by cases h)⟩
  | n + 1, hf => by
    obtain ⟨xs, e, hl, hp⟩ := lcD_ex (n := n) (h := h) fun i hi => hf i (by omega)
    unfold lcD
    cases q : b n with
    | false => exact ⟨xs, by rw [if_neg Bool.false_ne_true, e], by omega, hp⟩
    | true =>
      obtain ⟨x, h1, h2⟩ := hf n (by omega) q
      refine ⟨xs ++ [x], by rw [if_pos rfl, e, h2, List.map_append]; rfl, by rw [List.length_append]; simp; omega, fun y hy => ?_⟩
      rcases List.mem_append.mp hy with m | m
      · exact hp y m
      · rw [List.mem_singleton.mp m]
        exact h1
theorem nm_ok {l : Str} (hq : l ∈ qx) (ps : List Int) (b : Int) {n : Nat} (hn : n ≤ 50) : (namesK l ps b n).Nodup ∧ (∀ z ∈ namesK l ps b n, goodS z ∧ z.length ≤ 8) ∧ (namesK l ps b n).length = n :=
  ⟨(names_all hq ps b n (by omega)).2, fun z hz => ⟨((names_all hq ps b n (by omega)).1 z hz).1, namesK_small (qx_one l hq) ps b n (by omega) z hz⟩, namesK_len l ps b n⟩
theorem s4_str : sides4.map PyData.str = [.str "E", .str "N", .str "W", .str "S"] := rfl
theorem pick_at {zs : List Str} {x : Int} {m : Int} (hm : m = (zs.length : Nat)) (h : 0 < zs.length) : atI (zs.map PyData.str) (x % m) = some (.str (zs.getD (x % m).toNat Str.empty)) := by
  subst hm
  exact atI_strs (Int.emod_nonneg _ (by omega)) (Int.emod_lt_of_pos _ (by omega))
theorem pick_mem {zs : List Str} {x : Int} {m : Int} (hm : m = (zs.length : Nat)) (h : 0 < zs.length) : zs.getD (x % m).toNat Str.empty ∈ zs := getD_mem (mod_nat hm h)
theorem ws_of {rs : List Str} {ts : List (Str × Str)} (R : Rooms rs) (ht : ∀ t ∈ ts, TouchOk rs t) (htl : ts.length ≤ 75) : WS (srt ltS rs) (srt ltQ (pairsOf ts)) := by
  have hm : ∀ z, z ∈ srt ltS rs ++ sides4 ↔ z ∈ rs ++ sides4 := fun z => by rw [List.mem_append, List.mem_append, mem_srt]
  have p2 : ∀ p ∈ pairsOf ts, ltS p.1 p.2 = true ∧ p.1 ∈ rs ++ sides4 ∧ p.2 ∈ rs ++ sides4 ∧ (p.1 ∈ rs ∨ p.2 ∈ rs) := fun p hp => by
    rcases (pairs_fold ts p []).mp hp with e | ⟨t, h, hne, rfl⟩
    · cases e
    · obtain ⟨t1, t2⟩ := ht t h
      unfold ordQ
      cases q : ltS t.1 t.2 with
      | true =>
        rw [if_pos rfl]
        exact ⟨q, List.mem_append_left _ t1, t2, .inl t1⟩
      | false =>
        rw [if_neg Bool.false_ne_true]
        refine ⟨?_, t2, List.mem_append_left _ t1, .inr t1⟩
        cases q2 : ltS t.2 t.1 with
        | true => rfl
        | false => exact absurd (ltS_eq q q2) hne
  refine ⟨by rw [srt_len]; exact R.many, fun z hz => R.good z (mem_srt.mp hz), sorted_lt stoS (srt_pw stoS rs) ((srt_perm (lt := ltS) rs).nodup_iff.mpr R.nd), fun p hp => (p2 p (mem_srt.mp hp)).1, fun p hp => ?_, ?_⟩
  · obtain ⟨_, b, c, d⟩ := p2 p (mem_srt.mp hp)
    exact ⟨(hm _).mpr b, (hm _).mpr c, d.imp mem_srt.mpr mem_srt.mpr⟩
  · rw [srt_len]
    exact Nat.le_trans (pairs_len ts) htl
theorem ok_u_law_drawn (T : Txt K mg) (hd : FnP K "_law_drawn" s_u_law_drawn) (hm : mg "_law_drawn" = some (.ref (He.ga K "_law_drawn"))) (O_u_law_scheme : Okd P w K mg base CX0 1 "_law_scheme" ["rooms", "touches"] (sp_u_law_scheme K)) : Okd P w K mg base CX0 2 "_law_drawn" ["rooms", "pool", "begin", "many"] (sp_u_law_drawn K) := by
  obtain ⟨fd, F⟩ := hd
  refine ⟨hm, fd, fn_pq F sc_u_law_drawn ?_ (fun cdv A outer s H E hr => ⟨_, dv_u_law_drawn T O_u_law_scheme cdv A outer s H E hr, ?_⟩), F.bindsN (fun _ _ _ _ _ _ us hl => match us, hl with | [_, _, _, _], _ => rfl), F.kp⟩
  · rintro ds ⟨x0, x1, x2, x3, rfl, _⟩
    rfl
  · rintro ds ⟨rs, ps, b, m, rfl, R, hb, hm0, hm1, hl⟩
    have r1 := R.some
    have r2 := R.many
    show ST K E0 (t_u_law_drawn K) [.fr (.list (rs.map PyData.str)), .fr (.list (ps.map PyData.int)), .fr (.int b), .fr (.int m), .no, .no, .no] _
    unfold t_u_law_drawn sp_u_law_scheme
    refine q_asgN (d := .list (([] : List (Str × Str)).map pqD)) (by exact en_lst ea_nil (Nat.zero_le _)) ?_
    refine q_asg (d := .list ((rs ++ sides4).map PyData.str)) (ev_is (ev_N (by walk_at "evn")) (by rw [List.map_append]; rfl)) ?_
    refine q_for (ei_rng1 (by walk_at "ea") (by omega) (by omega)) (fun i ρ => ∃ (ts : List (Str × Str)) (s6 : Sl), ts.length = i ∧ (∀ t ∈ ts, TouchOk rs t) ∧ ρ = [.fr (.list (rs.map PyData.str)), .fr (.list (ps.map PyData.int)), .fr (.int b), .fr (.int m), .ow (.list (ts.map pqD)), .fr (.list ((rs ++ sides4).map PyData.str)), s6]) ⟨[], _, rfl, fun t h => (by cases h), rfl⟩ ?_ ?_
    · rintro i ρ hi ⟨ts, s6, hl2, ht, rfl⟩
      refine ⟨_, _, gt_name, ?_⟩
      have hpi : EV K (tOp (rIx K) (tVar 1) (tOp (rAddU K) (tVar 2) (tVar 6))) [.fr (.list (rs.map PyData.str)), .fr (.list (ps.map PyData.int)), .fr (.int b), .fr (.int m), .ow (.list (ts.map pqD)), .fr (.list ((rs ++ sides4).map PyData.str)), .fr (.int (i : Nat))] (.int (pI ps (b + (i : Nat)))) := ev_op (by walk_at "ev") (by walk_at "ev") (od_ixL (pI_get (by omega) (by omega)))
      generalize pI ps (b + (i : Nat)) = x at hpi
      have hl4 : 0 < (rs ++ sides4).length := by rw [List.length_append]; omega
      obtain ⟨t, hte⟩ : ∃ t : Str × Str, t = (rs.getD (x % ((rs.map PyData.str).length : Nat)).toNat Str.empty, (rs ++ sides4).getD (x / 41 % (((rs ++ sides4).map PyData.str).length : Nat)).toNat Str.empty) := ⟨_, rfl⟩
      have htk : TouchOk rs t := by rw [hte]; exact ⟨pick_mem (by rw [List.length_map]) (by omega), pick_mem (by rw [List.length_map]) hl4⟩
      refine st_append (ds := ts.map pqD) (d := pqD t) (by rfl) (by rw [hte]; exact (ev_tup (ea_cons (ev_op (by walk_at "ev") (ev_op hpi (by walk_at "ev") (od_mod (by rw [List.length_map]; omega))) (od_ixL (pick_at (by rw [List.length_map]) (by omega)))) (ea_cons (ev_op (by walk_at "ev") (ev_op (ev_op hpi (by walk_at "ev") (od_div (by decide))) (by walk_at "ev") (od_mod (by rw [List.length_map]; omega))) (od_ixL (pick_at (by rw [List.length_map]) hl4))) ea_nil)) (by show 2 ≤ sizeLine; rw [sizeLine_eq]; decide))) (by rw [List.length_map]; omega) ?_
      refine ⟨ts ++ [t], _, by rw [List.length_append, hl2]; rfl, fun u h => ?_, by rw [List.map_append (l₁ := ts)]; rfl⟩
      rcases List.mem_append.mp h with h | h
      · exact ht u h
      · rw [List.mem_singleton.mp h]
        exact htk
    · rintro ρ ⟨ts, s6, hl2, ht, rfl⟩
      have htl : ts.length ≤ 75 := by omega
      refine q_frz (i := 4) rfl (st_ret (ev_call (by walk_at "ea") ⟨rs, ts, rfl, by omega, htl, rfl⟩) ?_)
      exact ⟨_, rfl, rs, _, _, rfl, rfl, ws_of R ht htl⟩

theorem put_bS2 {ys : List Str} {y : Str} (h : y ∈ ys) : putG (bS ys) (.inr y) (.bool true) = bS ys := by
  unfold putG
  rw [if_pos]
  · unfold bS
    rw [List.map_map]
    refine List.map_congr_left fun z _ => ?_
    show (if ((.inr z : Key) = .inr y) then ((.inr z : Key), PyData.bool true) else (.inr z, .bool true)) = _
    split <;> rfl
  · rw [List.any_eq_true]
    exact ⟨((.inr y : Key), .bool true), List.mem_map.mpr ⟨y, h, rfl⟩, decide_eq_true rfl⟩
def addS (ys : List Str) (y : Str) : List Str := if y ∈ ys then ys else ys ++ [y]
def onceS (l : List Str) : List Str := l.foldl addS []
theorem put_add (ys : List Str) (y : Str) : putG (bS ys) (.inr y) (.bool true) = bS (addS ys y) := by
  unfold addS
  split
  · rename_i h
    exact put_bS2 h
  · rename_i h
    exact put_bS h
theorem once_take {l : List Str} {i : Nat} (hi : i < l.length) : onceS (l.take (i + 1)) = addS (onceS (l.take i)) (l.getD i Str.empty) := by
  unfold onceS
  rw [take_one hi Str.empty, List.foldl_append]
  rfl
theorem add_mem (ys : List Str) (y x : Str) : x ∈ addS ys y ↔ x ∈ ys ∨ x = y := by
  unfold addS
  split
  · rename_i h
    exact ⟨.inl, fun e => e.elim id fun e => e ▸ h⟩
  · rw [List.mem_append, List.mem_singleton]
theorem add_nd {ys : List Str} (nd : ys.Nodup) (y : Str) : (addS ys y).Nodup := by
  unfold addS
  split
  · exact nd
  · rename_i hn
    refine List.nodup_append.mpr ⟨nd, List.nodup_cons.mpr ⟨fun h => (by cases h), List.nodup_nil⟩, fun a ha c hc e => hn ?_⟩
    rw [List.mem_singleton.mp hc] at e
    exact e ▸ ha
theorem once_fold (l : List Str) : ∀ ys, ys.Nodup → (l.foldl addS ys).Nodup ∧ ∀ x, x ∈ l.foldl addS ys ↔ x ∈ ys ∨ x ∈ l := by
  induction l with
  | nil => exact fun ys nd => ⟨nd, fun x => ⟨.inl, fun e => e.elim id fun e => by cases e⟩⟩
  | cons a r ih =>
    intro ys nd
    obtain ⟨h1, h2⟩ := ih (addS ys a) (add_nd nd a)
    refine ⟨h1, fun x => ?_⟩
    rw [List.foldl_cons, h2, add_mem, List.mem_cons, or_assoc]
theorem once_len (l : List Str) : (onceS l).length = (dd l).length := by
  obtain ⟨h1, h2⟩ := once_fold l [] List.nodup_nil
  exact (dd_perm h1 fun x => (h2 x).trans ⟨fun e => e.elim (fun e => by cases e) id, .inr⟩).length_eq
theorem bS_len (ys : List Str) : (bS ys).length = ys.length := List.length_map _
theorem ren_same {rs : List Str} {ps us : List (Str × Str)} (W : WS rs ps) (h : RnOk rs us) : samS (lawD (rs.map (rn us)) (ps.map (both (rn us)))) := by
  have hm := W.many
  have hf := W.few
  have g : ∀ z, z ∈ rs ++ sides4 → (rn us z).length ≤ 1000 := fun z hz => by
    rcases List.mem_append.mp hz with hz | hz
    · have := (rn_good W h hz).2
      omega
    · rw [rn_side W h hz]
      exact (by decide +kernel : ∀ z ∈ sides4, z.length ≤ 1000) z hz
  refine samS_law (by rw [List.length_map]; omega) (by rw [List.length_map]; omega) (fun z hz => ?_) fun t ht => ?_
  · obtain ⟨y, hy, rfl⟩ := List.mem_map.mp hz
    exact g y (List.mem_append_left _ hy)
  · obtain ⟨p, hp, rfl⟩ := List.mem_map.mp ht
    obtain ⟨h1, h2, _⟩ := W.one p hp
    exact ⟨g _ h1, g _ h2⟩
theorem sid_same {rs : List Str} {ps : List (Str × Str)} (W : WS rs ps) {g : Str → Str} (hg : ∀ s ∈ sides4, g s ∈ sides4) : samS (lawD (rs.map (sg g)) (ps.map (both (sg g)))) := by
  have hm := W.many
  have hf := W.few
  have g : ∀ z, z ∈ rs ++ sides4 → (sg g z).length ≤ 1000 := fun z hz => by
    unfold sg
    split
    · rename_i h
      exact (by decide +kernel : ∀ z ∈ sides4, z.length ≤ 1000) _ (hg z h)
    · rename_i h
      have := (W.good z ((List.mem_append.mp hz).resolve_right h)).2
      omega
  refine samS_law (by rw [List.length_map]; omega) (by rw [List.length_map]; omega) (fun z hz => ?_) fun t ht => ?_
  · obtain ⟨y, hy, rfl⟩ := List.mem_map.mp hz
    exact g y (List.mem_append_left _ hy)
  · obtain ⟨p, hp, rfl⟩ := List.mem_map.mp ht
    obtain ⟨h1, h2, _⟩ := W.one p hp
    exact ⟨g _ h1, g _ h2⟩
theorem ok_u_law_renamed (T : Txt K mg) (hd : FnP K "_law_renamed" s_u_law_renamed) (hm : mg "_law_renamed" = some (.ref (He.ga K "_law_renamed"))) (O_renamed_scheme : Okd P w K mg base (L2N.CX P w) 4 "renamed_scheme" ["scheme", "pairs"] (sp_renamed_scheme K)) (O_u_law_same : Okd P w K mg base CX0 3 "_law_same" ["told", "due"] (sp_u_law_same K)) (O_u_law_mapped : Okd P w K mg base CX0 2 "_law_mapped" ["scheme", "names"] (sp_u_law_mapped K)) (X_BadStep : ExOk P w K mg base 1 "BadStep" ["word"]) : Okd P w K mg base CX0 5 "_law_renamed" ["scheme", "pairs"] (sp_u_law_renamed K) := by
  obtain ⟨fd, F⟩ := hd
  refine ⟨hm, fd, fn_pf F sc_u_law_renamed ?_ (fun cdv A outer s H E hr => ⟨_, dv_u_law_renamed T O_renamed_scheme O_u_law_same O_u_law_mapped X_BadStep cdv A outer s H E hr, ?_⟩), F.bindsN (fun _ _ _ _ _ _ us hl => match us, hl with | [_, _], _ => rfl), F.kp⟩
  · rintro ds d ⟨x0, x1, x2, rfl, _⟩
    rfl
  · rintro ds d ⟨rs, ps, us, rfl, W, h, rfl⟩
    have hm := W.many
    have hf := W.few
    have hu := h.1
    refine ST.mono (P := fun o => o = .rt (.bool true)) ?_ fun o h => .inl h
    show ST K E0 (t_u_law_renamed K) [.fr (schD rs ps), .fr (.list (us.map pqD)), .no, .no, .no, .no, .no, .no, .no, .no, .no] _
    unfold t_u_law_renamed sp_renamed_scheme sp_u_law_mapped sp_u_law_same
    refine q_asgN (d := dkD (dcS (us.take 0))) (by exact en_dnewK) ?_
    refine q_for (ei_listQ (qs := us) (ev_var rfl)) (fun i ρ => ∃ s3 s4 : Sl, ρ = [.fr (schD rs ps), .fr (.list (us.map pqD)), .ow (dkD (dcS (us.take i))), s3, s4, .no, .no, .no, .no, .no, .no]) ⟨_, _, rfl⟩ ?_ ?_
    · rintro i ρ hi ⟨s3, s4, rfl⟩
      refine ⟨_, _, gt_tup rfl (gts_cons gt_name (gts_cons gt_name gts_nil)), ?_⟩
      rw [dcS_take hi]
      have := dcS_len (us.take i)
      have h2 : (us.take i).length ≤ us.length := by rw [List.length_take]; exact Nat.min_le_right _ _
      exact st_dputK (k := .inr (us.getD i (Str.empty, Str.empty)).1) rfl (ev_var (by rfl)) (by rfl) (ev_var (by rfl)) (by omega) ⟨_, _, rfl⟩
    rintro ρ ⟨s3, s4, rfl⟩
    rw [List.take_length]
    refine q_frz (i := 2) rfl ?_
    have e1 := range_getD (fun z => PyData.str (rn us z)) Str.empty rs
    refine q_asgN (d := .list ((rs.map (rn us)).map PyData.str)) (en_is (en_lc (n := rs.length) (b := fun _ => true) (f := fun i => .str (rn us (rs.getD i Str.empty))) (ei_tupS (ev_s0 (ev_var rfl))) (by omega) fun i hi => ⟨_, _, gt_name, by simp, et_yes, fun _ => ev_is (ev_get2 (kvs := dcS us) (k := .inr (rs.getD i Str.empty)) (ev_var (by rfl)) (ev_var (by rfl)) (by rfl) (ev_var (by rfl))) (dcS_rn us _)⟩) (congrArg PyData.list ?_)) ?_
    · rw [lcD_map, e1, List.map_map]
      rfl
    refine q_frz (i := 5) rfl ?_
    have hzl : (rs.map (rn us)).length = rs.length := List.length_map _
    refine q_asgN (d := dkD (bS (onceS ((rs.map (rn us)).take 0)))) (by exact en_dnewK) ?_
    refine q_for (ei_listS (zs := rs.map (rn us)) (ev_var rfl)) (fun i ρ => ∃ s8 : Sl, ρ = [.fr (schD rs ps), .fr (.list (us.map pqD)), .fr (dkD (dcS us)), s3, s4, .fr (.list ((rs.map (rn us)).map PyData.str)), .no, .ow (dkD (bS (onceS ((rs.map (rn us)).take i)))), s8, .no, .no]) ⟨_, rfl⟩ ?_ ?_
    · rintro i ρ hi ⟨s8, rfl⟩
      refine ⟨_, _, gt_name, ?_⟩
      rw [once_take hi, ← put_add]
      have h1 := once_len ((rs.map (rn us)).take i)
      have h2 := dd_len ((rs.map (rn us)).take i)
      have h3 : ((rs.map (rn us)).take i).length ≤ (rs.map (rn us)).length := by rw [List.length_take]; exact Nat.min_le_right _ _
      exact st_dputK (k := .inr ((rs.map (rn us)).getD i Str.empty)) rfl (ev_var (by rfl)) (by rfl) (by walk_at "ev") (by rw [bS_len]; omega) ⟨_, rfl⟩
    rintro ρ ⟨s8, rfl⟩
    rw [List.take_length]
    refine q_frz (i := 7) rfl ?_
    have hk : (bS (onceS (rs.map (rn us)))).length = (dd (rs.map (rn us))).length := by rw [bS_len, once_len]
    have key : (dd (rs.map (rn us))).length < rs.length ↔ ¬(rs.map (rn us)).Nodup := by
      have := dd_nodup (l := rs.map (rn us))
      rw [List.length_map] at this
      exact this
    by_cases nd : (rs.map (rn us)).Nodup
    · refine st_seq (st_tryA (ea_cons (ev_var rfl) (ea_cons (ev_cb (ea_cons (ev_var rfl) ea_nil) cd_tupL) ea_nil)) (.inl ⟨_, ⟨rs, ps, us, rfl, W, h, nd, rfl⟩, ?_⟩))
      refine st_ret (ev_is (ev_andV (b := true) (ev_is (ev_op (ev_lenDK (kvs := bS (onceS (rs.map (rn us)))) (ev_var (by rfl))) (ev_cb (ea_cons (ev_var (by rfl)) ea_nil) cd_lenL) od_eqI) (congrArg PyData.bool (decide_eq_true ?_))) fun _ => ev_call (ea_cons (ev_var (by rfl)) (ea_cons (ev_call (ea_cons (ev_var rfl) (ea_cons (ev_var rfl) ea_nil)) ⟨rs, ps, dcS us, rn us, rfl, hm, hf, fun z _ => dcS_rn us z, rfl⟩) ea_nil)) ⟨_, ?_, ren_same W h, rfl⟩) rfl) (by rfl)
      · rw [hk, dd_of nd, List.length_map, List.length_map, List.length_map]
      · rw [ren_law W h nd]
    · refine st_seq (st_tryA (ea_cons (ev_var rfl) (ea_cons (ev_cb (ea_cons (ev_var rfl) ea_nil) cd_tupL) ea_nil)) (.inr ⟨_, _, ⟨rs, ps, us, rfl, W, h, nd, rfl, rfl⟩, T.e_BadStep_PlanError, fun a dd => ?_⟩))
      unfold ts_u_law_renamed
      have isR : ∀ {c : Addr} {b : Bool} (ρ : List Sl), ρ[10]? = some (Sl.ex a dd [(("word" : Str), .str "name")]) → PySem.W.kitOne K (.ref (He.ga K "BadStep")) (.ref c) = some b → EV K (tCB (rIsX K (.ref (He.ga K "BadStep")) (some dd) a) (tCons (tVar 10) (tCons (tC (.ref c)) tNil))) ρ (.bool b) := fun ρ h k => ev_isX h T.x_BadStep.exc (fun _ z => z) k
      refine q_no (et_is (et_or (et_not (et_trB (isR _ rfl T.k_BadStep_BadStep))) fun _ => et_not (et_trB (isR _ rfl T.k_BadStep_CallError))) (by rfl)) ?_
      refine q_no (et_is (et_or (et_trB (isR _ rfl T.k_BadStep_DataError)) fun _ => et_trB (isR _ rfl T.k_BadStep_NoHouse)) (by rfl)) ?_
      refine st_ret (d := .bool true) (ev_is (d := .bool (true && (true && true))) ?_ rfl) rfl
      refine ev_andV (ev_is (ev_op (ev_lenDK (kvs := bS (onceS (rs.map (rn us)))) (ev_var (by rfl))) (ev_cb (ea_cons (ev_var (by rfl)) ea_nil) cd_lenL) od_cmpI) (congrArg PyData.bool (decide_eq_true ?_))) fun _ => ?_
      · rw [hk, List.length_map, List.length_map]
        have := key.mpr nd
        omega
      refine ev_andV (ev_isi (ev_xf (d := .str "name") rfl rfl) rfl (show kitB _ _ = some true from rfl)) fun _ => ?_
      exact ev_is (ev_op (ev_xf (d := .str "name") rfl rfl) ev_str od_eqS) (congrArg PyData.bool (decide_eq_true rfl))
theorem ok_u_law_moved (T : Txt K mg) (hd : FnP K "_law_moved" s_u_law_moved) (hm : mg "_law_moved" = some (.ref (He.ga K "_law_moved"))) (O_u_law_same : Okd P w K mg base CX0 3 "_law_same" ["told", "due"] (sp_u_law_same K)) (O_mirrored_scheme : Okd P w K mg base CX0 4 "mirrored_scheme" ["scheme"] (sp_mirrored_scheme K)) (O_u_law_mapped : Okd P w K mg base CX0 2 "_law_mapped" ["scheme", "names"] (sp_u_law_mapped K)) (O_turned_scheme : Okd P w K mg base CX0 4 "turned_scheme" ["scheme", "n"] (sp_turned_scheme K)) : Okd P w K mg base CX0 5 "_law_moved" ["scheme", "numbers"] (sp_u_law_moved K) := by
  obtain ⟨fd, F⟩ := hd
  refine ⟨hm, fd, fn_pf F sc_u_law_moved ?_ (fun cdv A outer s H E hr => ⟨_, dv_u_law_moved T O_u_law_same O_mirrored_scheme O_u_law_mapped O_turned_scheme cdv A outer s H E hr, ?_⟩), F.bindsN (fun _ _ _ _ _ _ us hl => match us, hl with | [_, _], _ => rfl), F.kp⟩
  · rintro ds d ⟨x0, x1, x2, rfl, _⟩
    rfl
  · rintro ds d ⟨rs, ps, ns, rfl, W, hn, rfl⟩
    have hm := W.many
    have hf := W.few
    refine ST.mono (P := fun o => o = .rt (.bool true)) ?_ fun o h => .inl h
    show ST K E0 (t_u_law_moved K) [.fr (schD rs ps), .fr (.list (ns.map PyData.int)), .no, .no, .no, .no] _
    unfold t_u_law_moved sp_turned_scheme sp_mirrored_scheme sp_u_law_mapped sp_u_law_same
    refine q_asg (d := .list (sides4.map PyData.str)) (ev_is (ev_N (by walk_at "evn")) (by rfl)) ?_
    refine q_for (ei_list (ds := ns.map PyData.int) (ev_var rfl)) (fun _ ρ => ∃ s3 s4 s5 : Sl, ρ = [.fr (schD rs ps), .fr (.list (ns.map PyData.int)), .fr (.list (sides4.map PyData.str)), s3, s4, s5]) ⟨_, _, _, rfl⟩ ?_ ?_
    · rintro i ρ hi ⟨s3, s4, s5, rfl⟩
      rw [List.length_map] at hi
      rw [getD_map_int hi]
      generalize ns.getD i 0 = n
      refine ⟨_, _, gt_name, ?_⟩
      refine q_asgN (d := dkD ((sides4.take 0).map fun s => ((.inr s : Key), PyData.str (turnS n s)))) (by exact en_dnewK) ?_
      refine q_for (ei_rng1 (n := 4) (by walk_at "ea") (by decide) (by decide)) (fun k ρ => ∃ s5 : Sl, ρ = [.fr (schD rs ps), .fr (.list (ns.map PyData.int)), .fr (.list (sides4.map PyData.str)), .fr (.int n), .ow (dkD ((sides4.take k).map fun s => ((.inr s : Key), PyData.str (turnS n s)))), s5]) ⟨_, rfl⟩ ?_ ?_
      · rintro k ρ hk ⟨s5, rfl⟩
        have hk : k < 4 := by omega
        refine ⟨_, _, gt_name, ?_⟩
        have e := dcD_rooms (turnS n) sides_nd (k + 1) (by show k + 1 ≤ 4; omega)
        have e0 := dcD_rooms (turnS n) sides_nd k (by show k ≤ 4; omega)
        rw [← e, ← e0]
        have hl := dcD_len (fun _ => true) (fun i => (.inr (sides4.getD i Str.empty) : Key)) (fun i => PyData.str (turnS n (sides4.getD i Str.empty))) k
        have m4 : 0 ≤ (((k : Nat) : Int) + n) % 4 ∧ (((k : Nat) : Int) + n) % 4 < 4 := ⟨Int.emod_nonneg _ (by decide), Int.emod_lt_of_pos _ (by decide)⟩
        refine st_dputK (k := .inr (sides4.getD k Str.empty)) (d := .str (turnS n (sides4.getD k Str.empty))) rfl (ev_op (ev_var (by rfl)) (ev_var (by rfl)) (od_ixL (atI_strs (i := ((k : Nat) : Int)) (by omega) (by show ((k : Nat) : Int) < 4; omega)))) (by rfl) (ev_is (ev_op (ev_var (by rfl)) (ev_op (ev_op (ev_var (by rfl)) (ev_var (by rfl)) od_addI) ev_int (od_mod (by decide))) (od_ixL (atI_strs (ys := sides4) m4.1 (by show _ < ((4 : Nat) : Int); exact m4.2)))) ?_) (Nat.lt_of_le_of_lt hl (by omega)) ⟨_, rfl⟩
        rw [order_turn n k hk]
      rintro ρ ⟨s5', rfl⟩
      refine q_frz (i := 4) rfl ?_
      show ST K E0 _ [.fr (schD rs ps), .fr (.list (ns.map PyData.int)), .fr (.list (sides4.map PyData.str)), .fr (.int n), .fr (dkD (sdK (turnS n))), s5'] _
      have ht : ∀ s ∈ sides4, turnS n s ∈ sides4 := fun s _ => dirS_side _
      refine DL.st_no (et_is (et_not (et_trB (ev_call (ea_cons (ev_call (ea_cons (ev_var rfl) (ea_cons (ev_var rfl) ea_nil)) ⟨rs, ps, n, rfl, W, rfl⟩) (ea_cons (ev_call (ea_cons (ev_var rfl) (ea_cons (ev_var rfl) ea_nil)) ⟨rs, ps, sdK (turnS n), sg (turnS n), rfl, hm, hf, fun z _ => sdK_get _ z, rfl⟩) ea_nil)) ⟨_, ?_, sid_same W ht, rfl⟩))) (by rfl)) (st_next ⟨_, _, _, rfl⟩)
      rw [sid_law W ht]
    · rintro ρ ⟨s3, s4, s5, rfl⟩
      have ht : ∀ s ∈ sides4, mirrS s ∈ sides4 := fun s _ => dirS_side _
      have hg : ∀ z : Str, (getG (mergeG [] [((.inr "E" : Key), PyData.str "W"), (.inr "W", .str "E")]) (.inr z)).getD (.str z) = .str (sg mirrS z) := fun z => by
        show (getG (putG (putG [] (.inr "E" : Key) (PyData.str "W")) (.inr "W") (.str "E")) (.inr z)).getD (.str z) = _
        rw [getG_put, getG_put]
        by_cases h1 : z ∈ sides4
        · unfold sg
          rw [if_pos h1]
          have ne : ∀ {a b : Str}, a ≠ b → ((.inr a : Key) ≠ .inr b) := fun h e => h (Sum.inr.inj e)
          rcases side_cases h1 with rfl | rfl | rfl | rfl
          · rw [if_neg (ne (by decide +kernel)), if_pos rfl, show mirrS "E" = "W" from by decide +kernel]
            rfl
          · rw [if_neg (ne (by decide +kernel)), if_neg (ne (by decide +kernel)), show mirrS "N" = "N" from by decide +kernel]
            rfl
          · rw [if_pos rfl, show mirrS "W" = "E" from by decide +kernel]
            rfl
          · rw [if_neg (ne (by decide +kernel)), if_neg (ne (by decide +kernel)), show mirrS "S" = "S" from by decide +kernel]
            rfl
        · unfold sg
          rw [if_neg h1, if_neg (fun e => h1 (by rw [← Sum.inr.inj e]; decide +kernel)), if_neg (fun e => h1 (by rw [← Sum.inr.inj e]; decide +kernel))]
          rfl
      refine st_ret (ev_call (ea_cons (ev_call (ea_cons (ev_var rfl) ea_nil) ⟨rs, ps, rfl, W, rfl⟩) (ea_cons (ev_call (ea_cons (ev_var rfl) (ea_cons (ev_N (en_disp (kds := [((.inr "E" : Key), PyData.str "W"), (.inr "W", .str "E")]) ?_ (by decide))) ea_nil)) ⟨rs, ps, _, sg mirrS, rfl, hm, hf, fun z _ => hg z, rfl⟩) ea_nil)) ⟨_, ?_, sid_same W ht, rfl⟩) (by rfl)
      · exact eps_cons ev_str (by rfl) ev_str (eps_cons ev_str (by rfl) ev_str eps_nil)
      · rw [sid_law W ht]

def wayD (us : List (Str × Str)) : D := .list (us.map pqD)
def POk (rs : List Str) (p : Str × Str) : Prop := p.1 ∈ rs ∧ goodS p.2 ∧ p.2.length ≤ 8
theorem fr_at {fs : List Str} {j : Int} (h1 : -(fs.length : Int) ≤ j) (h2 : j < fs.length) : ∃ z ∈ fs, atI (fs.map PyData.str) j = some (.str z) := by
  by_cases h : 0 ≤ j
  · exact ⟨_, getD_mem (z := Str.empty) (i := j.toNat) (by omega), atI_strs h h2⟩
  · refine ⟨_, getD_mem (z := Str.empty) (i := (j + fs.length).toNat) (by omega), ?_⟩
    have := atI_strs (ys := fs) (i := j + fs.length) (by omega) (by omega)
    rw [← this]
    unfold atI ixN
    rw [List.length_map]
    rw [if_neg h, if_pos (by omega), if_pos (by omega), if_pos (by omega)]
section
variable {ρ : List Sl} {te tb : TE} {Ex : XK} {P : Oc → Prop} {u : TS} {rs : List Str}
theorem en_way {wi : TI} {g : TG} {tt : TT} {vs : List Nat} {n : Nat} {item : Nat → D} {b : Nat → Bool} {f : Nat → Str × Str} (hi : EI K wi ρ n item) (hn : n ≤ 41)
    (hs : ∀ i, i < n → ∃ ρ2 ts, GT K g (wipeS ρ vs) (item i) ρ2 ts ∧ (∀ t ∈ ts, t ∈ vs) ∧ ET K tt ρ2 (b i) ∧ (b i = true → EV K te ρ2 (pqD (f i)))) (hf : ∀ i, i < n → b i = true → POk rs (f i)) :
    ∃ us, us.length ≤ n ∧ (∀ p ∈ us, POk rs p) ∧ EVN K (tLc wi g tt te vs) ρ (wayD us) := by
  obtain ⟨xs, e, hl, hp⟩ := lcD_ex (n := n) (Pr := POk rs) (h := pqD) (b := b) (f := fun i => pqD (f i)) fun i hi hb => ⟨f i, hf i hi hb, rfl⟩
  exact ⟨xs, hl, hp, en_is (en_lc (n := n) (b := b) (f := fun i => pqD (f i)) hi (by omega) hs) (congrArg PyData.list e)⟩
theorem q_way {ws : List (List (Str × Str))} {us : List (Str × Str)} (hi : ρ[7]? = some (.ow (.list (ws.map wayD)))) (h : EV K te ρ (wayD us)) (ho : ws.length < 1000) (q : ST K Ex u (ρ.set 7 (.ow (.list ((ws ++ [us]).map wayD)))) P) :
    ST K Ex (tSeq (tDrop (tBM K "list" rAppend (tVar 7) (tCons te tNil))) u) ρ P := by
  refine q_append hi h (by rw [List.length_map]; omega) ?_
  rw [List.map_append] at q
  exact q
theorem rn_app {ws : List (List (Str × Str))} {us : List (Str × Str)} (h : ∀ v ∈ ws, RnOk rs v) (h1 : us.length ≤ 41) (h2 : ∀ p ∈ us, POk rs p) : ∀ v ∈ ws ++ [us], RnOk rs v := fun v hv => by
  rcases List.mem_append.mp hv with m | m
  · exact h v m
  · rw [List.mem_singleton.mp m]
    exact ⟨h1, h2⟩
theorem q_wayE {ws : List (List (Str × Str))} {us : List (Str × Str)} (hi : ρ[7]? = some (.ow (.list (ws.map wayD)))) (h : EV K te ρ (wayD us)) (hl : us.length ≤ 41) (hp : ∀ p ∈ us, POk rs p) (hw : ∀ v ∈ ws, RnOk rs v) (ho : ws.length < 1000)
    (q : ∀ ws' : List (List (Str × Str)), ws'.length = ws.length + 1 → (∀ v ∈ ws', RnOk rs v) → ST K Ex u (ρ.set 7 (.ow (.list (ws'.map wayD)))) P) : ST K Ex (tSeq (tDrop (tBM K "list" rAppend (tVar 7) (tCons te tNil))) u) ρ P :=
  q_way hi h ho (q _ (by rw [List.length_append]; rfl) (rn_app hw hl hp))
theorem q_wayL {ws : List (List (Str × Str))} {wi : TI} {g : TG} {tt : TT} {vs : List Nat} {n : Nat} {item : Nat → D} {b : Nat → Bool} {f : Nat → Str × Str} (hi : ρ[7]? = some (.ow (.list (ws.map wayD)))) (he : EI K wi ρ n item) (hn : n ≤ 41)
    (hs : ∀ i, i < n → ∃ ρ2 ts, GT K g (wipeS ρ vs) (item i) ρ2 ts ∧ (∀ t ∈ ts, t ∈ vs) ∧ ET K tt ρ2 (b i) ∧ (b i = true → EV K te ρ2 (pqD (f i)))) (hf : ∀ i, i < n → b i = true → POk rs (f i)) (hw : ∀ v ∈ ws, RnOk rs v) (ho : ws.length < 1000)
    (q : ∀ ws' : List (List (Str × Str)), ws'.length = ws.length + 1 → (∀ v ∈ ws', RnOk rs v) → ST K Ex u (ρ.set 7 (.ow (.list (ws'.map wayD)))) P) : ST K Ex (tSeq (tDrop (tBM K "list" rAppend (tVar 7) (tCons (tLc wi g tt te vs) tNil))) u) ρ P := by
  obtain ⟨us, h1, h2, h3⟩ := en_way he hn hs hf
  exact q_wayE hi (ev_N h3) (by omega) h2 hw ho q
theorem q_wayA {ws : List (List (Str × Str))} {wi : TI} {g : TG} {tt : TT} {vs : List Nat} {n : Nat} {item : Nat → D} {b : Nat → Bool} {f : Nat → Str × Str} {x : Str × Str} (hi : ρ[7]? = some (.ow (.list (ws.map wayD)))) (he : EI K wi ρ n item) (hn : n ≤ 40)
    (hs : ∀ i, i < n → ∃ ρ2 ts, GT K g (wipeS ρ vs) (item i) ρ2 ts ∧ (∀ t ∈ ts, t ∈ vs) ∧ ET K tt ρ2 (b i) ∧ (b i = true → EV K te ρ2 (pqD (f i)))) (hf : ∀ i, i < n → b i = true → POk rs (f i)) (hx : EV K tb ρ (wayD [x])) (hpx : POk rs x) (hw : ∀ v ∈ ws, RnOk rs v) (ho : ws.length < 1000)
    (q : ∀ ws' : List (List (Str × Str)), ws'.length = ws.length + 1 → (∀ v ∈ ws', RnOk rs v) → ST K Ex u (ρ.set 7 (.ow (.list (ws'.map wayD)))) P) : ST K Ex (tSeq (tDrop (tBM K "list" rAppend (tVar 7) (tCons (tOp (rAddU K) (tLc wi g tt te vs) tb) tNil))) u) ρ P := by
  obtain ⟨us, h1, h2, h3⟩ := en_way he (by omega) hs hf
  refine q_wayE (us := us ++ [x]) hi (ev_is (ev_N (en_op (ev_N h3) hx (on_addL (a := us.map pqD) (b := [x].map pqD) ?_))) ?_) (by rw [List.length_append]; show us.length + 1 ≤ 41; omega) (fun p hp => (List.mem_append.mp hp).elim (h2 p) fun m => (List.mem_singleton.mp m) ▸ hpx) hw ho q
  · rw [List.length_map, List.length_map, sizeLine_eq]
    show us.length + 1 ≤ _
    omega
  · show PyData.list _ = .list _
    rw [List.map_append]
theorem ok_one {p : Str × Str} (h : POk rs p) : ∀ q ∈ [p], POk rs q := fun q hq => by
  rw [List.mem_singleton.mp hq]
  exact h
theorem ok_two {p p' : Str × Str} (h : POk rs p) (h' : POk rs p') : ∀ q ∈ [p, p'], POk rs q := fun q hq => by
  rcases List.mem_cons.mp hq with rfl | hq
  · exact h
  · rw [List.mem_singleton.mp hq]
    exact h'
theorem ok_app {us vs : List (Str × Str)} (h : ∀ q ∈ us, POk rs q) (h' : ∀ q ∈ vs, POk rs q) : ∀ q ∈ us ++ vs, POk rs q := fun q hq => (List.mem_append.mp hq).elim (h q) (h' q)
theorem ok_if {b : Bool} {us vs : List (Str × Str)} (h : ∀ q ∈ us, POk rs q) (h' : ∀ q ∈ vs, POk rs q) : ∀ q ∈ (if b = true then us else vs), POk rs q := by
  cases b
  · exact h'
  · exact h
end
theorem s2z : 2 ≤ sizeLine := by rw [sizeLine_eq]; decide
theorem ok_u_law_renamings (T : Txt K mg) (hd : FnP K "_law_renamings" s_u_law_renamings) (hm : mg "_law_renamings" = some (.ref (He.ga K "_law_renamings")))  : Okd P w K mg base CX0 1 "_law_renamings" ["rooms", "fresh", "pick"] (sp_u_law_renamings K) := by
  obtain ⟨fd, F⟩ := hd
  refine ⟨hm, fd, fn_pq F sc_u_law_renamings ?_ (fun cdv A outer s H E hr => ⟨_, dv_u_law_renamings T  cdv A outer s H E hr, ?_⟩), F.bindsN (fun _ _ _ _ _ _ us hl => match us, hl with | [_, _, _], _ => rfl), F.kp⟩
  · rintro ds ⟨x0, x1, x2, rfl, _⟩
    rfl
  · rintro ds ⟨rs, fs, i, rfl, R, hfl, hfs⟩
    have r1 := R.some
    have r2 := R.many
    show ST K E0 (t_u_law_renamings K) [.fr (.list (rs.map PyData.str)), .fr (.list (fs.map PyData.str)), .fr (.int i), .no, .no, .no, .no, .no, .no] _
    unfold t_u_law_renamings
    refine q_asg (d := .int (rs.length : Nat)) (ev_is (by walk_at "ev") (by rw [List.length_map])) ?_
    have hn0 : (0 : Int) < ((rs.length : Nat) : Int) := by omega
    refine q_asg (d := .int (i % ((rs.length : Nat) : Int))) (ev_op (by walk_at "ev") (by walk_at "ev") (od_mod hn0)) ?_
    obtain ⟨p, ep⟩ : ∃ p : Nat, i % ((rs.length : Nat) : Int) = (p : Nat) := ⟨(i % ((rs.length : Nat) : Int)).toNat, by have := Int.emod_nonneg i (b := ((rs.length : Nat) : Int)) (by omega); omega⟩
    have hp : p < rs.length := by have := Int.emod_lt_of_pos i hn0; omega
    rw [ep]
    have hR : ∀ {ρ : List Sl} {te : TE} {j : Int}, ρ[0]? = some (.fr (.list (rs.map PyData.str))) → EV K te ρ (.int j) → 0 ≤ j → j < rs.length → EV K (tOp (rIx K) (tVar 0) te) ρ (.str (rs.getD j.toNat Str.empty)) := fun h1 h2 h3 h4 => ev_op (ev_var h1) h2 (od_ixL (atI_strs h3 h4))
    have hF : ∀ {ρ : List Sl} {te : TE} {j : Int}, ρ[1]? = some (.fr (.list (fs.map PyData.str))) → EV K te ρ (.int j) → 0 ≤ j → j ≤ rs.length → EV K (tOp (rIx K) (tVar 1) te) ρ (.str (fs.getD j.toNat Str.empty)) := fun h1 h2 h3 h4 => ev_op (ev_var h1) h2 (od_ixL (atI_strs h3 (by omega)))
    have mR : ∀ {j : Int}, 0 ≤ j → j < rs.length → rs.getD j.toNat Str.empty ∈ rs := fun h1 h2 => getD_mem (by omega)
    have mF : ∀ {j : Int}, 0 ≤ j → j ≤ rs.length → goodS (fs.getD j.toNat Str.empty) ∧ (fs.getD j.toNat Str.empty).length ≤ 8 := fun h1 h2 => hfs _ (getD_mem (by omega))
    have oR : ∀ {j k : Int}, 0 ≤ j → j < rs.length → 0 ≤ k → k < rs.length → POk rs (rs.getD j.toNat Str.empty, rs.getD k.toNat Str.empty) := fun h1 h2 h3 h4 => ⟨mR h1 h2, R.good _ (mR h3 h4)⟩
    have oF : ∀ {j k : Int}, 0 ≤ j → j < rs.length → 0 ≤ k → k ≤ rs.length → POk rs (rs.getD j.toNat Str.empty, fs.getD k.toNat Str.empty) := fun h1 h2 h3 h4 => ⟨mR h1 h2, mF h3 h4⟩
    have mm : ∀ x : Int, 0 ≤ x % ((rs.length : Nat) : Int) ∧ x % ((rs.length : Nat) : Int) < rs.length := fun x => ⟨Int.emod_nonneg _ (by omega), Int.emod_lt_of_pos _ hn0⟩
    refine q_par (d1 := .str (rs.getD ((p : Nat) : Int).toNat Str.empty)) (d2 := .str (rs.getD (i / 41 % ((rs.length : Nat) : Int)).toNat Str.empty)) (hR rfl (ev_var rfl) (by omega) (by omega)) (hR rfl (ev_op (ev_op (ev_var rfl) ev_int (od_div (by decide))) (ev_var rfl) (od_mod hn0)) (mm _).1 (mm _).2) ?_
    have h1 : rs.getD ((p : Nat) : Int).toNat Str.empty ∈ rs := mR (by omega) (by omega)
    have h2 : rs.getD (i / 41 % ((rs.length : Nat) : Int)).toNat Str.empty ∈ rs := mR (mm _).1 (mm _).2
    generalize rs.getD ((p : Nat) : Int).toNat Str.empty = one at h1
    generalize rs.getD (i / 41 % ((rs.length : Nat) : Int)).toNat Str.empty = two at h2
    have g1 := R.good one h1
    have g2 := R.good two h2
    have hlist : ∀ {ρ : List Sl} {n : Nat}, n = rs.length → ρ[3]? = some (.fr (.int (rs.length : Nat))) → EI K (iRng1 (tCons (tVar 3) tNil)) ρ (((rs.length : Nat) : Int)).toNat (fun i => .int (i : Nat)) := fun _ h => ei_rng1 (ea_cons (ev_var h) ea_nil) (by omega) (by omega)
    obtain ⟨ρ0, eρ⟩ : ∃ ρ0 : List Sl, ρ0 = [.fr (.list (rs.map PyData.str)), .fr (.list (fs.map PyData.str)), .fr (.int i), .fr (.int (rs.length : Nat)), .fr (.int (p : Nat)), .fr (.str one), .fr (.str two), .no, .no] := ⟨_, rfl⟩
    have two1 : ∀ {ρ : List Sl} {ta tb : TE} {a b : Str}, EV K ta ρ (.str a) → EV K tb ρ (.str b) → EV K (tTup (tCons ta (tCons tb tNil))) ρ (pqD (a, b)) := fun h h' => ev_tup (ea_cons h (ea_cons h' ea_nil)) s2z
    have l1 : ∀ {ρ : List Sl} {ta : TE} {q : Str × Str}, EV K ta ρ (pqD q) → EV K (tLst (tCons ta tNil)) ρ (wayD [q]) := fun h => ev_N (en_lst (ea_cons h ea_nil) (by show 1 ≤ sizeLine; rw [sizeLine_eq]; decide))
    have l2 : ∀ {ρ : List Sl} {ta tb : TE} {q q' : Str × Str}, EV K ta ρ (pqD q) → EV K tb ρ (pqD q') → EV K (tLst (tCons ta (tCons tb tNil))) ρ (wayD [q, q']) := fun h h' => ev_N (en_lst (ea_cons h (ea_cons h' ea_nil)) (by show 2 ≤ sizeLine; rw [sizeLine_eq]; decide))
    -- ways = [[], .., ..]
    show ST K E0 _ [.fr (.list (rs.map PyData.str)), .fr (.list (fs.map PyData.str)), .fr (.int i), .fr (.int (rs.length : Nat)), .fr (.int (p : Nat)), .fr (.str one), .fr (.str two), .no, .no] _
    obtain ⟨u1, a1, b1, w1⟩ := en_way (K := K) (rs := rs) (ρ := [.fr (.list (rs.map PyData.str)), .fr (.list (fs.map PyData.str)), .fr (.int i), .fr (.int (rs.length : Nat)), .fr (.int (p : Nat)), .fr (.str one), .fr (.str two), .no, .no]) (vs := [8]) (g := gName 8) (tt := tYes) (te := tTup (tCons (tOp (rIx K) (tVar 0) (tVar 8)) (tCons (tOp (rIx K) (tVar 1) (tVar 8)) tNil))) (b := fun _ => true) (f := fun k => (rs.getD ((k : Nat) : Int).toNat Str.empty, fs.getD ((k : Nat) : Int).toNat Str.empty)) (hlist rfl rfl) (by omega) (fun k hk => ⟨_, _, gt_name, by simp, et_yes, fun _ => two1 (hR (by rfl) (ev_var (by rfl)) (by omega) (by omega)) (hF (by rfl) (ev_var (by rfl)) (by omega) (by omega))⟩) fun k hk _ => oF (by omega) (by omega) (by omega) (by omega)
    obtain ⟨u2, a2, b2, w2⟩ := en_way (K := K) (rs := rs) (ρ := [.fr (.list (rs.map PyData.str)), .fr (.list (fs.map PyData.str)), .fr (.int i), .fr (.int (rs.length : Nat)), .fr (.int (p : Nat)), .fr (.str one), .fr (.str two), .no, .no]) (wi := iRng2 (tCons (tVar 4) (tCons (tVar 3) tNil))) (vs := [8]) (g := gName 8) (tt := tYes) (te := tTup (tCons (tOp (rIx K) (tVar 0) (tVar 8)) (tCons (tOp (rIx K) (tVar 0) (tVar 8)) tNil))) (b := fun _ => true) (f := fun k => (rs.getD (((p : Nat) : Int) + ((k : Nat) : Int)).toNat Str.empty, rs.getD (((p : Nat) : Int) + ((k : Nat) : Int)).toNat Str.empty)) (ei_rng2 (ea_cons (ev_var (by rfl)) (ea_cons (ev_var (by rfl)) ea_nil)) (by omega)) (by omega) (fun k hk => ⟨_, _, gt_name, by simp, et_yes, fun _ => two1 (hR (by rfl) (ev_var (by rfl)) (by omega) (by omega)) (hR (by rfl) (ev_var (by rfl)) (by omega) (by omega))⟩) fun k hk _ => oR (by omega) (by omega) (by omega) (by omega)
    refine q_asgN (d := .list (([[], u1, u2] : List (List (Str × Str))).map wayD)) (en_lst (ea_cons (ev_N (en_lst ea_nil (Nat.zero_le _))) (ea_cons (ev_N w1) (ea_cons (ev_N w2) ea_nil))) (by show 3 ≤ sizeLine; rw [sizeLine_eq]; decide)) ?_
    have hw : ∀ v ∈ ([[], u1, u2] : List (List (Str × Str))), RnOk rs v := by
      intro v hv
      simp only [List.mem_cons, List.not_mem_nil, or_false] at hv
      rcases hv with rfl | rfl | rfl
      · exact ⟨Nat.zero_le _, fun p h => (by cases h)⟩
      · exact ⟨by omega, b1⟩
      · exact ⟨by omega, b2⟩
    have hl : ([[], u1, u2] : List (List (Str × Str))).length = 3 := rfl
    generalize ([[], u1, u2] : List (List (Str × Str))) = ws at hw hl
    clear w1 w2 a1 a2 b1 b2
    -- ways += [.., .., ..]
    show ST K E0 _ [.fr (.list (rs.map PyData.str)), .fr (.list (fs.map PyData.str)), .fr (.int i), .fr (.int (rs.length : Nat)), .fr (.int (p : Nat)), .fr (.str one), .fr (.str two), .ow (.list (ws.map wayD)), .no] _
    obtain ⟨u3, a3, b3, w3⟩ := en_way (K := K) (rs := rs) (ρ := [.fr (.list (rs.map PyData.str)), .fr (.list (fs.map PyData.str)), .fr (.int i), .fr (.int (rs.length : Nat)), .fr (.int (p : Nat)), .fr (.str one), .fr (.str two), .ow (.list (ws.map wayD)), .no]) (wi := iRng1 (tCons (tVar 4) tNil)) (vs := [8]) (g := gName 8) (tt := tYes) (te := tTup (tCons (tOp (rIx K) (tVar 0) (tVar 8)) (tCons (tOp (rIx K) (tVar 1) (tOp (rAddU K) (tVar 8) (tC (.int 1)))) tNil))) (b := fun _ => true) (f := fun k => (rs.getD ((k : Nat) : Int).toNat Str.empty, fs.getD (((k : Nat) : Int) + 1).toNat Str.empty)) (ei_rng1 (n := ((p : Nat) : Int)) (ea_cons (ev_var (by rfl)) ea_nil) (by omega) (by omega)) (by omega) (fun k hk => ⟨_, _, gt_name, by simp, et_yes, fun _ => two1 (hR (by rfl) (ev_var (by rfl)) (by omega) (by omega)) (hF (by rfl) (ev_op (ev_var (by rfl)) ev_int od_addI) (by omega) (by omega))⟩) fun k hk _ => oF (by omega) (by omega) (by omega) (by omega)
    refine q_augO (n := 7) (ds := ws.map wayD) (es := ([u3, [(one, fs.getD (0 : Int).toNat Str.empty)], [(one, one)]] : List (List (Str × Str))).map wayD) rfl (ev_N (en_lst (ea_cons (ev_N w3) (ea_cons (l1 (two1 (ev_var (by rfl)) (hF (by rfl) ev_int (by decide) (by omega)))) (ea_cons (l1 (two1 (ev_var (by rfl)) (ev_var (by rfl)))) ea_nil))) (by show 3 ≤ sizeLine; rw [sizeLine_eq]; decide))) (by rw [List.length_map, List.length_map, hl]; exact Nat.le_of_ble_eq_true rfl) ?_
    rw [← List.map_append]
    have hw' : ∀ v ∈ ws ++ ([u3, [(one, fs.getD (0 : Int).toNat Str.empty)], [(one, one)]] : List (List (Str × Str))), RnOk rs v := by
      intro v hv
      rcases List.mem_append.mp hv with hv | hv
      · exact hw v hv
      simp only [List.mem_cons, List.not_mem_nil, or_false] at hv
      rcases hv with rfl | rfl | rfl
      · exact ⟨by omega, b3⟩
      · exact ⟨by show 1 ≤ 41; decide, ok_one ⟨h1, mF (by decide) (by omega)⟩⟩
      · exact ⟨by show 1 ≤ 41; decide, ok_one ⟨h1, g1⟩⟩
    have hl' : (ws ++ ([u3, [(one, fs.getD (0 : Int).toNat Str.empty)], [(one, one)]] : List (List (Str × Str)))).length = 6 := by rw [List.length_append, hl]; rfl
    generalize ws ++ ([u3, [(one, fs.getD (0 : Int).toNat Str.empty)], [(one, one)]] : List (List (Str × Str))) = ws at hw' hl'
    clear w3 a3 b3 hw hl
    refine q_wayL rfl (hlist rfl rfl) (by omega) (fun k hk => ⟨_, _, gt_name, by simp, et_yes, fun _ => two1 (b := rs.getD ((((k : Nat) : Int) + 1 + i / 1700) % ((rs.length : Nat) : Int)).toNat Str.empty) (hR (by rfl) (ev_var (by rfl)) (by omega) (by omega)) (hR (by rfl) (ev_op (ev_op (ev_op (ev_var (by rfl)) ev_int od_addI) (ev_op (ev_var (by rfl)) ev_int (od_div (by decide))) od_addI) (ev_var (by rfl)) (od_mod hn0)) (mm _).1 (mm _).2)⟩) (fun k hk _ => oR (by omega) (by omega) (mm _).1 (mm _).2) hw' (by omega) fun ws hl hw => ?_
    refine q_wayL (f := fun k => (rs.getD ((k : Nat) : Int).toNat Str.empty, if decide (((k : Nat) : Int) > 0) = true then rs.getD (((k : Nat) : Int) - 1).toNat Str.empty else fs.getD ((rs.length : Nat) : Int).toNat Str.empty)) (b := fun _ => true) rfl (ei_rng1 (n := ((p : Nat) : Int) + 1) (ea_cons (ev_op (ev_var (by rfl)) ev_int od_addI) ea_nil) (by omega) (by omega)) (by omega) (fun k hk => ⟨_, _, gt_name, by simp, et_yes, fun _ => two1 (hR (by rfl) (ev_var (by rfl)) (by omega) (by omega)) (ev_is (ev_ite (by walk_at "et") (fun hb => hR (by rfl) (ev_op (ev_var (by rfl)) ev_int od_sub) (by have := of_decide_eq_true hb; omega) (by omega)) fun hb => hF (by rfl) (ev_var (by rfl)) (by omega) (by omega)) DL.ite_str)⟩) (fun k hk _ => ?_) hw (by omega) fun ws hl2 hw2 => ?_
    · refine ⟨mR (by omega) (by omega), ?_⟩
      dsimp only
      split
      · rename_i hb
        have := of_decide_eq_true hb
        exact R.good _ (mR (by omega) (by omega))
      · exact mF (by omega) (by omega)
    refine q_wayE (us := if (!decide (one = two)) = true then [(one, two), (two, one)] else [(one, fs.getD ((p : Nat) : Int).toNat Str.empty)]) rfl (ev_is (ev_ite (et_test (ev_op (ev_var (by rfl)) (ev_var (by rfl)) od_neS)) (fun _ => l2 (two1 (ev_var (by rfl)) (ev_var (by rfl))) (two1 (ev_var (by rfl)) (ev_var (by rfl)))) fun _ => l1 (two1 (ev_var (by rfl)) (hF (by rfl) (ev_var (by rfl)) (by omega) (by omega)))) (by split <;> rfl)) (by split <;> exact Nat.le_of_ble_eq_true rfl) (ok_if (ok_two ⟨h1, g2⟩ ⟨h2, g1⟩) (ok_one ⟨h1, mF (by omega) (by omega)⟩)) hw2 (by omega) fun ws hl3 hw3 => ?_
    refine q_wayE (us := [(one, two)]) rfl (l1 (two1 (ev_var (by rfl)) (ev_var (by rfl)))) (Nat.le_of_ble_eq_true rfl) (ok_one ⟨h1, g2⟩) hw3 (by omega) fun ws hl4 hw4 => ?_
    have hj : ∀ k : Nat, k < rs.length → 0 ≤ (if (!decide (((k : Nat) : Int) = ((p : Nat) : Int))) = true then ((k : Nat) : Int) else 0) ∧ (if (!decide (((k : Nat) : Int) = ((p : Nat) : Int))) = true then ((k : Nat) : Int) else 0) ≤ rs.length := fun k hk => by split <;> omega
    refine q_wayL (f := fun k => (rs.getD ((k : Nat) : Int).toNat Str.empty, fs.getD (if (!decide (((k : Nat) : Int) = ((p : Nat) : Int))) = true then ((k : Nat) : Int) else 0).toNat Str.empty)) (b := fun _ => true) rfl (hlist rfl rfl) (by omega) (fun k hk => ⟨_, _, gt_name, by simp, et_yes, fun _ => two1 (hR (by rfl) (ev_var (by rfl)) (by omega) (by omega)) (hF (by rfl) (ev_is (ev_ite (et_test (ev_op (ev_var (by rfl)) (ev_var (by rfl)) od_neI)) (fun _ => ev_var (by rfl)) fun _ => ev_int) (by split <;> rfl)) (hj k (by omega)).1 (hj k (by omega)).2)⟩) (fun k hk _ => ⟨mR (by omega) (by omega), mF (hj k (by omega)).1 (hj k (by omega)).2⟩) hw4 (by omega) fun ws hl5 hw5 => ?_
    obtain ⟨z, hz, ez⟩ := fr_at (fs := fs) (j := ((p : Nat) : Int) - 1) (by omega) (by omega)
    refine q_wayA (f := fun k => (rs.getD ((k : Nat) : Int).toNat Str.empty, fs.getD ((k : Nat) : Int).toNat Str.empty)) (b := fun k => !decide (((k : Nat) : Int) = ((p : Nat) : Int))) (x := (one, z)) rfl (hlist rfl rfl) (by omega) (fun k hk => ⟨_, _, gt_name, by simp, et_test (ev_op (ev_var (by rfl)) (ev_var (by rfl)) od_neI), fun _ => two1 (hR (by rfl) (ev_var (by rfl)) (by omega) (by omega)) (hF (by rfl) (ev_var (by rfl)) (by omega) (by omega))⟩) (fun k hk _ => oF (by omega) (by omega) (by omega) (by omega)) (l1 (two1 (ev_var (by rfl)) (ev_op (ev_var (by rfl)) (ev_op (ev_var (by rfl)) ev_int od_sub) (od_ixL ez)))) ⟨h1, hfs z hz⟩ hw5 (by omega) fun ws hl6 hw6 => ?_
    refine q_wayE (us := if (!decide (one = two)) = true then [(one, two), (two, fs.getD ((rs.length : Nat) : Int).toNat Str.empty)] else []) rfl (ev_is (ev_ite (et_test (ev_op (ev_var (by rfl)) (ev_var (by rfl)) od_neS)) (fun _ => l2 (two1 (ev_var (by rfl)) (ev_var (by rfl))) (two1 (ev_var (by rfl)) (hF (by rfl) (ev_var (by rfl)) (by omega) (by omega)))) fun _ => ev_N (en_lst ea_nil (Nat.zero_le _))) (by split <;> rfl)) (by split <;> exact Nat.le_of_ble_eq_true rfl) (ok_if (ok_two ⟨h1, g2⟩ ⟨h2, mF (by omega) (by omega)⟩) fun q hq => (by cases hq)) hw6 (by omega) fun ws hl7 hw7 => ?_
    refine q_wayL (f := fun k => (rs.getD ((k : Nat) : Int).toNat Str.empty, rs.getD ((p : Nat) : Int).toNat Str.empty)) (b := fun _ => true) rfl (ei_rng1 (n := ((p : Nat) : Int)) (ea_cons (ev_var (by rfl)) ea_nil) (by omega) (by omega)) (by omega) (fun k hk => ⟨_, _, gt_name, by simp, et_yes, fun _ => two1 (hR (by rfl) (ev_var (by rfl)) (by omega) (by omega)) (hR (by rfl) (ev_var (by rfl)) (by omega) (by omega))⟩) (fun k hk _ => oR (by omega) (by omega) (by omega) (by omega)) hw7 (by omega) fun ws hl8 hw8 => ?_
    refine q_frz (i := 7) rfl (st_ret (ev_var (by rfl)) ?_)
    exact ⟨_, rfl, rs, _, ws, rfl, rfl, by omega, hw8⟩

theorem eix_list {te : TE} {ρ : List Sl} {Pd : D → Prop} {Pi : Nat → (Nat → D) → Prop} (h : EVX K te ρ Pd) (k : ∀ d, Pd d → ∃ ds, d = .list ds ∧ Pi ds.length (fun i => ds.getD i .none)) : EIX K (iSeqU K te) ρ Pi := fun G0 H0 G H σ R E q =>
  h G0 H0 G H σ _ E fun d v G1 H1 p e1 hv => by
    obtain ⟨ds, rfl, pi⟩ := k d p
    cases hv with
    | @lst a xs _ ha hr =>
      refine .inl ⟨a, xs, rfl, SqL.of (e1.gh.lst ha), ?_⟩
      have w := walk_list (K := K) (a := a) (xs := xs)
      rw [hr.length] at w
      refine q _ _ _ G1 H1 _ _ pi e1 w (fun G2 H2 hg gh => SqL.of (gh.lst (hg _ _ ha))) fun i G2 H2 x H3 hi hg gh hy => ?_
      obtain ⟨rfl, hx⟩ := hy
      obtain ⟨d, hd, hq⟩ := hr.got hx
      exact ⟨G2, .refl gh, by show Dq K G2 x (ds.getD i .none); rw [getD_of hd]; exact hq.mono (Sub.of hg)⟩
theorem etx_trV {te : TE} {ρ : List Sl} {Pd : D → Prop} {Pb : Bool → Prop} (h : EVX K te ρ Pd) (k : ∀ d, Pd d → ∃ b, d = .bool b ∧ Pb b) : ETX K (tTr K te) ρ Pb := fun G0 H0 G H σ Q E q =>
  h G0 H0 G H σ _ E fun d v G1 H1 p e1 h1 => by
    obtain ⟨b, rfl, pb⟩ := k d p
    cases h1
    exact ⟨b, rfl, q b G1 H1 pb e1⟩
theorem strs_inj : ∀ {as bs : List Str}, as.map PyData.str = bs.map PyData.str → as = bs
  | [], [], _ => rfl
  | [], _ :: _, h => by cases h
  | _ :: _, [], h => by cases h
  | a :: as, b :: bs, h => by
    rw [List.map_cons, List.map_cons] at h
    injection h with h1 h2
    injection h1 with h1
    rw [h1, strs_inj h2]
theorem cut_few {zs : List Str} {k : Nat} : ∃ ys : List Str, cutDs (zs.map PyData.str) none (some ((k : Nat) : Int)) = ys.map PyData.str ∧ ys.length ≤ k ∧ ∀ z ∈ ys, z ∈ zs := by
  refine ⟨(zs.drop (HT.sIx zs.length 0 none)).take (HT.sIx zs.length zs.length (some ((k : Nat) : Int)) - HT.sIx zs.length 0 none), ?_, ?_, fun z hz => List.mem_of_mem_drop (List.mem_of_mem_take hz)⟩
  · unfold cutDs
    rw [List.length_map, List.map_take, List.map_drop]
  · rw [List.length_take]
    have : HT.sIx zs.length zs.length (some ((k : Nat) : Int)) ≤ k := by
      rw [HT.sIx_nat]
      exact Nat.min_le_left _ _
    omega
theorem z_facts : ∀ k : Nat, k < 42 → (strI (2000 + ((k : Nat) : Int))).length = 4 ∧ (2000 + ((k : Nat) : Int)).natAbs.log2 < 1920 ∧ ((("z" : Str) ++ strI (2000 + ((k : Nat) : Int))).cps.toList.head? = some 122 ∧ (("z" : Str) ++ strI (2000 + ((k : Nat) : Int))).length = 5 ∧ (122 ∈ sL.cps.toList) ∧ ((("z" : Str) ++ strI (2000 + ((k : Nat) : Int))).cps.toList.tail.all fun x => decide (x ∈ sL.cps.toList) || decide (x ∈ sF.cps.toList)) = true) := by decide +kernel
theorem z_good {k : Nat} (h : k < 42) : goodS (("z" : Str) ++ strI (2000 + ((k : Nat) : Int))) ∧ (("z" : Str) ++ strI (2000 + ((k : Nat) : Int))).length ≤ 8 := by
  obtain ⟨_, _, h1, h2, h3, h4⟩ := z_facts k h
  refine ⟨?_, by omega⟩
  unfold goodS
  cases e : (("z" : Str) ++ strI (2000 + ((k : Nat) : Int))).cps.toList with
  | nil => rw [e] at h1; cases h1
  | cons c r =>
    rw [e] at h1 h4
    injection h1 with h1
    subst h1
    refine ⟨h3, fun x hx => ?_⟩
    have := List.all_eq_true.mp h4 x hx
    simpa using this
theorem RnOk.srt {rs : List Str} {us : List (Str × Str)} (h : RnOk rs us) : RnOk (srt ltS rs) us := ⟨h.1, fun p hp => ⟨mem_srt.mpr (h.2 p hp).1, (h.2 p hp).2⟩⟩
theorem RnOk.rev {rs : List Str} {us : List (Str × Str)} (h : RnOk rs us) : RnOk rs us.reverse := ⟨by rw [List.length_reverse]; exact h.1, fun p hp => h.2 p (List.mem_reverse.mp hp)⟩
def WayL (rs : List Str) (d : D) : Prop := ∃ ws : List (List (Str × Str)), d = .list (ws.map wayD) ∧ ∀ us ∈ ws, RnOk rs us
def DrawnP (rs : List Str) (d : D) : Prop := ∃ qs, d = schD (srt ltS rs) qs ∧ WS (srt ltS rs) qs
theorem evx_drawn {ρ : List Sl} {ta tb tc td : TE} {rs : List Str} {ps : List Int} {b m : Int} (h1 : EV K ta ρ (.list (rs.map PyData.str))) (h2 : EV K tb ρ (.list (ps.map PyData.int))) (h3 : EV K tc ρ (.int b)) (h4 : EV K td ρ (.int m)) (R : Rooms rs) (k0 : 0 ≤ b) (k1 : 0 ≤ m) (k2 : m ≤ 75) (k3 : b + m ≤ ps.length) :
    EVX K (tCall (sp_u_law_drawn K) [] E0 (tCons ta (tCons tb (tCons tc (tCons td tNil))))) ρ (DrawnP rs) := by
  unfold sp_u_law_drawn
  refine evx_callQ (eax_of (Pl := fun ds => ds = [.list (rs.map PyData.str), .list (ps.map PyData.int), .int b, .int m]) (ea_cons h1 (ea_cons h2 (ea_cons h3 (ea_cons h4 ea_nil)))) rfl) ?_
  rintro ds rfl
  refine ⟨⟨rs, ps, b, m, rfl, R, k0, k1, k2, k3⟩, ?_⟩
  rintro d ⟨rs', t, qs, e, rfl, W⟩
  injection e with e _
  injection e with e
  have := strs_inj e
  subst this
  exact ⟨qs, rfl, W⟩
theorem evx_ways {ρ : List Sl} {ta tb tc : TE} {rs fs : List Str} {i : Int} (h1 : EV K ta ρ (.list (rs.map PyData.str))) (h2 : EV K tb ρ (.list (fs.map PyData.str))) (h3 : EV K tc ρ (.int i)) (R : Rooms rs) (k0 : fs.length = rs.length + 1) (k1 : ∀ z ∈ fs, goodS z ∧ z.length ≤ 8) :
    EVX K (tCall (sp_u_law_renamings K) [] E0 (tCons ta (tCons tb (tCons tc tNil)))) ρ (WayL rs) := by
  unfold sp_u_law_renamings
  refine evx_callQ (eax_of (Pl := fun ds => ds = [.list (rs.map PyData.str), .list (fs.map PyData.str), .int i]) (ea_cons h1 (ea_cons h2 (ea_cons h3 ea_nil))) rfl) ?_
  rintro ds rfl
  refine ⟨⟨rs, fs, i, rfl, R, k0, k1⟩, ?_⟩
  rintro d ⟨rs', t, ws, e, rfl, _, W⟩
  injection e with e _
  injection e with e
  have := strs_inj e
  subst this
  exact ⟨ws, rfl, W⟩
theorem ev_renamed {ρ : List Sl} {ta tb : TE} {rs : List Str} {ps us : List (Str × Str)} (h1 : EV K ta ρ (schD rs ps)) (h2 : EV K tb ρ (wayD us)) (W : WS rs ps) (h : RnOk rs us) : ET K (tTr K (tCall (sp_u_law_renamed K) [] E0 (tCons ta (tCons tb tNil)))) ρ true := by
  unfold sp_u_law_renamed
  exact et_trB (ev_call (ea_cons h1 (ea_cons h2 ea_nil)) ⟨rs, ps, us, rfl, W, h, rfl⟩)
theorem ev_moved {ρ : List Sl} {ta tb : TE} {rs : List Str} {ps : List (Str × Str)} {ns : List Int} (h1 : EV K ta ρ (schD rs ps)) (h2 : EV K tb ρ (.list (ns.map PyData.int))) (W : WS rs ps) (h : ns.length ≤ 1000) : ET K (tTr K (tCall (sp_u_law_moved K) [] E0 (tCons ta (tCons tb tNil)))) ρ true := by
  unfold sp_u_law_moved
  exact et_trB (ev_call (ea_cons h1 (ea_cons h2 ea_nil)) ⟨rs, ps, ns, rfl, W, h, rfl⟩)
def oneR : List Str := ["a", "b"]
def oneQ : List (Str × Str) := [("E", "a"), ("a", "b")]
theorem goodA : goodS "a" ∧ goodS "b" ∧ goodS "c" := ⟨⟨by decide +kernel, fun x h => by revert x; decide +kernel⟩, ⟨by decide +kernel, fun x h => by revert x; decide +kernel⟩, ⟨by decide +kernel, fun x h => by revert x; decide +kernel⟩⟩
theorem one_ws : WS oneR oneQ := by
  refine ⟨by decide, fun z hz => ?_, by decide +kernel, by decide +kernel, by decide +kernel, by decide⟩
  unfold oneR at hz
  simp only [List.mem_cons, List.not_mem_nil, or_false] at hz
  rcases hz with rfl | rfl
  · exact ⟨goodA.1, by decide⟩
  · exact ⟨goodA.2.1, by decide⟩
theorem one_ok {us : List (Str × Str)} (h : us.length ≤ 41) (k : ∀ p ∈ us, (p.1 = "a" ∨ p.1 = "b") ∧ (p.2 = "a" ∨ p.2 = "b" ∨ p.2 = "c")) : RnOk oneR us := by
  refine ⟨h, fun p hp => ?_⟩
  obtain ⟨k1, k2⟩ := k p hp
  refine ⟨?_, ?_⟩
  · unfold oneR
    rcases k1 with e | e <;> rw [e] <;> decide +kernel
  · rcases k2 with e | e | e <;> rw [e]
    · exact ⟨goodA.1, by decide⟩
    · exact ⟨goodA.2.1, by decide⟩
    · exact ⟨goodA.2.2, by decide⟩

theorem ok_law (T : Txt K mg) {fd : FuncData} (F : FunD K "law" "law" (defArgs s_law) (defBody s_law) (defScope s_law) [] [] (He.ga K "law") fd) (O_u_law_pool : Okd P w K mg base CX0 1 "_law_pool" ["script", "many"] (sp_u_law_pool K)) (O_u_law_names : Okd P w K mg base CX0 1 "_law_names" ["pool", "begin", "many", "last"] (sp_u_law_names K)) (O_u_law_drawn : Okd P w K mg base CX0 2 "_law_drawn" ["rooms", "pool", "begin", "many"] (sp_u_law_drawn K)) (O_u_law_renamings : Okd P w K mg base CX0 1 "_law_renamings" ["rooms", "fresh", "pick"] (sp_u_law_renamings K)) (O_u_law_renamed : Okd P w K mg base CX0 5 "_law_renamed" ["scheme", "pairs"] (sp_u_law_renamed K)) (O_u_law_moved : Okd P w K mg base CX0 5 "_law_moved" ["scheme", "numbers"] (sp_u_law_moved K)) : FnOk P w K mg base CX0 6 (He.ga K "law") fd ["script"] (sp_law K) := by
  refine fn_pf F sc_law ?_ (fun cdv A outer s H E hr => ⟨_, dv_law T O_u_law_pool O_u_law_names O_u_law_drawn O_u_law_renamings O_u_law_renamed O_u_law_moved cdv A outer s H E hr, ?_⟩)
  · rintro ds d ⟨x0, rfl, _⟩
    rfl
  · rintro ds d ⟨ns, rfl, hns, rfl⟩
    refine ST.mono (P := fun o => o = .rt (.bool true)) ?_ fun o h => .inl h
    show ST K E0 (t_law K) [.fr (.dict [(.none, .list (ns.map PyData.int))]), .no, .no, .no, .no, .no, .no, .no, .no, .no, .no, .no, .no, .no, .no, .no] _
    unfold t_law sp_u_law_pool sp_u_law_names
    refine q_asgQ (ea_cons (ev_var rfl) (ea_cons ev_int ea_nil)) ⟨ns, 260, rfl, hns, by decide, by decide⟩ ?_
    rintro _ ⟨m, c, ps, e, rfl, hl⟩
    injection e with e1 e2
    injection e2 with e2 _
    injection e2 with e2
    subst e2
    clear e1
    have hp : ps.length = 260 := by omega
    have hpool : ∀ {ρ : List Sl} {te : TE} {j : Int}, ρ[1]? = some (.fr (.list (ps.map PyData.int))) → EV K te ρ (.int j) → 0 ≤ j → j < 260 → EV K (tOp (rIx K) (tVar 1) te) ρ (.int (pI ps j)) := fun h1 h2 h3 h4 => ev_op (ev_var h1) h2 (od_ixL (pI_get h3 (by omega)))
    have hs8 : 0 ≤ pI ps 0 / 11 % 8 ∧ pI ps 0 / 11 % 8 < 8 := ⟨Int.emod_nonneg _ (by decide), Int.emod_lt_of_pos _ (by decide)⟩
    refine q_asg (d := .list ((namesK "q" ps 0 (1 + pI ps 0 / 11 % 8).toNat).map PyData.str)) (ev_call (ea_cons (ev_var rfl) (ea_cons ev_int (ea_cons (ev_op ev_int (ev_op (ev_op (hpool rfl ev_int (by decide) (by decide)) ev_int (od_div (by decide))) ev_int (od_mod (by decide))) od_addI) (ea_cons ev_str ea_nil)))) ⟨ps, 0, _, "q", rfl, by decide, by decide, by omega, by omega, by omega, rfl⟩) ?_
    refine q_asg (d := .list ((namesK "q" ps 10 40).map PyData.str)) (ev_call (ea_cons (ev_var rfl) (ea_cons ev_int (ea_cons ev_int (ea_cons ev_str ea_nil)))) ⟨ps, 10, 40, "q", rfl, by decide, by decide, by decide, by decide, by omega, rfl⟩) ?_
    refine q_asg (d := .list ((namesK "x" ps 60 50).map PyData.str)) (ev_call (ea_cons (ev_var rfl) (ea_cons ev_int (ea_cons ev_int (ea_cons ev_str ea_nil)))) ⟨ps, 60, 50, "x", rfl, by decide, by decide, by decide, by decide, by omega, rfl⟩) ?_
    have hq : ("q" : Str) ∈ qx := List.mem_cons_self
    have hx : ("x" : Str) ∈ qx := List.mem_cons_of_mem _ List.mem_cons_self
    have R1 : Rooms (namesK "q" ps 0 (1 + pI ps 0 / 11 % 8).toNat) := by
      obtain ⟨n1, n2, n3⟩ := nm_ok hq ps 0 (n := (1 + pI ps 0 / 11 % 8).toNat) (by omega)
      exact ⟨n1, n2, by omega, by omega⟩
    have R2 : Rooms (namesK "q" ps 10 40) := by
      obtain ⟨n1, n2, n3⟩ := nm_ok hq ps 10 (n := 40) (by omega)
      exact ⟨n1, n2, by omega, by omega⟩
    obtain ⟨_, f2, f3⟩ := nm_ok hx ps 60 (n := 50) (by omega)
    generalize namesK "q" ps 0 (1 + pI ps 0 / 11 % 8).toNat = small at R1
    generalize namesK "q" ps 10 40 = wide at R2
    generalize namesK "x" ps 60 50 = fr at f2 f3
    refine q_asg (d := .int 0) ev_int ?_
    refine q_for (ei_list (ds := [.list (small.map PyData.str), .list (wide.map PyData.str)]) (ev_N (en_lst (ea_cons (ev_var rfl) (ea_cons (ev_var rfl) ea_nil)) s2z))) (fun i ρ => ∃ s6 s7 s8 s9 s10 s11 s12 s13 s14 : Sl, ρ = [.fr (.dict [(.none, .list (ns.map PyData.int))]), .fr (.list (ps.map PyData.int)), .fr (.list (small.map PyData.str)), .fr (.list (wide.map PyData.str)), .fr (.list (fr.map PyData.str)), .fr (.int ((i : Nat) : Int)), s6, s7, s8, s9, s10, s11, s12, s13, s14, .no]) ⟨_, _, _, _, _, _, _, _, _, rfl⟩ ?_ ?_
    · rintro i ρ hi ⟨s6, s7, s8, s9, s10, s11, s12, s13, s14, rfl⟩
      refine ⟨_, _, gt_name, ?_⟩
      obtain ⟨rs, e, R⟩ : ∃ rs : List Str, ([.list (small.map PyData.str), .list (wide.map PyData.str)] : List D).getD i .none = .list (rs.map PyData.str) ∧ Rooms rs := by
        have hi : i < 2 := hi
        match i, hi with
        | 0, _ => exact ⟨_, rfl, R1⟩
        | 1, _ => exact ⟨_, rfl, R2⟩
      rw [e]
      have r1 := R.some
      have r2 := R.many
      have hlen : ∀ {ρ : List Sl}, ρ[6]? = some (.fr (.list (rs.map PyData.str))) → EV K (tCB (rLen K) (tCons (tVar 6) tNil)) ρ (.int (rs.length : Nat)) := fun h => ev_is (ev_cb (ea_cons (ev_var h) ea_nil) cd_lenL) (by rw [List.length_map])
      have h40 : ∀ {ρ : List Sl}, ρ[6]? = some (.fr (.list (rs.map PyData.str))) → EV K (tOp rDivU (tCB (rLen K) (tCons (tVar 6) tNil)) (tC (.int 40))) ρ (.int (((rs.length : Nat) : Int) / 40)) := fun h => ev_op (hlen h) ev_int (od_div (by decide))
      have k40 : 0 ≤ ((rs.length : Nat) : Int) / 40 ∧ ((rs.length : Nat) : Int) / 40 ≤ 1 := by omega
      obtain ⟨bg, mo, hbm, b0, b1, b2⟩ : ∃ bg mo : Int, (if decide (((rs.length : Nat) : Int) = 40) = true then PyData.tuple [.int 120, .int 60] else .tuple [.int 200, .int 20]) = .tuple [.int bg, .int mo] ∧ 0 ≤ bg ∧ 0 < mo ∧ mo ≤ 60 ∧ bg + 5 + mo ≤ 260 := by
        split
        · exact ⟨120, 60, rfl, by decide, by decide, by decide, by decide⟩
        · exact ⟨200, 20, rfl, by decide, by decide, by decide, by decide⟩
      refine q_asgG (d := .tuple [.int bg, .int mo]) (ev_is (ev_ite (et_test (ev_op (hlen rfl) ev_int od_eqI)) (fun _ => ev_tup (ea_cons ev_int (ea_cons ev_int ea_nil)) s2z) fun _ => ev_tup (ea_cons ev_int (ea_cons ev_int ea_nil)) s2z) hbm) (gt_tup rfl (gts_cons gt_name (gts_cons gt_name gts_nil))) ?_
      have hmo : 0 ≤ pI ps 119 % mo ∧ pI ps 119 % mo < mo := ⟨Int.emod_nonneg _ (by omega), Int.emod_lt_of_pos _ b1⟩
      refine q_asgV (evx_drawn (ps := ps) (b := bg) (m := 5 + pI ps 119 % mo) (ev_var (by rfl)) (ev_var (by rfl)) (ev_var (by rfl)) (ev_op ev_int (ev_op (hpool (by rfl) ev_int (by decide) (by decide)) (ev_var (by rfl)) (od_mod b1)) od_addI) R b0 (by omega) (by omega) (by omega)) ?_
      rintro _ ⟨qs, rfl, W⟩
      -- new = [..][:len(rooms)]
      obtain ⟨ys, ey, y1, y2⟩ := cut_few (zs := fr.filter fun z => !decide (z ∈ rs)) (k := rs.length)
      refine q_asgN (d := .list (ys.map PyData.str)) (en_is (en_slL (ds := (fr.filter fun z => !decide (z ∈ rs)).map PyData.str) (lo := none) (hi := some ((rs.length : Nat) : Int)) (ev_N (en_is (en_lc (b := fun i => (fun z => !decide (z ∈ rs)) (fr.getD i Str.empty)) (f := fun i => PyData.str (fr.getD i Str.empty)) (ei_listS (zs := fr) (ev_var (by rfl))) (by omega) fun i hi => ⟨_, _, gt_name, by simp, et_test (ev_is (ev_op (ev_var (by rfl)) (ev_var (by rfl)) (od_ninL rfl (strs_flat _))) (by rw [inD_str])), fun _ => ev_var (by rfl)⟩) (congrArg PyData.list (lc_filterA (p := fun z => !decide (z ∈ rs)) (h := PyData.str) Str.empty fr)))) eo_none (eo_some (hlen rfl))) (congrArg PyData.list ey)) ?_
      refine q_frz (i := 10) rfl ?_
      have y3 : ∀ z ∈ ys, goodS z ∧ z.length ≤ 8 := fun z hz => f2 z (List.mem_filter.mp (y2 z hz)).1
      have hylen : ∀ {ρ : List Sl}, ρ[10]? = some (.fr (.list (ys.map PyData.str))) → EV K (tCB (rLen K) (tCons (tVar 10) tNil)) ρ (.int (ys.length : Nat)) := fun h => ev_is (ev_cb (ea_cons (ev_var h) ea_nil) cd_lenL) (by rw [List.length_map])
      obtain ⟨nk, enk⟩ : ∃ nk : Nat, (((rs.length : Nat) : Int) + 1 - ((ys.length : Nat) : Int)).toNat = nk := ⟨_, rfl⟩
      have hnk : nk ≤ 41 ∧ ys.length + nk = rs.length + 1 := by omega
      have ez := lcD_map (fun k => PyData.str (("z" : Str) ++ strI (2000 + ((k : Nat) : Int)))) nk
      refine q_asgN (d := .list ((ys ++ (List.range nk).map fun k => ("z" : Str) ++ strI (2000 + ((k : Nat) : Int))).map PyData.str)) (en_is (en_op (ev_var rfl) (ev_N (en_lc (n := nk) (b := fun _ => true) (f := fun k => PyData.str (("z" : Str) ++ strI (2000 + ((k : Nat) : Int)))) (enk ▸ ei_rng1 (ea_cons (ev_op (ev_op (hlen rfl) ev_int od_addI) (hylen rfl) od_sub) ea_nil) (by omega) (by omega)) (by omega) fun k hk => ⟨_, _, gt_name, by simp, et_yes, fun _ => ev_op ev_str (ev_cb (ea_cons (ev_op ev_int (ev_var (by rfl)) od_addI) ea_nil) (cd_strI (z_facts k (by omega)).2.1)) (od_addS (by rw [(z_facts k (by omega)).1, sizeLine_eq]; decide))⟩)) (on_addL (by rw [List.length_map, ez, List.length_map, List.length_range, sizeLine_eq]; omega))) (congrArg PyData.list ?_)) ?_
      · rw [ez, List.map_append, List.map_map]
        rfl
      refine q_frz (i := 10) rfl ?_
      have n1 : (ys ++ (List.range nk).map fun k => ("z" : Str) ++ strI (2000 + ((k : Nat) : Int))).length = rs.length + 1 := by rw [List.length_append, List.length_map, List.length_range]; omega
      have n2 : ∀ z ∈ ys ++ (List.range nk).map (fun k => ("z" : Str) ++ strI (2000 + ((k : Nat) : Int))), goodS z ∧ z.length ≤ 8 := fun z hz => by
        rcases List.mem_append.mp hz with h | h
        · exact y3 z h
        · obtain ⟨k, hk, rfl⟩ := List.mem_map.mp h
          exact z_good (by have := List.mem_range.mp hk; omega)
      generalize (ys ++ (List.range nk).map fun k => ("z" : Str) ++ strI (2000 + ((k : Nat) : Int))) = new at n1 n2
      -- the renamings
      refine st_seq (st_forV (eix_list (Pi := fun n item => ∃ ws : List (List (Str × Str)), n = ws.length ∧ (item = fun i => (ws.map wayD).getD i .none) ∧ ∀ us ∈ ws, RnOk rs us) (evx_ways (fs := new) (i := pI ps (230 + ((rs.length : Nat) : Int) / 40)) (ev_var (by rfl)) (ev_var (by rfl)) (hpool (by rfl) (ev_op ev_int (h40 (by rfl)) od_addI) (by omega) (by omega)) R n1 n2) ?_) ?_)
      · rintro d ⟨ws, rfl, hw⟩
        exact ⟨_, rfl, ws, by rw [List.length_map], rfl, hw⟩
      rintro n item ⟨ws, rfl, rfl, hw⟩
      refine ⟨fun _ ρ => ∃ s11 s12 s13 : Sl, ρ = [.fr (.dict [(.none, .list (ns.map PyData.int))]), .fr (.list (ps.map PyData.int)), .fr (.list (small.map PyData.str)), .fr (.list (wide.map PyData.str)), .fr (.list (fr.map PyData.str)), .fr (.int ((i : Nat) : Int)), .fr (.list (rs.map PyData.str)), .fr (.int bg), .fr (.int mo), .fr (schD (srt ltS rs) qs), .fr (.list (new.map PyData.str)), s11, s12, s13, s14, .no], ⟨_, _, _, rfl⟩, ?_, ?_⟩
      · rintro j ρ hj ⟨s11, s12, s13, rfl⟩
        refine ⟨_, _, gt_name, ?_⟩
        obtain ⟨us, e, hu⟩ : ∃ us, (ws.map wayD).getD j .none = wayD us ∧ RnOk rs us := by
          refine ⟨ws[j], ?_, hw _ (List.getElem_mem hj)⟩
          rw [List.getD_eq_getElem?_getD, List.getElem?_map, List.getElem?_eq_getElem hj]
          rfl
        rw [show ((fun i => (ws.map wayD).getD i PyData.none) j) = wayD us from e]
        refine DL.st_no (et_is (et_or (a := false) (b := false) (et_is (et_not (ev_renamed (ev_var (by rfl)) (ev_var (by rfl)) W hu.srt)) (by rfl)) fun _ => et_is (et_not (ev_renamed (us := us.reverse) (ev_var (by rfl)) (ev_is (ev_N (en_revL (ds := us.map pqD) (ev_var (by rfl)))) ?_) W hu.rev.srt)) (by rfl)) (by rfl)) (st_next ⟨_, _, _, rfl⟩)
        show PyData.list _ = .list _
        rw [List.map_reverse]
      rintro ρ ⟨s11, s12, s13, rfl⟩
      -- the moves
      obtain ⟨nl, hnl, nl5⟩ : ∃ nl : List Int, (if decide (((rs.length : Nat) : Int) = 40) = true then PyData.list ([0, 1, 2, 3, -1].map PyData.int) else .list ([4, -2, -5, 1].map PyData.int)) = .list (nl.map PyData.int) ∧ nl.length ≤ 5 := by
        split
        · exact ⟨[0, 1, 2, 3, -1], rfl, by decide⟩
        · exact ⟨[4, -2, -5, 1], rfl, by decide⟩
      refine q_asg (d := .list (nl.map PyData.int)) (ev_is (ev_ite (et_test (ev_op (hlen rfl) ev_int od_eqI)) (fun _ => ev_N (en_lst (ea_cons ev_int (ea_cons ev_int (ea_cons ev_int (ea_cons ev_int (ea_cons (ev_neg ev_int) ea_nil))))) (by show 5 ≤ sizeLine; rw [sizeLine_eq]; decide))) fun _ => ev_N (en_lst (ea_cons ev_int (ea_cons (ev_neg ev_int) (ea_cons (ev_neg ev_int) (ea_cons ev_int ea_nil)))) (by show 4 ≤ sizeLine; rw [sizeLine_eq]; decide))) hnl) ?_
      refine q_no (et_is (et_not (ev_moved (ns := nl ++ [pI ps (240 + ((rs.length : Nat) : Int) / 40) % 81 - 40]) (ev_var (by rfl)) (ev_is (ev_N (en_op (ev_var (by rfl)) (ev_N (en_lst (ea_cons (ev_op (ev_op (hpool (by rfl) (ev_op ev_int (h40 (by rfl)) od_addI) (by omega) (by omega)) ev_int (od_mod (by decide))) ev_int od_sub) ea_nil) (by show 1 ≤ sizeLine; rw [sizeLine_eq]; decide))) (on_addL (by rw [List.length_map, sizeLine_eq]; show nl.length + 1 ≤ _; omega)))) ?_) W (by rw [List.length_append]; show nl.length + 1 ≤ _; omega))) (by rfl)) ?_
      · show PyData.list _ = .list _
        rw [List.map_append]
        rfl
      -- one more
      have hR : ∀ {ρ : List Sl} {j : Nat}, ρ[6]? = some (.fr (.list (rs.map PyData.str))) → j < rs.length → EV K (tOp (rIx K) (tVar 6) (tC (.int ((j : Nat) : Int)))) ρ (.str (rs.getD j Str.empty)) := fun h1 h2 => ev_op (ev_var h1) ev_int (od_ixL (atI_strs (i := ((_ : Nat) : Int)) (by omega) (by omega)))
      refine q_no (et_is (et_and (b := false) (et_test (ev_op (hlen (by rfl)) ev_int od_cmpI)) fun hb => et_is (et_not (ev_renamed (us := [(rs.getD 0 Str.empty, rs.getD 1 Str.empty)]) (ev_var (by rfl)) (ev_N (en_lst (ea_cons (ev_tup (ea_cons (hR (j := 0) (by rfl) (by omega)) (ea_cons (hR (j := 1) (by rfl) (by have := of_decide_eq_true hb; omega)) ea_nil)) s2z) ea_nil) (by show 1 ≤ sizeLine; rw [sizeLine_eq]; decide))) W ?_)) (by rfl)) (by rw [Bool.and_false])) ?_
      · have h2 := of_decide_eq_true hb
        refine RnOk.srt ⟨by show 1 ≤ 41; decide, fun p hp => ?_⟩
        rw [List.mem_singleton.mp hp]
        exact ⟨getD_mem (by omega), R.good _ (getD_mem (by omega))⟩
      exact st_augI (a := ((i : Nat) : Int)) (b := 1) rfl ev_int ⟨_, _, _, _, _, _, _, _, _, rfl⟩
    rintro ρ ⟨s6, s7, s8, s9, s10, s11, s12, s13, s14, rfl⟩
    have hmv : ∀ {ρ : List Sl}, ρ[2]? = some (.fr (.list (small.map PyData.str))) → ρ[1]? = some (.fr (.list (ps.map PyData.int))) → EVX K (tCall (sp_u_law_moved K) [] E0 (tCons (tCall (sp_u_law_drawn K) [] E0 (tCons (tVar 2) (tCons (tVar 1) (tCons (tC (.int 200)) (tCons (tC (.int 9)) tNil))))) (tCons (tLst (tCons (tC (.int 1000)) (tCons (tUn (rU fun i => .int (-i)) (tC (.int 1000))) (tCons (tC (.int 999)) tNil)))) tNil))) ρ (fun d => d = .bool true) := fun {ρ} h1 h2 => by
      unfold sp_u_law_moved
      refine evx_call (Pl := fun ds => ∃ d, DrawnP small d ∧ ds = [d, .list ([1000, -1000, 999].map PyData.int)]) (eax_cons (Pa := DrawnP small) (Pl := fun ds => ds = [.list ([1000, -1000, 999].map PyData.int)]) (evx_drawn (ps := ps) (b := 200) (m := 9) (ev_var h1) (ev_var h2) ev_int ev_int R1 (by decide) (by decide) (by decide) (by omega)) (eax_of (ea_cons (ev_N (en_lst (ea_cons ev_int (ea_cons (ev_neg ev_int) (ea_cons ev_int ea_nil))) (by show 3 ≤ sizeLine; rw [sizeLine_eq]; decide))) ea_nil) rfl) fun d ds h e => ⟨d, h, by rw [e]⟩) ?_
      rintro ds ⟨d, ⟨qs, rfl, W⟩, rfl⟩
      exact ⟨.bool true, ⟨_, qs, [1000, -1000, 999], rfl, W, by decide, rfl⟩, rfl⟩
    refine q_whenV (Pb := fun b => b = false) (etx_and (Pb := fun _ => True) (Pe := fun b => b = false) (etx_of (et_test (ev_op (ev_op (hpool (by rfl) ev_int (by decide) (by decide)) ev_int (od_mod (by decide))) ev_int od_eqI)) trivial) (fun _ => etx_mono (etx_not (Pb := fun b => b = true) (etx_trV (hmv rfl rfl) fun d e => ⟨true, e, rfl⟩)) fun b h => by cases b <;> first | rfl | exact absurd h (by decide)) (fun _ => rfl) (fun _ _ h => h)) (fun h => nomatch h) fun _ => ?_
    refine q_asg (d := schD oneR oneQ) (ev_tup (ds := [.tuple (oneR.map PyData.str), .tuple (oneQ.map pqD)]) (ea_cons (ev_tup (ea_cons ev_str (ea_cons ev_str ea_nil)) s2z) (ea_cons (ev_tup (ea_cons (ev_tup (ea_cons ev_str (ea_cons ev_str ea_nil)) s2z) (ea_cons (ev_tup (ea_cons ev_str (ea_cons ev_str ea_nil)) s2z) ea_nil)) s2z) ea_nil)) s2z) ?_
    have l1 : ∀ {ρ : List Sl} {a b : Str}, EV K (tLst (tCons (tTup (tCons (tC (.str a)) (tCons (tC (.str b)) tNil))) tNil)) ρ (wayD [(a, b)]) := ev_N (en_lst (ea_cons (ev_tup (ea_cons ev_str (ea_cons ev_str ea_nil)) s2z) ea_nil) (by show 1 ≤ sizeLine; rw [sizeLine_eq]; decide))
    have l2 : ∀ {ρ : List Sl} {a b c d : Str}, EV K (tLst (tCons (tTup (tCons (tC (.str a)) (tCons (tC (.str b)) tNil))) (tCons (tTup (tCons (tC (.str c)) (tCons (tC (.str d)) tNil))) tNil))) ρ (wayD [(a, b), (c, d)]) := ev_N (en_lst (ea_cons (ev_tup (ea_cons ev_str (ea_cons ev_str ea_nil)) s2z) (ea_cons (ev_tup (ea_cons ev_str (ea_cons ev_str ea_nil)) s2z) ea_nil)) s2z)
    have o1 : RnOk oneR [("a", "b")] := one_ok (by decide) (by decide +kernel)
    have o2 : RnOk oneR [("a", "c"), ("b", "c")] := one_ok (by decide) (by decide +kernel)
    have o3 : RnOk oneR [("a", "b"), ("b", "a")] := one_ok (by decide) (by decide +kernel)
    refine q_no (et_is (et_or (a := false) (b := false) (et_is (et_not (ev_renamed (ev_var (by rfl)) l1 one_ws o1)) (by rfl)) fun _ => et_is (et_not (ev_renamed (ev_var (by rfl)) l2 one_ws o2)) (by rfl)) (by rfl)) ?_
    unfold sp_u_law_renamed sp_u_law_moved
    refine st_ret (d := .bool true) (ev_is (d := .bool (true && (true && true))) ?_ rfl) rfl
    refine ev_andV (ev_call (ea_cons (ev_var (by rfl)) (ea_cons l2 ea_nil)) ⟨oneR, oneQ, [("a", "b"), ("b", "a")], rfl, one_ws, o3, rfl⟩) fun _ => ?_
    refine ev_andV (ev_call (ea_cons (ev_var (by rfl)) (ea_cons (ev_N (en_lst (ea_cons ev_int (ea_cons ev_int (ea_cons ev_int ea_nil))) (by show 3 ≤ sizeLine; rw [sizeLine_eq]; decide))) ea_nil)) ⟨oneR, oneQ, [1, 2, 3], rfl, one_ws, by decide, rfl⟩) fun _ => ?_
    exact ev_is (ev_op (ev_var (d := .int 2) (by rfl)) ev_int od_eqI) (congrArg PyData.bool (decide_eq_true rfl))

end
set_option maxHeartbeats 0
def d_ordered_pair : He.DefD := ⟨("ordered_pair", none), "ordered_pair", "ordered_pair", defArgs s_ordered_pair, defBody s_ordered_pair, defScope s_ordered_pair, [], []⟩
def d_make_scheme : He.DefD := ⟨("make_scheme", none), "make_scheme", "make_scheme", defArgs s_make_scheme, defBody s_make_scheme, defScope s_make_scheme, [], []⟩
def d_names_after : He.DefD := ⟨("names_after", none), "names_after", "names_after", defArgs s_names_after, defBody s_names_after, defScope s_names_after, [], []⟩
def d_renamed_scheme : He.DefD := ⟨("renamed_scheme", none), "renamed_scheme", "renamed_scheme", defArgs s_renamed_scheme, defBody s_renamed_scheme, defScope s_renamed_scheme, [], []⟩
def d_direction_number : He.DefD := ⟨("direction_number", none), "direction_number", "direction_number", defArgs s_direction_number, defBody s_direction_number, defScope s_direction_number, [], []⟩
def d_direction_by : He.DefD := ⟨("direction_by", none), "direction_by", "direction_by", defArgs s_direction_by, defBody s_direction_by, defScope s_direction_by, [], []⟩
def d_turned_direction : He.DefD := ⟨("turned_direction", none), "turned_direction", "turned_direction", defArgs s_turned_direction, defBody s_turned_direction, defScope s_turned_direction, [], []⟩
def d_mirrored_direction : He.DefD := ⟨("mirrored_direction", none), "mirrored_direction", "mirrored_direction", defArgs s_mirrored_direction, defBody s_mirrored_direction, defScope s_mirrored_direction, [], []⟩
def d_sides_changed : He.DefD := ⟨("sides_changed", none), "sides_changed", "sides_changed", defArgs s_sides_changed, defBody s_sides_changed, defScope s_sides_changed, [], []⟩
def d_turned_scheme : He.DefD := ⟨("turned_scheme", none), "turned_scheme", "turned_scheme", defArgs s_turned_scheme, defBody s_turned_scheme, defScope s_turned_scheme, [], []⟩
def d_mirrored_scheme : He.DefD := ⟨("mirrored_scheme", none), "mirrored_scheme", "mirrored_scheme", defArgs s_mirrored_scheme, defBody s_mirrored_scheme, defScope s_mirrored_scheme, [], []⟩
def d_u_law_pool : He.DefD := ⟨("_law_pool", none), "_law_pool", "_law_pool", defArgs s_u_law_pool, defBody s_u_law_pool, defScope s_u_law_pool, [], []⟩
def d_u_law_names : He.DefD := ⟨("_law_names", none), "_law_names", "_law_names", defArgs s_u_law_names, defBody s_u_law_names, defScope s_u_law_names, [], []⟩
def d_u_law_scheme : He.DefD := ⟨("_law_scheme", none), "_law_scheme", "_law_scheme", defArgs s_u_law_scheme, defBody s_u_law_scheme, defScope s_u_law_scheme, [], []⟩
def d_u_law_drawn : He.DefD := ⟨("_law_drawn", none), "_law_drawn", "_law_drawn", defArgs s_u_law_drawn, defBody s_u_law_drawn, defScope s_u_law_drawn, [], []⟩
def d_u_law_mapped : He.DefD := ⟨("_law_mapped", none), "_law_mapped", "_law_mapped", defArgs s_u_law_mapped, defBody s_u_law_mapped, defScope s_u_law_mapped, [], []⟩
def d_u_law_same : He.DefD := ⟨("_law_same", none), "_law_same", "_law_same", defArgs s_u_law_same, defBody s_u_law_same, defScope s_u_law_same, [], []⟩
def d_u_law_renamed : He.DefD := ⟨("_law_renamed", none), "_law_renamed", "_law_renamed", defArgs s_u_law_renamed, defBody s_u_law_renamed, defScope s_u_law_renamed, [], []⟩
def d_u_law_renamings : He.DefD := ⟨("_law_renamings", none), "_law_renamings", "_law_renamings", defArgs s_u_law_renamings, defBody s_u_law_renamings, defScope s_u_law_renamings, [], []⟩
def d_u_law_moved : He.DefD := ⟨("_law_moved", none), "_law_moved", "_law_moved", defArgs s_u_law_moved, defBody s_u_law_moved, defScope s_u_law_moved, [], []⟩
def d_law : He.DefD := ⟨("law", none), "law", "law", defArgs s_law, defBody s_law, defScope s_law, [], []⟩
def d_i_BadStep : He.DefD := ⟨("BadStep", some "__init__"), "__init__", "BadStep.__init__", defArgs s_i_BadStep, defBody s_i_BadStep, defScope s_i_BadStep, [], []⟩
def d_i_NoHouse : He.DefD := ⟨("NoHouse", some "__init__"), "__init__", "NoHouse.__init__", defArgs s_i_NoHouse, defBody s_i_NoHouse, defScope s_i_NoHouse, [], []⟩
def fn0 : List He.DefD := [d_ordered_pair, d_make_scheme, d_names_after, d_renamed_scheme, d_direction_number, d_direction_by, d_turned_direction, d_mirrored_direction, d_sides_changed, d_turned_scheme, d_mirrored_scheme, d_u_law_pool, d_u_law_names, d_u_law_scheme, d_u_law_drawn, d_u_law_mapped, d_u_law_same, d_u_law_renamed, d_u_law_renamings, d_u_law_moved, d_law, d_i_BadStep, d_i_NoHouse]
def fn : List He.DefD := fn0
def fa0 : List He.Fa := [.glo "ordered_pair", .glo "make_scheme", .glo "names_after", .glo "renamed_scheme", .glo "direction_number", .glo "direction_by", .glo "turned_direction", .glo "mirrored_direction", .glo "sides_changed", .glo "turned_scheme", .glo "mirrored_scheme", .glo "_law_pool", .glo "_law_names", .glo "_law_scheme", .glo "_law_drawn", .glo "_law_mapped", .glo "_law_same", .glo "_law_renamed", .glo "_law_renamings", .glo "_law_moved", .glo "law", .glo "PlanError", .glo "DataError", .glo "CallError"]
def fa1 : List He.Fa := [.glo "BadStep", .glo "NoHouse", .free "int", .free "isinstance", .free "len", .free "list", .free "range", .free "set", .free "sorted", .free "str", .free "tuple", .glo "SIDES", .str "DIRECTIONS" "ENWS", .noat "BadStep" "word", .noat "NoHouse" "paper", .exm "BadStep" "PlanError" true]
def fa : List He.Fa := fa0 ++ fa1
def ex (K : PySem.W.Frag) : Bool := [He.tupB K "SIDES" [.str "E", .str "N", .str "W", .str "S"], exB K (He.ga K "PlanError"), exB K (He.ga K "DataError"), exB K (He.ga K "CallError"), exB K (He.ga K "BadStep"), exB K (He.ga K "NoHouse"), exI K (He.ga K "BadStep"), exI K (He.ga K "NoHouse"), kitR K (He.ga K "BadStep") (He.ga K "BadStep") true, kitR K (He.ga K "BadStep") (He.ga K "CallError") true, kitR K (He.ga K "BadStep") (He.ga K "DataError") false, kitR K (He.ga K "BadStep") (He.ga K "NoHouse") false].all id
def loose0 : List PySem.Str := ["__name__", "PlanError", "DataError", "CallError", "BadStep", "NoHouse", "SIDES", "ordered_pair", "make_scheme", "names_after", "renamed_scheme", "DIRECTIONS", "direction_number", "direction_by", "turned_direction", "mirrored_direction", "sides_changed", "turned_scheme", "mirrored_scheme", "_law_pool", "_law_names", "_law_scheme", "_law_drawn", "_law_mapped"]
def loose1 : List PySem.Str := ["_law_same", "_law_renamed", "_law_renamings", "_law_moved"]
def loose : List PySem.Str := loose0 ++ loose1
abbrev R : PySem.W.OpenRow := PySem.W.OpenLaw.row PySem.Challenge.rw_wallsaswished_k04_renamed_turned_mirrore
abbrev hk : PySem.W.Hook := hookB 5 fa fn ex
def ob (s : PySem.W.SharedT) : AlB := obsBG 5 fa fn ex (HandSHeadRun.getT s)
theorem ob_eq (s : PySem.W.SharedT) : ob s = hk.obs s.abs := obsBG_eq (HandSHeadRun.getT_eq s)
theorem run (w : World) : HandSHeadRun.RunEq R (PySem.W.view R.prog [33]) hk ob 6000 loose w := by
  intro os
  kernel_rfl
theorem txt {K : PySem.W.Frag} {h : Heap} {mg : Str → Option Value} (X : K.In h) (G : h.Ns mainGlobals mg) (c : SaysB fa fn ex K) : Txt K mg where
  f_int := He.free_ok X G (c.d.fact 26 (f := .free "int") rfl)
  f_isinstance := He.free_ok X G (c.d.fact 27 (f := .free "isinstance") rfl)
  f_len := He.free_ok X G (c.d.fact 28 (f := .free "len") rfl)
  f_list := He.free_ok X G (c.d.fact 29 (f := .free "list") rfl)
  f_range := He.free_ok X G (c.d.fact 30 (f := .free "range") rfl)
  f_set := He.free_ok X G (c.d.fact 31 (f := .free "set") rfl)
  f_sorted := He.free_ok X G (c.d.fact 32 (f := .free "sorted") rfl)
  f_str := He.free_ok X G (c.d.fact 33 (f := .free "str") rfl)
  f_tuple := He.free_ok X G (c.d.fact 34 (f := .free "tuple") rfl)
  g_PlanError := He.glo_ok X G (c.d.fact 21 (f := .glo "PlanError") rfl)
  g_DataError := He.glo_ok X G (c.d.fact 22 (f := .glo "DataError") rfl)
  g_CallError := He.glo_ok X G (c.d.fact 23 (f := .glo "CallError") rfl)
  g_BadStep := He.glo_ok X G (c.d.fact 24 (f := .glo "BadStep") rfl)
  g_NoHouse := He.glo_ok X G (c.d.fact 25 (f := .glo "NoHouse") rfl)
  g_SIDES := He.glo_ok X G (c.d.fact 35 (f := .glo "SIDES") rfl)
  t_SIDES := He.tupB_ok (allB c.more 0 rfl)
  c_DIRECTIONS := He.str_ok X G (c.d.fact 36 (f := .str "DIRECTIONS" "ENWS") rfl)
  n_BadStep_word := He.noat_ok (c.d.fact 37 (f := .noat "BadStep" "word") rfl)
  n_NoHouse_paper := He.noat_ok (c.d.fact 38 (f := .noat "NoHouse" "paper") rfl)
  x_PlanError := exB_ok (allB c.more 1 rfl)
  x_DataError := exB_ok (allB c.more 2 rfl)
  x_CallError := exB_ok (allB c.more 3 rfl)
  x_BadStep := exB_ok (allB c.more 4 rfl)
  x_NoHouse := exB_ok (allB c.more 5 rfl)
  i_BadStep := exI_ok (allB c.more 6 rfl)
  i_NoHouse := exI_ok (allB c.more 7 rfl)
  k_BadStep_BadStep := kitR_ok (allB c.more 8 rfl)
  k_BadStep_CallError := kitR_ok (allB c.more 9 rfl)
  k_BadStep_DataError := kitR_ok (allB c.more 10 rfl)
  k_BadStep_NoHouse := kitR_ok (allB c.more 11 rfl)
  e_BadStep_PlanError := He.exm_ok (c.d.fact 39 (f := .exm "BadStep" "PlanError" true) rfl)
theorem oi_BadStep {P : Program} {w : World} {K : PySem.W.Frag} {mg : Str → Option Value} {base : Heap} (T : Txt K mg) (F : ∃ fd, FunD K "__init__" "BadStep.__init__" (defArgs s_i_BadStep) (defBody s_i_BadStep) (defScope s_i_BadStep) [] [] (He.ma K (He.ga K "BadStep") "__init__") fd) : ExOk P w K mg base 1 "BadStep" ["word"] := by
  obtain ⟨fd, F⟩ := F
  exact ⟨T.g_BadStep, T.x_BadStep, T.i_BadStep, fd, fn_init1 F sc_i_BadStep rfl T.x_BadStep.oex T.n_BadStep_word (fun _ _ _ _ _ _ => pss_one (ps_ost (pv 0) (pv 1))), F.bindsN (fun _ _ _ _ _ _ us hl => match us, hl with | [_, _], _ => rfl)⟩
theorem oi_NoHouse {P : Program} {w : World} {K : PySem.W.Frag} {mg : Str → Option Value} {base : Heap} (T : Txt K mg) (F : ∃ fd, FunD K "__init__" "NoHouse.__init__" (defArgs s_i_NoHouse) (defBody s_i_NoHouse) (defScope s_i_NoHouse) [] [] (He.ma K (He.ga K "NoHouse") "__init__") fd) : ExOk P w K mg base 1 "NoHouse" ["paper"] := by
  obtain ⟨fd, F⟩ := F
  exact ⟨T.g_NoHouse, T.x_NoHouse, T.i_NoHouse, fd, fn_init1 F sc_i_NoHouse rfl T.x_NoHouse.oex T.n_NoHouse_paper (fun _ _ _ _ _ _ => pss_one (ps_ost (pv 0) (pv 1))), F.bindsN (fun _ _ _ _ _ _ us hl => match us, hl with | [_, _], _ => rfl)⟩
theorem facts {P : Program} {w : World} {K : PySem.W.Frag} {h : Heap} {mg : Str → Option Value} (X : K.In h) (G : h.Ns mainGlobals mg) (c : SaysB fa fn ex K) {fd : FuncData} (F : FunD K "law" "law" (defArgs s_law) (defBody s_law) (defScope s_law) [] [] (He.ga K "law") fd) (base : Heap) : FnOk P w K mg base CX0 6 (He.ga K "law") fd ["script"] (sp_law K) := by
  have T := txt X G c
  have X_BadStep : ExOk P w K mg base 1 "BadStep" ["word"] := oi_BadStep T (c.d.def_ 21 (d := d_i_BadStep) rfl)
  have X_NoHouse : ExOk P w K mg base 1 "NoHouse" ["paper"] := oi_NoHouse T (c.d.def_ 22 (d := d_i_NoHouse) rfl)
  have O_ordered_pair := ok_ordered_pair (P := P) (w := w) (base := base) T (c.d.def_ 0 (d := d_ordered_pair) rfl) (He.glo_ok X G (c.d.fact 0 (f := .glo "ordered_pair") rfl)) 
  have O_make_scheme := ok_make_scheme (P := P) (w := w) (base := base) T (c.d.def_ 1 (d := d_make_scheme) rfl) (He.glo_ok X G (c.d.fact 1 (f := .glo "make_scheme") rfl)) ‹_›
  have O_names_after := ok_names_after (P := P) (w := w) (base := base) T (c.d.def_ 2 (d := d_names_after) rfl) (He.glo_ok X G (c.d.fact 2 (f := .glo "names_after") rfl)) ‹_›
  have O_renamed_scheme := ok_renamed_scheme (P := P) (w := w) (base := base) T (c.d.def_ 3 (d := d_renamed_scheme) rfl) (He.glo_ok X G (c.d.fact 3 (f := .glo "renamed_scheme") rfl)) ‹_› ‹_›
  have O_direction_number := ok_direction_number (P := P) (w := w) (base := base) T (c.d.def_ 4 (d := d_direction_number) rfl) (He.glo_ok X G (c.d.fact 4 (f := .glo "direction_number") rfl)) 
  have O_direction_by := ok_direction_by (P := P) (w := w) (base := base) T (c.d.def_ 5 (d := d_direction_by) rfl) (He.glo_ok X G (c.d.fact 5 (f := .glo "direction_by") rfl)) 
  have O_turned_direction := ok_turned_direction (P := P) (w := w) (base := base) T (c.d.def_ 6 (d := d_turned_direction) rfl) (He.glo_ok X G (c.d.fact 6 (f := .glo "turned_direction") rfl)) ‹_› ‹_›
  have O_mirrored_direction := ok_mirrored_direction (P := P) (w := w) (base := base) T (c.d.def_ 7 (d := d_mirrored_direction) rfl) (He.glo_ok X G (c.d.fact 7 (f := .glo "mirrored_direction") rfl)) ‹_› ‹_›
  have O_sides_changed := ok_sides_changed (P := P) (w := w) (base := base) T (c.d.def_ 8 (d := d_sides_changed) rfl) (He.glo_ok X G (c.d.fact 8 (f := .glo "sides_changed") rfl)) ‹_›
  have O_turned_scheme := ok_turned_scheme (P := P) (w := w) (base := base) T (c.d.def_ 9 (d := d_turned_scheme) rfl) (He.glo_ok X G (c.d.fact 9 (f := .glo "turned_scheme") rfl)) ‹_› ‹_›
  have O_mirrored_scheme := ok_mirrored_scheme (P := P) (w := w) (base := base) T (c.d.def_ 10 (d := d_mirrored_scheme) rfl) (He.glo_ok X G (c.d.fact 10 (f := .glo "mirrored_scheme") rfl)) ‹_› ‹_›
  have O_u_law_pool := ok_u_law_pool (P := P) (w := w) (base := base) T (c.d.def_ 11 (d := d_u_law_pool) rfl) (He.glo_ok X G (c.d.fact 11 (f := .glo "_law_pool") rfl)) 
  have O_u_law_names := ok_u_law_names (P := P) (w := w) (base := base) T (c.d.def_ 12 (d := d_u_law_names) rfl) (He.glo_ok X G (c.d.fact 12 (f := .glo "_law_names") rfl)) 
  have O_u_law_scheme := ok_u_law_scheme (P := P) (w := w) (base := base) T (c.d.def_ 13 (d := d_u_law_scheme) rfl) (He.glo_ok X G (c.d.fact 13 (f := .glo "_law_scheme") rfl)) 
  have O_u_law_drawn := ok_u_law_drawn (P := P) (w := w) (base := base) T (c.d.def_ 14 (d := d_u_law_drawn) rfl) (He.glo_ok X G (c.d.fact 14 (f := .glo "_law_drawn") rfl)) ‹_›
  have O_u_law_mapped := ok_u_law_mapped (P := P) (w := w) (base := base) T (c.d.def_ 15 (d := d_u_law_mapped) rfl) (He.glo_ok X G (c.d.fact 15 (f := .glo "_law_mapped") rfl)) ‹_›
  have O_u_law_same := ok_u_law_same (P := P) (w := w) (base := base) T (c.d.def_ 16 (d := d_u_law_same) rfl) (He.glo_ok X G (c.d.fact 16 (f := .glo "_law_same") rfl)) 
  have O_u_law_renamed := ok_u_law_renamed (P := P) (w := w) (base := base) T (c.d.def_ 17 (d := d_u_law_renamed) rfl) (He.glo_ok X G (c.d.fact 17 (f := .glo "_law_renamed") rfl)) ‹_› ‹_› ‹_› ‹_›
  have O_u_law_renamings := ok_u_law_renamings (P := P) (w := w) (base := base) T (c.d.def_ 18 (d := d_u_law_renamings) rfl) (He.glo_ok X G (c.d.fact 18 (f := .glo "_law_renamings") rfl)) 
  have O_u_law_moved := ok_u_law_moved (P := P) (w := w) (base := base) T (c.d.def_ 19 (d := d_u_law_moved) rfl) (He.glo_ok X G (c.d.fact 19 (f := .glo "_law_moved") rfl)) ‹_› ‹_› ‹_› ‹_›
  exact ok_law T F ‹_› ‹_› ‹_› ‹_› ‹_› ‹_›
theorem fin {P : Program} {w : World} {K : PySem.W.Frag} {h : Heap} {mg : Str → Option Value} {f : Addr} (X : K.In h) (G : h.Ns mainGlobals mg) (c : SaysB fa fn ex K) (hm : mg ("law" : Str) = some (.ref f)) :
    ∃ (K : PySem.W.Frag) (fd : FuncData) (sp : Sp), K.In h ∧ (∀ (s : Shared) (u : Value), BindsTo s fd ⟨[u], []⟩ [(("script" : Str), u)]) ∧
      (∀ (H : Hp) (a : Addr) (ns : List Int), ns.length ≤ 63 → Only H → SqL K H a (ns.map V.int) → sp [.ref a] H (fun v _ => v = .bl true) fun _ _ _ => False) ∧
      ∀ base : Heap, K.In base → base.Ns mainGlobals mg → FnOk P w K mg base CX0 6 f fd ["script"] sp := by
  obtain ⟨fd, F⟩ := c.d.def_ 20 (d := d_law) rfl
  have e := hm.symm.trans (He.glo_ok X G (c.d.fact 20 (f := .glo "law") rfl))
  cases e
  have b := FunD.bindsA (ps := ["script"]) F fun _ _ _ _ _ _ us hl => match us, hl with | [_], _ => rfl
  refine ⟨K, fd, sp_law K, X, fun s v => b s [v] rfl, fun H a ns hl hO hS => ?_, fun base hK hG => facts X G c F base⟩
  exact ⟨H, _, _, GH.only hO, .cons (.scr hS) .nil, ⟨ns, rfl, hl, rfl⟩, fun v G' H' _ hv => by cases hv; rfl⟩
end K04

open PySem PySem.W PySem.Calls PyProof.Rows
theorem PySem.Challenge.cw_wallsaswished_k04_renamed_turned_mirrore_holds : PySem.Challenge.rw_wallsaswished_k04_renamed_turned_mirrore.Holds := by
  w_on
  o_law
  refine HandSHeadRun.head_any (r := K04.R) (q := view (OpenLaw.row PySem.Challenge.rw_wallsaswished_k04_renamed_turned_mirrore).prog [33])
    (H := K04.hk) (ob := K04.ob) (M := 6000) (loose := K04.loose)
    (d := HandSHeadRun.topDef (OpenLaw.row PySem.Challenge.rw_wallsaswished_k04_renamed_turned_mirrore).prog 33) (kwd := []) K04.ob_eq
    (by kernel_rfl) (fun s => by kernel_rfl) K04.run
    (by kernel_rfl) (by kernel_rfl) (by kernel_rfl) (by rfl) (by first | assumption | decide +kernel)
    (by decide +kernel) ⟨rfl, rfl, rfl, rfl, rfl, by decide +kernel⟩ ?hw ?hc
  case hw => w_witness2
  case hc =>
    refine L2.walk_ofE (l := PySem.Challenge.rw_wallsaswished_k04_renamed_turned_mirrore) (n := 63) (k := 6) (x := "script") (CX := L2.CX0)
      rfl (by decide) (by kernel_rfl) ⟨rfl, by decide, by decide⟩ ?F (fun _ _ _ _ z => z)
    intro w mg fa h Y G hmg0
    obtain ⟨K, KX, c⟩ := Y
    have hn : (HandSHeadRun.topDef (OpenLaw.row PySem.Challenge.rw_wallsaswished_k04_renamed_turned_mirrore).prog 33).name = ("law" : PySem.Str) := by kernel_rfl
    rw [hn] at hmg0
    exact K04.fin KX G c hmg0
