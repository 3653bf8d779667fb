import PyProof.Rows.All
import Wide.All
import OpenK.AllK
import Wide.FinOn
import PySem.Challenge.RW_wallsaswished_k19_pictures
import HandS.Base
import HandS.Call
import HandS.List
import HandS.Comp
import HandS.Dict
import HandS.Iter
import HandS.Walk
import HandS.Words
import HandS.Text
import HandS.TupAny
import HandS.Style
import HandS.IsInst
import HandS.More
import HandS.Flow
import HandS.Replace
import PyProof.StrOps2
import KE.GoesMore
import KE.GoesEnum
import HandS.Defaults
import HandS.Exc
import HandS.ExcOwn
import HandS.ExcInit
import HandS.ExcIs
import HandS.ExcField
import HandS.WordsExc
import KE.KStateDown
import HandS.Head0
import HandS.Head1
import HandS.Head2
import HandS.HeadEnd
import HandS.HeadHook1
import HandS.HeadHook2
import HandS.EndBits
import HandS.DictComp
import HandS.Conv
import KE.KSortTupAny
import HandS.SortOrd
import HandS.TupLe
import PyProof.FString5
import HandS.Zip
import KE.KDictWalk
import HandS.ExcInitHot
import HandS.TupSets
import HandS.SetBool
import HandS.SetTxt0
import HandS.SetFor
import PyProof.Rows.SortShellAny
import KE.KDictList
import HandS.NoneIn
import PyProof.TupleOfStr
import HandS.StrMore
import KE.GoesZip
import HandS.FStr
import PyProof.Rows.StrCountLaw
import PyProof.Rows.StrFirst
import PyProof.Rows.StrLast
import KE.KSetDisp
import HandS.SetIn
import PyProof.Rows.StrRev
set_option Elab.async false
set_option linter.all false
set_option maxRecDepth 100000
/-! DL1: data as values of the abstract heap: Dq, the frozen part G of a heap H, what a step may do (Ext), slots (En). -/
namespace DL
open PySem L2
abbrev D := PyData
def kD : Key → D
  | .inl i => .int i
  | .inr x => .str x
mutual
inductive Dq (K : PySem.W.Frag) (G : Hp) : V → D → Prop
  | non : Dq K G .non .none
  | bl (b : Bool) : Dq K G (.bl b) (.bool b)
  | int (i : Int) : Dq K G (.int i) (.int i)
  | str (x : Str) : Dq K G (.str x) (.str x)
  | lst {a : Addr} {xs : List V} {ds : List D} : G a = some (.lst xs) → DqA K G xs ds → Dq K G (.ref a) (.list ds)
  /-- the script: read alone -/
  | scr {a : Addr} {ns : List Int} : SqL K G a (ns.map V.int) → Dq K G (.ref a) (.dict [(.none, .list (ns.map PyData.int))])
  | tup {a : Addr} {xs : List V} {ds : List D} : SqT K G a xs → DqA K G xs ds → Dq K G (.ref a) (.tuple ds)
  | dK {a : Addr} {es : List (Key × V)} {kvs : List (D × D)} : Rd G a (.dK es) → DqK K G es kvs → Dq K G (.ref a) (.dict kvs)
  | dT {a : Addr} {es : List (List Key × V)} {kvs : List (D × D)} : Rd G a (.dT es) → DqT K G es kvs → Dq K G (.ref a) (.dict ((.none, .none) :: kvs))
  /-- a list [int, list of ints, int, int] that defs change; a list of ints that defs change: nobody tells what is in it -/
  | sta {l r : Addr} : G l = some (.own r) → G r = some (.rng 0 0) → Dq K G (.ref l) (.dict [(.bool true, .none)])
  | opq {a : Addr} {lo : Int} : G a = some (.rng lo 1) → Dq K G (.ref a) (.dict [(.bool false, .int ((a : Nat) : Int))])
  /-- an address, nothing is told of what stands there -/
  | raw (a : Addr) : Dq K G (.ref a) (.dict [(.bool true, .int ((a : Nat) : Int))])
inductive DqA (K : PySem.W.Frag) (G : Hp) : List V → List D → Prop
  | nil : DqA K G [] []
  | cons {v : V} {vs : List V} {d : D} {ds : List D} : Dq K G v d → DqA K G vs ds → DqA K G (v :: vs) (d :: ds)
inductive DqK (K : PySem.W.Frag) (G : Hp) : List (Key × V) → List (D × D) → Prop
  | nil : DqK K G [] []
  | cons {k : Key} {v : V} {es : List (Key × V)} {d : D} {kvs : List (D × D)} : Dq K G v d → DqK K G es kvs → DqK K G ((k, v) :: es) ((kD k, d) :: kvs)
inductive DqT (K : PySem.W.Frag) (G : Hp) : List (List Key × V) → List (D × D) → Prop
  | nil : DqT K G [] []
  | cons {k : List Key} {v : V} {es : List (List Key × V)} {d : D} {kvs : List (D × D)} : Dq K G v d → DqT K G es kvs → DqT K G ((k, v) :: es) ((.tuple (k.map kD), d) :: kvs)
end
/-- what stands in G stands in H (a dict may be locked there) -/
def isDic : HO → Bool
  | .dK _ => true
  | .dT _ => true
  | _ => false
/-- a list of ints, of which those from the place lo on are unlike and within 0 .. 10000 -/
def okL (lo : Int) (ns : List Int) : Prop := 0 ≤ lo ∧ lo ≤ 5000000 ∧ (ns.drop lo.toNat).Nodup ∧ ∀ n ∈ ns.drop lo.toNat, 0 ≤ n ∧ n ≤ 10000
/-- what a mark in the frozen part says of the heap -/
def stH (u : HO) (H : Hp) (a : Addr) : Prop := match u with
  | .own r => ∃ x y z : Int, H a = some (.lst [.int x, .ref r, .int y, .int z])
  | .rng lo hi => ∃ ns : List Int, H a = some (.lst (ns.map V.int)) ∧ (hi = 1 → okL lo ns)
  | _ => False
def isMk : HO → Bool
  | .own _ => true
  | .rng _ _ => true
  | _ => false
theorem stH.mk {u : HO} {H : Hp} {a : Addr} (h : stH u H a) : isMk u = true ∧ ∃ xs, H a = some (.lst xs) := by
  unfold stH at h
  split at h
  · obtain ⟨x, y, z, h⟩ := h
    exact ⟨rfl, _, h⟩
  · obtain ⟨ns, h, _⟩ := h
    exact ⟨rfl, _, h⟩
  · exact h.elim
theorem stH.eq {u : HO} {H H' : Hp} {a b : Addr} (e : H' b = H a) (h : stH u H a) : stH u H' b := by
  unfold stH at h ⊢
  split at h
  · obtain ⟨x, y, z, h⟩ := h
    exact ⟨x, y, z, e.trans h⟩
  · obtain ⟨ns, h, k⟩ := h
    exact ⟨ns, e.trans h, k⟩
  · exact h.elim
def GHat (u : HO) (H : Hp) (a : Addr) : Prop := (H a = some u ∧ isMk u = false) ∨ (isDic u = true ∧ ∃ o, H a = some (.frz o u)) ∨ stH u H a
theorem GHat.eq {u : HO} {H H' : Hp} {a : Addr} (h : GHat u H a) (e : H' a = H a) : GHat u H' a := by
  rcases h with h | ⟨d, o, h⟩ | h
  · exact .inl ⟨e.trans h.1, h.2⟩
  · exact .inr (.inl ⟨d, o, e.trans h⟩)
  · exact .inr (.inr (h.eq e))
def GH (G H : Hp) : Prop := ∀ a u, G a = some u → GHat u H a
theorem GHat.of {u : HO} {H : Hp} {a : Addr} (h : H a = some u) (nm : isMk u = false := by rfl) : GHat u H a := .inl ⟨h, nm⟩
theorem GH.refl {H : Hp} (nm : ∀ a u, H a = some u → isMk u = false) : GH H H := fun a u h => .of h (nm a u h)
/-- the frozen part grows -/
def Sub (A B : Hp) : Prop := ∀ a u, A a = some u → B a = some u
theorem Sub.of {A B : Hp} (x : ∀ a o, A a = some o → B a = some o) : Sub A B := x
theorem Sub.refl (A : Hp) : Sub A A := fun _ _ h => h
theorem Sub.trans {A B C : Hp} (x : Sub A B) (y : Sub B C) : Sub A C := fun a u h => y a u (x a u h)
theorem Sub.rd {A B : Hp} (x : Sub A B) {a : Addr} {u : HO} (h : Rd A a u) : Rd B a u := by
  rcases h with h | ⟨o, h⟩
  · exact .inl (x a u h)
  · exact .inr ⟨o, x a _ h⟩
theorem Sub.l {K : PySem.W.Frag} {A B : Hp} {a : Addr} {xs : List V} (x : Sub A B) (h : SqL K A a xs) : SqL K B a xs := by
  rcases h with h | h
  · exact .inl (x.rd h)
  · exact .inr h
theorem Sub.t {K : PySem.W.Frag} {A B : Hp} {a : Addr} {xs : List V} (x : Sub A B) (h : SqT K A a xs) : SqT K B a xs := by
  rcases h with h | h
  · exact .inl (x.rd h)
  · exact .inr h
theorem Sub.gh {A B C : Hp} (x : Sub A B) (y : GH B C) : GH A C := fun a u h => y a u (x a u h)
theorem GH.rd {A B : Hp} (x : GH A B) {a : Addr} {u : HO} (h : Rd A a u) (nm : isMk u = false := by rfl) : Rd B a u := by
  rcases h with h | ⟨o, h⟩
  · rcases x a u h with h | ⟨_, o, h⟩ | h
    · exact .inl h.1
    · exact .inr ⟨o, h⟩
    · rw [h.mk.1] at nm
      cases nm
  · rcases x a _ h with h | ⟨d, _⟩ | h
    · exact .inr ⟨o, h.1⟩
    · cases d
    · cases h.mk.1
theorem GH.lst {A B : Hp} (x : GH A B) {a : Addr} {xs : List V} (h : A a = some (.lst xs)) : B a = some (.lst xs) := by
  rcases x a _ h with h | ⟨d, _⟩ | h
  · exact h.1
  · cases d
  · cases h.mk.1
theorem GH.l {K : PySem.W.Frag} {A B : Hp} {a : Addr} {xs : List V} (x : GH A B) (h : SqL K A a xs) : SqL K B a xs := by
  rcases h with h | h
  · exact .inl (x.rd h)
  · exact .inr h
theorem GH.t {K : PySem.W.Frag} {A B : Hp} {a : Addr} {xs : List V} (x : GH A B) (h : SqT K A a xs) : SqT K B a xs := by
  rcases h with h | h
  · exact .inl (x.rd h)
  · exact .inr h
theorem GH.none {A B : Hp} {a : Addr} (x : GH A B) (h : B a = none) : A a = none := by
  cases e : A a with
  | none => rfl
  | some o =>
    rcases x a o e with ⟨q, _⟩ | ⟨_, _, q⟩ | q
    · rw [h] at q; cases q
    · rw [h] at q; cases q
    · obtain ⟨_, xs, q⟩ := q.mk
      rw [h] at q; cases q
mutual
theorem Dq.mono {K : PySem.W.Frag} {A B : Hp} (x : Sub A B) : ∀ {v : V} {d : D}, Dq K A v d → Dq K B v d
  | _, _, .non => .non
  | _, _, .bl b => .bl b
  | _, _, .int i => .int i
  | _, _, .str z => .str z
  | _, _, .lst h t => .lst (x _ _ h) (DqA.mono x t)
  | _, _, .scr h => .scr (x.l h)
  | _, _, .tup h t => .tup (x.t h) (DqA.mono x t)
  | _, _, .dK h t => .dK (x.rd h) (DqK.mono x t)
  | _, _, .dT h t => .dT (x.rd h) (DqT.mono x t)
  | _, _, .sta h t => .sta (x _ _ h) (x _ _ t)
  | _, _, .opq h => .opq (x _ _ h)
  | _, _, .raw a => .raw a
theorem DqA.mono {K : PySem.W.Frag} {A B : Hp} (x : Sub A B) : ∀ {vs : List V} {ds : List D}, DqA K A vs ds → DqA K B vs ds
  | _, _, .nil => .nil
  | _, _, .cons h t => .cons (Dq.mono x h) (DqA.mono x t)
theorem DqK.mono {K : PySem.W.Frag} {A B : Hp} (x : Sub A B) : ∀ {vs : List (Key × V)} {ds : List (D × D)}, DqK K A vs ds → DqK K B vs ds
  | _, _, .nil => .nil
  | _, _, .cons h t => .cons (Dq.mono x h) (DqK.mono x t)
theorem DqT.mono {K : PySem.W.Frag} {A B : Hp} (x : Sub A B) : ∀ {vs : List (List Key × V)} {ds : List (D × D)}, DqT K A vs ds → DqT K B vs ds
  | _, _, .nil => .nil
  | _, _, .cons h t => .cons (Dq.mono x h) (DqT.mono x t)
end
section
variable {K : PySem.W.Frag} {G : Hp}
theorem DqA.length : ∀ {ds : List D} {vs : List V}, DqA K G vs ds → vs.length = ds.length
  | [], _, h => by cases h; rfl
  | _ :: ds, _, h => by
    cases h with
    | cons _ t => exact congrArg Nat.succ (DqA.length t)
theorem DqA.get : ∀ {ds : List D} {vs : List V} {i : Nat} {d : D}, DqA K G vs ds → ds[i]? = some d → ∃ v, vs[i]? = some v ∧ Dq K G v d
  | [], _, _, _, _, e => by simp at e
  | _ :: ds, _, i, d, h, e => by
    cases h with
    | cons x t =>
      cases i with
      | zero => simp at e; subst e; exact ⟨_, rfl, x⟩
      | succ i =>
        obtain ⟨v, h1, h2⟩ := DqA.get (i := i) (d := d) t (by simpa using e)
        exact ⟨v, by simpa using h1, h2⟩
theorem DqA.got {ds : List D} {vs : List V} {i : Nat} {v : V} (h : DqA K G vs ds) (e : vs[i]? = some v) : ∃ d, ds[i]? = some d ∧ Dq K G v d := by
  have hl := h.length
  have hi : i < vs.length := (List.getElem?_eq_some_iff.mp e).1
  obtain ⟨u, h1, h2⟩ := h.get (i := i) (d := ds[i]'(by omega)) (by simp [show i < ds.length by omega])
  rw [e] at h1
  cases h1
  exact ⟨_, by simp [show i < ds.length by omega], h2⟩
theorem DqA.append : ∀ {ds es : List D} {vs us : List V}, DqA K G vs ds → DqA K G us es → DqA K G (vs ++ us) (ds ++ es)
  | [], _, _, _, h, t => by cases h; exact t
  | _ :: ds, _, _, _, h, t => by
    cases h with
    | cons x r => exact .cons x (DqA.append r t)
theorem DqA.take : ∀ {ds : List D} {vs : List V} (n : Nat), DqA K G vs ds → DqA K G (vs.take n) (ds.take n)
  | [], _, n, h => by cases h; simpa using DqA.nil
  | _ :: ds, _, 0, h => by simpa using DqA.nil
  | _ :: ds, _, n + 1, h => by
    cases h with
    | cons x r => exact .cons x (DqA.take n r)
theorem DqA.drop : ∀ {ds : List D} {vs : List V} (n : Nat), DqA K G vs ds → DqA K G (vs.drop n) (ds.drop n)
  | [], _, n, h => by cases h; simpa using DqA.nil
  | _ :: ds, _, 0, h => h
  | _ :: ds, _, n + 1, h => by
    cases h with
    | cons x r => exact DqA.drop n r
theorem DqA.set : ∀ {ds : List D} {vs : List V} (i : Nat) {v : V} {d : D}, DqA K G vs ds → Dq K G v d → DqA K G (vs.set i v) (ds.set i d)
  | [], _, i, _, _, h, _ => by cases h; simpa using DqA.nil
  | _ :: ds, _, 0, _, _, h, x => by
    cases h with
    | cons _ r => exact .cons x r
  | _ :: ds, _, i + 1, _, _, h, x => by
    cases h with
    | cons y r => exact .cons y (DqA.set i r x)
theorem DqA.one {v : V} {d : D} (h : Dq K G v d) : DqA K G [v] [d] := .cons h .nil
theorem DqA.rev : ∀ {ds : List D} {vs : List V}, DqA K G vs ds → DqA K G vs.reverse ds.reverse
  | [], _, h => by cases h; exact .nil
  | _ :: ds, _, h => by
    cases h with
    | cons x r =>
      rw [List.reverse_cons, List.reverse_cons]
      exact (DqA.rev r).append (.one x)
end
def noTup : HO → Bool
  | .tup _ => false
  | _ => true
/-- a is one of the lists that defs change -/
def mkd (G : Hp) (a : Addr) : Prop := ∃ u, G a = some u ∧ isMk u = true
/-- from (G, H) to (G', H'): nothing that stood was changed, but what is marked; what was owned stays out of the frozen part -/
structure Ext (G H G' H' : Hp) : Prop where
  gg : ∀ a o, G a = some o → G' a = some o
  hh : ∀ a o, H a = some o → H' a = some o ∨ mkd G a
  gh : GH G' H'
  own : ∀ a o, H a = some o → noTup o = true → G a = none → G' a = none
theorem Ext.refl {G H : Hp} (g : GH G H) : Ext G H G H := ⟨fun _ _ h => h, fun _ _ h => .inl h, g, fun _ _ _ _ h => h⟩
theorem Ext.at {G H G' H' : Hp} (x : Ext G H G' H') {a : Addr} {o : HO} (hG : G a = none) (h : H a = some o) : H' a = some o := by
  rcases x.hh a o h with h | ⟨u, h, _⟩
  · exact h
  · rw [hG] at h
    cases h
theorem Ext.gone {G H G' H' : Hp} (x : Ext G H G' H') {a : Addr} (h : H' a = none) : H a = none := by
  cases e : H a with
  | none => rfl
  | some o =>
    rcases x.hh a o e with q | ⟨u, q, _⟩
    · rw [h] at q
      cases q
    · have := x.gh.none h
      rw [x.gg a u q] at this
      cases this
theorem Ext.ownT {G H G1 H1 G2 H2 : Hp} (x : Ext G H G1 H1) (y : Ext G1 H1 G2 H2) {a : Addr} {o : HO} (h : H a = some o) (t : noTup o = true) (n : G a = none) : G2 a = none :=
  y.own a o (x.at n h) t (x.own a o h t n)
theorem mkd.mono {G G' : Hp} (g : ∀ a o, G a = some o → G' a = some o) {a : Addr} (m : mkd G a) : mkd G' a := m.imp fun u h => ⟨g a u h.1, h.2⟩
theorem Ext.mark {G H G1 H1 : Hp} (x : Ext G H G1 H1) {a : Addr} {o : HO} (h : H a = some o) (m : mkd G1 a) : mkd G a := by
  rcases x.hh a o h with h1 | m'
  · obtain ⟨u, m, mu⟩ := m
    cases e : G a with
    | some v =>
      have := x.gg a v e
      rw [m] at this
      cases this
      exact ⟨u, e, mu⟩
    | none =>
      cases t : noTup o with
      | true =>
        rw [x.own a o h t e] at m
        cases m
      | false =>
        rcases x.gh a u m with ⟨_, q⟩ | ⟨d, _⟩ | q
        · rw [mu] at q
          cases q
        · cases u <;> first | (cases mu; done) | (cases d; done)
        · obtain ⟨_, xs, q⟩ := q.mk
          rw [h1] at q
          cases q
          cases t
  · exact m'
theorem Ext.trans {G H G1 H1 G2 H2 : Hp} (x : Ext G H G1 H1) (y : Ext G1 H1 G2 H2) : Ext G H G2 H2 := by
  refine ⟨fun a o h => y.gg a o (x.gg a o h), fun a o h => ?_, y.gh, fun a o h t n => x.ownT y h t n⟩
  rcases x.hh a o h with h1 | m
  · exact (y.hh a o h1).imp id (x.mark h)
  · exact .inr m
theorem Ext.g {G H G' H' : Hp} (x : Ext G H G' H') : Sub G G' := x.gg
/-- a new object is laid and frozen -/
theorem Ext.new {G H : Hp} {p : Addr} {o : HO} (g : GH G H) (h : H p = none) (nm : isMk o = false := by rfl) : Ext G H (upd G p o) (upd H p o) := by
  refine ⟨fun a u e => ?_, fun a u e => .inl ?_, fun a u r => ?_, fun a u e _ n => ?_⟩
  · rw [upd_ne (ne_of_none e (g.none h))]; exact e
  · rw [upd_ne (ne_of_none e h)]; exact e
  · by_cases ha : a = p
    · subst ha
      rw [upd_same] at r
      cases r
      exact .of upd_same nm
    · rw [upd_ne ha] at r
      exact (g a u r).eq (upd_ne ha)
  · rw [upd_ne (ne_of_none e h)]; exact n
/-- a new object is laid and owned -/
theorem Ext.fresh {G H : Hp} {p : Addr} {o : HO} (g : GH G H) (h : H p = none) : Ext G H G (upd H p o) := by
  refine ⟨fun a u e => e, fun a u e => .inl ?_, fun a u r => ?_, fun a u e _ n => n⟩
  · rw [upd_ne (ne_of_none e h)]; exact e
  · have hp : a ≠ p := by
      rintro rfl
      rw [g.none h] at r; cases r
    exact (g a u r).eq (upd_ne hp)
/-- a slot: not told, a frozen datum, an owned one -/
inductive Sl where
  | no
  | fr (d : D)
  | ow (d : D)
  /-- a caught exception at a, its dict at dd -/
  | ex (a dd : Addr) (fl : List (Str × D))
  /-- a dict of owned lists -/
  | ne (kls : List (Key × List D))
/-- the fields of an exception -/
def DqF (K : PySem.W.Frag) (G : Hp) (fs : List (Str × V)) (fl : List (Str × D)) : Prop := fs.map (·.1) = fl.map (·.1) ∧ DqA K G (fs.map (·.2)) (fl.map (·.2))
theorem DqF.mono {K : PySem.W.Frag} {A B : Hp} (x : Sub A B) {fs : List (Str × V)} {fl : List (Str × D)} (h : DqF K A fs fl) : DqF K B fs fl := ⟨h.1, h.2.mono x⟩
theorem DqF.get {K : PySem.W.Frag} {G : Hp} {f : Str} {d : D} : ∀ {fl : List (Str × D)} {fs : List (Str × V)}, DqF K G fs fl → fl.lookup f = some d → ∃ v, fs.lookup f = some v ∧ Dq K G v d
  | [], _, _, e => by simp at e
  | (g, d') :: fl, [], h, _ => by
    have := h.1
    simp at this
  | (g, d') :: fl, (g', v') :: fs, h, e => by
    obtain ⟨h1, h2⟩ := h
    simp only [List.map_cons] at h1 h2
    injection h1 with e1 h1
    cases h2 with
    | cons a b =>
      subst e1
      by_cases q : f = g'
      · subst q
        rw [List.lookup_cons_self] at e
        cases e
        exact ⟨v', List.lookup_cons_self, a⟩
      · have q2 : (f == g') = false := by simpa using q
        rw [List.lookup_cons, q2] at e
        rw [List.lookup_cons, q2]
        exact DqF.get ⟨h1, b⟩ e
/-- what stands at an owned address -/
inductive OwnC (K : PySem.W.Frag) (G H : Hp) (l : Addr) : D → Prop
  | lst {vs : List V} {ds : List D} : H l = some (.lst vs) → DqA K G vs ds → OwnC K G H l (.list ds)
  | dK {es : List (Key × V)} {kvs : List (D × D)} : H l = some (.dK es) → DqK K G es kvs → OwnC K G H l (.dict kvs)
  | dT {es : List (List Key × V)} {kvs : List (D × D)} : H l = some (.dT es) → DqT K G es kvs → OwnC K G H l (.dict ((.none, .none) :: kvs))
theorem OwnC.there {K : PySem.W.Frag} {G H : Hp} {l : Addr} {d : D} (x : OwnC K G H l d) : ∃ o, H l = some o ∧ noTup o = true := by
  cases x with
  | lst h _ => exact ⟨_, h, rfl⟩
  | dK h _ => exact ⟨_, h, rfl⟩
  | dT h _ => exact ⟨_, h, rfl⟩
theorem OwnC.there2 {K : PySem.W.Frag} {G H : Hp} {l : Addr} {d : D} (x : OwnC K G H l d) : ∃ o, H l = some o ∧ noTup o = true ∧ isMk o = false := by
  cases x with
  | lst h _ => exact ⟨_, h, rfl, rfl⟩
  | dK h _ => exact ⟨_, h, rfl, rfl⟩
  | dT h _ => exact ⟨_, h, rfl, rfl⟩
theorem OwnC.ext {K : PySem.W.Frag} {G H G' H' : Hp} {l : Addr} {d : D} (x : OwnC K G H l d) (g : Sub G G') (h : H' l = H l) : OwnC K G' H' l d := by
  cases x with
  | lst e r => exact .lst (h.trans e) (r.mono g)
  | dK e r => exact .dK (h.trans e) (r.mono g)
  | dT e r => exact .dT (h.trans e) (r.mono g)
/-- an owned object read as a frozen one, over the whole heap -/
theorem OwnC.dq {K : PySem.W.Frag} {G H B : Hp} {l : Addr} {d : D} (x : OwnC K G H l d) (g : Sub G B) (h : ∀ o, H l = some o → B l = some o) : Dq K B (.ref l) d := by
  cases x with
  | lst e r => exact .lst (h _ e) (r.mono g)
  | dK e r => exact .dK (.inl (h _ e)) (r.mono g)
  | dT e r => exact .dT (.inl (h _ e)) (r.mono g)
/-- the lists at these addresses -/
inductive NeL (K : PySem.W.Frag) (G H : Hp) : List (Key × V) → List Addr → List (Key × List D) → Prop
  | nil : NeL K G H [] [] []
  | cons {k : Key} {a : Addr} {vs : List V} {ds : List D} {es : List (Key × V)} {as : List Addr} {kls : List (Key × List D)} : H a = some (.lst vs) → DqA K G vs ds → NeL K G H es as kls → NeL K G H ((k, .ref a) :: es) (a :: as) ((k, ds) :: kls)
theorem NeL.go {K : PySem.W.Frag} {G H G' H' : Hp} (g : Sub G G') : ∀ {es : List (Key × V)} {as : List Addr} {kls : List (Key × List D)}, NeL K G H es as kls → (∀ a ∈ as, H' a = H a) → NeL K G' H' es as kls
  | _, _, _, .nil, _ => .nil
  | _, _, _, .cons h r t, e => .cons ((e _ (List.mem_cons_self ..)).trans h) (r.mono g) (NeL.go g t fun a ha => e a (List.mem_cons_of_mem _ ha))
theorem NeL.there {K : PySem.W.Frag} {G H : Hp} {es : List (Key × V)} {as : List Addr} {kls : List (Key × List D)} (x : NeL K G H es as kls) : ∀ a ∈ as, ∃ vs, H a = some (.lst vs) := by
  induction x with
  | nil =>
    intro a ha
    cases ha
  | cons h _ _ ih =>
    intro a ha
    rcases List.mem_cons.mp ha with rfl | ha
    · exact ⟨_, h⟩
    · exact ih a ha
theorem NeL.det {K : PySem.W.Frag} {G H G' H' : Hp} : ∀ {es : List (Key × V)} {as bs : List Addr} {kls lls : List (Key × List D)}, NeL K G H es as kls → NeL K G' H' es bs lls → as = bs
  | _, _, _, _, _, .nil, .nil => rfl
  | _, _, _, _, _, .cons _ _ t, .cons _ _ u => congrArg _ (NeL.det t u)
def NeC (K : PySem.W.Frag) (G H : Hp) (l : Addr) (as : List Addr) (kls : List (Key × List D)) : Prop := (∃ es, H l = some (.dK es) ∧ NeL K G H es as kls) ∧ (l :: as).Nodup
theorem NeC.there {K : PySem.W.Frag} {G H : Hp} {l : Addr} {as : List Addr} {kls : List (Key × List D)} (x : NeC K G H l as kls) : ∀ a ∈ l :: as, ∃ o, H a = some o ∧ noTup o = true := fun a ha => by
  obtain ⟨⟨es, h1, h2⟩, _⟩ := x
  rcases List.mem_cons.mp ha with rfl | ha
  · exact ⟨_, h1, rfl⟩
  · obtain ⟨vs, h⟩ := h2.there a ha
    exact ⟨_, h, rfl⟩
theorem NeC.there2 {K : PySem.W.Frag} {G H : Hp} {l : Addr} {as : List Addr} {kls : List (Key × List D)} (x : NeC K G H l as kls) {a : Addr} {u : HO} (ha : a ∈ l :: as) (r : H a = some u) : isMk u = false := by
  obtain ⟨⟨es, h1, h2⟩, _⟩ := x
  rcases List.mem_cons.mp ha with rfl | ha
  · rw [h1] at r
    cases r
    rfl
  · obtain ⟨vs, h⟩ := h2.there a ha
    rw [h] at r
    cases r
    rfl
theorem NeC.go {K : PySem.W.Frag} {G H G' H' : Hp} {l : Addr} {as : List Addr} {kls : List (Key × List D)} (x : NeC K G H l as kls) (g : Sub G G') (e : ∀ a ∈ l :: as, H' a = H a) : NeC K G' H' l as kls := by
  obtain ⟨⟨es, h1, h2⟩, n⟩ := x
  exact ⟨⟨es, (e l (List.mem_cons_self ..)).trans h1, h2.go g fun a ha => e a (List.mem_cons_of_mem _ ha)⟩, n⟩
structure En (K : PySem.W.Frag) (G0 H0 G H : Hp) (σ : St) (ρ : List Sl) : Prop where
  len : σ.length = ρ.length
  ext : Ext G0 H0 G H
  fr : ∀ (i : Nat) (d : D), ρ[i]? = some (Sl.fr d) → ∃ v, σ[i]? = some (some v) ∧ Dq K G v d
  ow : ∀ (i : Nat) (d : D), ρ[i]? = some (Sl.ow d) → ∃ l, σ[i]? = some (some (V.ref l)) ∧ H0 l = none ∧ G l = none ∧ OwnC K G H l d
  ex : ∀ (i : Nat) (a dd : Addr) (fl : List (Str × D)), ρ[i]? = some (Sl.ex a dd fl) → σ[i]? = some (some (V.ref a)) ∧ ∃ fs, G dd = some (.xd fs) ∧ DqF K G fs fl
  dis : ∀ (i j : Nat) (d e : D) (l : Addr), ρ[i]? = some (Sl.ow d) → ρ[j]? = some (Sl.ow e) → σ[i]? = some (some (V.ref l)) → σ[j]? = some (some (V.ref l)) → i = j
  ne : ∀ (i : Nat) (kls : List (Key × List D)), ρ[i]? = some (Sl.ne kls) → ∃ l as, σ[i]? = some (some (V.ref l)) ∧ NeC K G H l as kls ∧ ∀ a ∈ l :: as, H0 a = none ∧ G a = none ∧ ∀ (j : Nat) (e : D), ρ[j]? = some (Sl.ow e) → σ[j]? ≠ some (some (V.ref a))
  ned : ∀ (i j : Nat) (x y : List (Key × List D)), ρ[i]? = some (Sl.ne x) → ρ[j]? = some (Sl.ne y) → i = j
section
variable {K : PySem.W.Frag} {G0 H0 G H G' H' : Hp} {σ : St} {ρ : List Sl}
theorem En.go (E : En K G0 H0 G H σ ρ) (x : Ext G H G' H') : En K G0 H0 G' H' σ ρ := by
  refine ⟨E.len, E.ext.trans x, fun i d e => ?_, fun i d e => ?_, fun i a dd fl e => ?_, E.dis, fun i kls e => ?_, E.ned⟩
  · obtain ⟨v, h1, h2⟩ := E.fr i d e
    exact ⟨v, h1, h2.mono x.g⟩
  · obtain ⟨l, h1, h2, h3, h4⟩ := E.ow i d e
    obtain ⟨o, ho, ht⟩ := h4.there
    exact ⟨l, h1, h2, x.own l o ho ht h3, h4.ext x.g ((x.at h3 ho).trans ho.symm)⟩
  · obtain ⟨h1, fs, h2, h3⟩ := E.ex i a dd fl e
    exact ⟨h1, fs, x.gg _ _ h2, h3.mono x.g⟩
  · obtain ⟨l, as, h1, h2, h3⟩ := E.ne i kls e
    refine ⟨l, as, h1, h2.go x.g fun a ha => ?_, fun a ha => ?_⟩
    · obtain ⟨o, ho, _⟩ := h2.there a ha
      exact (x.at (h3 a ha).2.1 ho).trans ho.symm
    · obtain ⟨o, ho, ht⟩ := h2.there a ha
      obtain ⟨b1, b2, b3⟩ := h3 a ha
      exact ⟨b1, x.own a o ho ht b2, b3⟩
theorem En.gh (E : En K G0 H0 G H σ ρ) : GH G H := E.ext.gh
theorem set_get? {α : Type} {xs : List α} {i j : Nat} {a b : α} (h : (xs.set i a)[j]? = some b) : (j = i ∧ i < xs.length ∧ a = b) ∨ (j ≠ i ∧ xs[j]? = some b) := by
  by_cases e : j = i
  · subst e
    have hi : j < (xs.set j a).length := (List.getElem?_eq_some_iff.mp h).1
    rw [List.length_set] at hi
    rw [List.getElem?_set_self hi] at h
    exact .inl ⟨rfl, hi, Option.some.inj h⟩
  · rw [List.getElem?_set_ne (Ne.symm e)] at h
    exact .inr ⟨e, h⟩
theorem En.ne_set (E : En K G0 H0 G H σ ρ) {i : Nat} {v : Option V} {s : Sl} (hs : ∀ kls, s ≠ Sl.ne kls) (ho : ∀ d, s ≠ Sl.ow d) (j : Nat) (kls : List (Key × List D)) (q : (ρ.set i s)[j]? = some (Sl.ne kls)) :
    ∃ l as, (σ.set i v)[j]? = some (some (V.ref l)) ∧ NeC K G H l as kls ∧ ∀ a ∈ l :: as, H0 a = none ∧ G a = none ∧ ∀ (k : Nat) (e : D), (ρ.set i s)[k]? = some (Sl.ow e) → (σ.set i v)[k]? ≠ some (some (V.ref a)) := by
  rcases set_get? q with ⟨_, _, x⟩ | ⟨nj, q⟩
  · exact absurd x (hs _)
  · obtain ⟨l, as, h1, h2, h3⟩ := E.ne j kls q
    refine ⟨l, as, by rw [List.getElem?_set_ne (Ne.symm nj)]; exact h1, h2, fun a ha => ?_⟩
    obtain ⟨b1, b2, b3⟩ := h3 a ha
    refine ⟨b1, b2, fun k e z => ?_⟩
    rcases set_get? z with ⟨_, _, x⟩ | ⟨nk, z⟩
    · exact absurd x (ho _)
    · rw [List.getElem?_set_ne (Ne.symm nk)]
      exact b3 k e z
theorem En.ned_set (E : En K G0 H0 G H σ ρ) {i : Nat} {s : Sl} (hs : ∀ kls, s ≠ Sl.ne kls) (j k : Nat) (x y : List (Key × List D)) (q : (ρ.set i s)[j]? = some (Sl.ne x)) (q' : (ρ.set i s)[k]? = some (Sl.ne y)) : j = k := by
  rcases set_get? q with ⟨_, _, z⟩ | ⟨_, q⟩
  · exact absurd z (hs _)
  · rcases set_get? q' with ⟨_, _, z⟩ | ⟨_, q'⟩
    · exact absurd z (hs _)
    · exact E.ned j k x y q q'
theorem En.setF (E : En K G0 H0 G H σ ρ) {v : V} {d : D} (i : Nat) (h : Dq K G v d) : En K G0 H0 G H (σ.set i (some v)) (ρ.set i (Sl.fr d)) := by
  refine ⟨by rw [List.length_set, List.length_set, E.len], E.ext, fun j e q => ?_, fun j e q => ?_, fun j a dd fl q => ?_, fun j k e e' l q q' r r' => ?_, E.ne_set (fun _ z => nomatch z) (fun _ z => nomatch z), E.ned_set (fun _ z => nomatch z)⟩
  · rcases set_get? q with ⟨rfl, hi, x⟩ | ⟨ne, q⟩
    · cases x
      exact ⟨v, by rw [List.getElem?_set_self (by rw [E.len]; exact hi)], h⟩
    · obtain ⟨u, h1, h2⟩ := E.fr j e q
      exact ⟨u, by rw [List.getElem?_set_ne (Ne.symm ne)]; exact h1, h2⟩
  · rcases set_get? q with ⟨_, _, x⟩ | ⟨ne, q⟩
    · cases x
    · obtain ⟨l, h1, h2⟩ := E.ow j e q
      exact ⟨l, by rw [List.getElem?_set_ne (Ne.symm ne)]; exact h1, h2⟩
  · rcases set_get? q with ⟨_, _, x⟩ | ⟨ne, q⟩
    · cases x
    · obtain ⟨h1, h2⟩ := E.ex j a dd fl q
      exact ⟨by rw [List.getElem?_set_ne (Ne.symm ne)]; exact h1, h2⟩
  · rcases set_get? q with ⟨_, _, x⟩ | ⟨ne, q⟩
    · cases x
    · rcases set_get? q' with ⟨_, _, x⟩ | ⟨ne', q'⟩
      · cases x
      · rw [List.getElem?_set_ne (Ne.symm ne)] at r
        rw [List.getElem?_set_ne (Ne.symm ne')] at r'
        exact E.dis j k e e' l q q' r r'
/-- an owned object comes into slot i -/
theorem En.setO (E : En K G0 H0 G H σ ρ) {l : Addr} {d : D} (i : Nat) (h0 : H0 l = none) (hG : G l = none) (h : OwnC K G H l d) (hd : ∀ (j : Nat) (e : D), j ≠ i → ρ[j]? = some (Sl.ow e) → σ[j]? ≠ some (some (V.ref l))) (hn : ∀ (j : Nat) (kls : List (Key × List D)) (l' : Addr) (as : List Addr), ρ[j]? = some (Sl.ne kls) → σ[j]? = some (some (V.ref l')) → NeC K G H l' as kls → l ∉ l' :: as) :
    En K G0 H0 G H (σ.set i (some (.ref l))) (ρ.set i (Sl.ow d)) := by
  refine ⟨by rw [List.length_set, List.length_set, E.len], E.ext, fun j e q => ?_, fun j e q => ?_, fun j a dd fl q => ?_, fun j k e e' a q q' r r' => ?_, fun j kls q => ?_, E.ned_set (fun _ z => nomatch z)⟩
  · rcases set_get? q with ⟨_, _, x⟩ | ⟨ne, q⟩
    · cases x
    · obtain ⟨u, h1, h2⟩ := E.fr j e q
      exact ⟨u, by rw [List.getElem?_set_ne (Ne.symm ne)]; exact h1, h2⟩
  · rcases set_get? q with ⟨rfl, hi, x⟩ | ⟨ne, q⟩
    · cases x
      exact ⟨l, by rw [List.getElem?_set_self (by rw [E.len]; exact hi)], h0, hG, h⟩
    · obtain ⟨l, h1, h2⟩ := E.ow j e q
      exact ⟨l, by rw [List.getElem?_set_ne (Ne.symm ne)]; exact h1, h2⟩
  · rcases set_get? q with ⟨_, _, x⟩ | ⟨ne, q⟩
    · cases x
    · obtain ⟨h1, h2⟩ := E.ex j a dd fl q
      exact ⟨by rw [List.getElem?_set_ne (Ne.symm ne)]; exact h1, h2⟩
  · rcases set_get? q with ⟨rfl, hi, x⟩ | ⟨ne, q⟩
    · rcases set_get? q' with ⟨rfl, _, x⟩ | ⟨ne', q'⟩
      · rfl
      · rw [List.getElem?_set_self (by rw [E.len]; exact hi)] at r
        rw [List.getElem?_set_ne (Ne.symm ne')] at r'
        cases r
        exact absurd r' (hd k e' ne' q')
    · rcases set_get? q' with ⟨rfl, hi, x⟩ | ⟨ne', q'⟩
      · rw [List.getElem?_set_self (by rw [E.len]; exact hi)] at r'
        rw [List.getElem?_set_ne (Ne.symm ne)] at r
        cases r'
        exact absurd r (hd j e ne (by assumption))
      · rw [List.getElem?_set_ne (Ne.symm ne)] at r
        rw [List.getElem?_set_ne (Ne.symm ne')] at r'
        exact E.dis j k e e' a q q' r r'
  · rcases set_get? q with ⟨_, _, x⟩ | ⟨nj, q⟩
    · cases x
    · obtain ⟨l', as, h1, h2, h3⟩ := E.ne j kls q
      have hln := hn j kls l' as q h1 h2
      refine ⟨l', as, by rw [List.getElem?_set_ne (Ne.symm nj)]; exact h1, h2, fun a ha => ?_⟩
      obtain ⟨b1, b2, b3⟩ := h3 a ha
      refine ⟨b1, b2, fun k e z => ?_⟩
      rcases set_get? z with ⟨rfl, hi, _⟩ | ⟨nk, z⟩
      · rw [List.getElem?_set_self (by rw [E.len]; exact hi)]
        intro y
        injection y with y
        injection y with y
        injection y with y
        subst y
        exact hln ha
      · rw [List.getElem?_set_ne (Ne.symm nk)]
        exact b3 k e z
/-- a new owned object -/
theorem En.setN (E : En K G0 H0 G H σ ρ) {l : Addr} {d : D} (i : Nat) (x : Ext G H G' H') (hH : H l = none) (hG : G' l = none) (h : OwnC K G' H' l d) : En K G0 H0 G' H' (σ.set i (some (.ref l))) (ρ.set i (Sl.ow d)) := by
  refine (E.go x).setO i ?_ hG h (fun j e ne q r => ?_) fun j kls l' as q r c hm => ?_
  · exact E.ext.gone hH
  · obtain ⟨l', h1, _, _, h4⟩ := E.ow j e q
    obtain ⟨o, ho, ht⟩ := h4.there
    rw [h1] at r
    cases r
    rw [hH] at ho; cases ho
  · obtain ⟨l0, as0, h1, h2, h2'⟩ := E.ne j kls q
    rw [h1] at r
    cases r
    obtain ⟨⟨es, e1, e2⟩, nd⟩ := h2
    obtain ⟨⟨es', e3, e4⟩, _⟩ := c
    have e5 := x.at (h2' _ (List.mem_cons_self ..)).2.1 e1
    rw [e5] at e3
    cases e3
    have e6 := e2.det e4
    subst e6
    obtain ⟨o, ho, _⟩ := (show NeC K G H l' as0 kls from ⟨⟨es, e1, e2⟩, nd⟩).there l hm
    rw [hH] at ho
    cases ho
/-- an owned object is frozen from now on -/
theorem En.frzAs (E : En K G0 H0 G H σ ρ) {i : Nat} {d d' : D} {l : Addr} {o : HO} (hi : ρ[i]? = some (Sl.ow d)) (h1 : σ[i]? = some (some (V.ref l))) (ho : GHat o H l) (hd : (∀ a u, G a = some u → upd G l o a = some u) → Dq K (upd G l o) (.ref l) d') : En K G0 H0 (upd G l o) H σ (ρ.set i (Sl.fr d')) := by
  obtain ⟨l', h1', h2, h3, h4⟩ := E.ow i d hi
  rw [h1] at h1'
  injection h1' with h1'
  injection h1' with h1'
  injection h1' with h1'
  subst h1'
  have gg : ∀ a u, G a = some u → upd G l o a = some u := fun a u e => by
    rw [upd_ne (ne_of_none e h3)]; exact e
  have gh' : GH (upd G l o) H := fun a u r => by
    by_cases ha : a = l
    · subst ha
      rw [upd_same] at r
      cases r
      exact ho
    · rw [upd_ne ha] at r
      exact E.gh a u r
  have hil : i < ρ.length := (List.getElem?_eq_some_iff.mp hi).1
  refine ⟨by rw [List.length_set, E.len], ⟨fun a u e => gg a u (E.ext.gg a u e), E.ext.hh, gh', fun a u e t n => ?_⟩, fun j e q => ?_, fun j e q => ?_, fun j a dd fl q => ?_, fun j k e e' a q q' r r' => ?_, fun j kls q => ?_, E.ned_set (fun _ z => nomatch z)⟩
  · rw [upd_ne (ne_of_none e h2)]; exact E.ext.own a u e t n
  · rcases set_get? q with ⟨rfl, _, x⟩ | ⟨ne, q⟩
    · cases x
      exact ⟨_, h1, hd gg⟩
    · obtain ⟨v, a1, a2⟩ := E.fr j e q
      exact ⟨v, a1, a2.mono (Sub.of gg)⟩
  · rcases set_get? q with ⟨_, _, x⟩ | ⟨ne, q⟩
    · cases x
    · obtain ⟨b, a1, a2, a3, a4⟩ := E.ow j e q
      have hb : b ≠ l := by
        rintro rfl
        exact ne (E.dis j i e d b q hi a1 h1)
      exact ⟨b, a1, a2, by rw [upd_ne hb]; exact a3, a4.ext (Sub.of gg) rfl⟩
  · rcases set_get? q with ⟨_, _, x⟩ | ⟨ne, q⟩
    · cases x
    · obtain ⟨a1, fs, a2, a3⟩ := E.ex j a dd fl q
      exact ⟨a1, fs, gg _ _ a2, a3.mono (Sub.of gg)⟩
  · rcases set_get? q with ⟨_, _, x⟩ | ⟨ne, q⟩
    · cases x
    · rcases set_get? q' with ⟨_, _, x⟩ | ⟨ne', q'⟩
      · cases x
      · exact E.dis j k e e' a q q' r r'
  · rcases set_get? q with ⟨_, _, x⟩ | ⟨nj, q⟩
    · cases x
    · obtain ⟨l', as, c1, c2, c3⟩ := E.ne j kls q
      refine ⟨l', as, c1, c2.go (Sub.of gg) fun _ _ => rfl, fun a ha => ?_⟩
      obtain ⟨b1, b2, b3⟩ := c3 a ha
      have hal : a ≠ l := fun z => b3 i d hi (by rw [z]; exact h1)
      refine ⟨b1, by rw [upd_ne hal]; exact b2, fun k e z => ?_⟩
      rcases set_get? z with ⟨_, _, x⟩ | ⟨_, z⟩
      · cases x
      · exact b3 k e z
theorem En.freeze (E : En K G0 H0 G H σ ρ) {i : Nat} {d : D} (hi : ρ[i]? = some (Sl.ow d)) : ∃ G', En K G0 H0 G' H σ (ρ.set i (Sl.fr d)) := by
  obtain ⟨l, h1, h2, h3, h4⟩ := E.ow i d hi
  obtain ⟨o, ho, ht, hm⟩ := h4.there2
  exact ⟨_, E.frzAs hi h1 (.of ho hm) fun gg => h4.dq (Sub.of gg) fun u hu => by rw [upd_same]; rw [ho] at hu; exact hu⟩
/-- the owned object of slot i is changed -/
theorem En.write (E : En K G0 H0 G H σ ρ) {i : Nat} {d d' : D} {l : Addr} {o : HO} (hi : ρ[i]? = some (Sl.ow d)) (hl : σ[i]? = some (some (V.ref l))) (h : OwnC K G (upd H l o) l d') : En K G0 H0 G (upd H l o) σ (ρ.set i (Sl.ow d')) := by
  obtain ⟨l', h1, h2, h3, h4⟩ := E.ow i d hi
  rw [hl] at h1
  cases h1
  have hil : i < ρ.length := (List.getElem?_eq_some_iff.mp hi).1
  have ghn : GH G (upd H l o) := fun a u r => by
    have ne : a ≠ l := by
      rintro rfl
      rw [h3] at r; cases r
    exact (E.gh a u r).eq (upd_ne ne)
  refine ⟨by rw [List.length_set, E.len], ⟨E.ext.gg, fun a u e => by rw [upd_ne (ne_of_none e h2)]; exact E.ext.hh a u e, ghn, E.ext.own⟩, fun j e q => ?_, fun j e q => ?_, fun j a dd fl q => ?_, fun j k e e' a q q' r r' => ?_, fun j kls q => ?_, E.ned_set (fun _ z => nomatch z)⟩
  · rcases set_get? q with ⟨_, _, x⟩ | ⟨ne, q⟩
    · cases x
    · exact E.fr j e q
  · rcases set_get? q with ⟨rfl, _, x⟩ | ⟨ne, q⟩
    · cases x
      exact ⟨l, hl, h2, h3, h⟩
    · obtain ⟨b, a1, a2, a3, a4⟩ := E.ow j e q
      have hb : b ≠ l := by
        rintro rfl
        exact ne (E.dis j i e d b q hi a1 hl)
      exact ⟨b, a1, a2, a3, a4.ext (Sub.refl G) (upd_ne hb)⟩
  · rcases set_get? q with ⟨_, _, x⟩ | ⟨ne, q⟩
    · cases x
    · exact E.ex j a dd fl q
  · have hx : ∀ {j : Nat} {e : D}, (ρ.set i (Sl.ow d'))[j]? = some (Sl.ow e) → ∃ e', ρ[j]? = some (Sl.ow e') := fun {j e} z => by
      rcases set_get? z with ⟨rfl, _, x⟩ | ⟨ne, z⟩
      · exact ⟨d, hi⟩
      · exact ⟨e, z⟩
    obtain ⟨f, q⟩ := hx q
    obtain ⟨f', q'⟩ := hx q'
    exact E.dis j k f f' a q q' r r'
  · rcases set_get? q with ⟨_, _, x⟩ | ⟨nj, q⟩
    · cases x
    · obtain ⟨l', as, c1, c2, c3⟩ := E.ne j kls q
      refine ⟨l', as, c1, c2.go (Sub.refl G) fun a ha => ?_, fun a ha => ?_⟩
      · have hal : a ≠ l := fun z => (c3 a ha).2.2 i d hi (by rw [z]; exact hl)
        exact upd_ne hal
      · obtain ⟨b1, b2, b3⟩ := c3 a ha
        refine ⟨b1, b2, fun k e z => ?_⟩
        rcases set_get? z with ⟨rfl, _, _⟩ | ⟨_, z⟩
        · exact b3 k d hi
        · exact b3 k e z
/-- a slot is forgotten -/
theorem En.drop (E : En K G0 H0 G H σ ρ) {ρ' : List Sl} (hl : ρ'.length = ρ.length) (h : ∀ (i : Nat) (s : Sl), ρ'[i]? = some s → s = Sl.no ∨ ρ[i]? = some s) : En K G0 H0 G H σ ρ' := by
  have hf : ∀ i d, ρ'[i]? = some (Sl.fr d) → ρ[i]? = some (Sl.fr d) := fun i d e => (h i _ e).elim (fun z => nomatch z) id
  have ho : ∀ i d, ρ'[i]? = some (Sl.ow d) → ρ[i]? = some (Sl.ow d) := fun i d e => (h i _ e).elim (fun z => nomatch z) id
  have hx : ∀ (i : Nat) (a dd : Addr) (fl : List (Str × D)), ρ'[i]? = some (Sl.ex a dd fl) → ρ[i]? = some (Sl.ex a dd fl) := fun i a dd fl e => (h i _ e).elim (fun z => nomatch z) id
  have hk : ∀ (i : Nat) (kls : List (Key × List D)), ρ'[i]? = some (Sl.ne kls) → ρ[i]? = some (Sl.ne kls) := fun i kls e => (h i _ e).elim (fun z => nomatch z) id
  exact ⟨E.len.trans hl.symm, E.ext, fun i d e => E.fr i d (hf i d e), fun i d e => E.ow i d (ho i d e), fun i a dd fl e => E.ex i a dd fl (hx i a dd fl e), fun i j d e l q q' => E.dis i j d e l (ho i d q) (ho j e q'), fun i kls e => (E.ne i kls (hk i kls e)).imp fun l z => z.imp fun as z => ⟨z.1, z.2.1, fun a ha => ⟨(z.2.2 a ha).1, (z.2.2 a ha).2.1, fun j e q => (z.2.2 a ha).2.2 j e (ho j e q)⟩⟩, fun i j x y q q' => E.ned i j x y (hk i x q) (hk j y q')⟩
/-- a slot that is written over without a word -/
theorem En.setX (E : En K G0 H0 G H σ ρ) (i : Nat) (v : Option V) : En K G0 H0 G H (σ.set i v) (ρ.set i Sl.no) := by
  refine ⟨by rw [List.length_set, List.length_set, E.len], E.ext, fun j e q => ?_, fun j e q => ?_, fun j a dd fl q => ?_, fun j k e e' l q q' r r' => ?_, E.ne_set (fun _ z => nomatch z) (fun _ z => nomatch z), E.ned_set (fun _ z => nomatch z)⟩
  · rcases set_get? q with ⟨_, _, x⟩ | ⟨ne, q⟩
    · cases x
    · obtain ⟨u, h1, h2⟩ := E.fr j e q
      exact ⟨u, by rw [List.getElem?_set_ne (Ne.symm ne)]; exact h1, h2⟩
  · rcases set_get? q with ⟨_, _, x⟩ | ⟨ne, q⟩
    · cases x
    · obtain ⟨l, h1, h2⟩ := E.ow j e q
      exact ⟨l, by rw [List.getElem?_set_ne (Ne.symm ne)]; exact h1, h2⟩
  · rcases set_get? q with ⟨_, _, x⟩ | ⟨ne, q⟩
    · cases x
    · obtain ⟨h1, h2⟩ := E.ex j a dd fl q
      exact ⟨by rw [List.getElem?_set_ne (Ne.symm ne)]; exact h1, h2⟩
  · rcases set_get? q with ⟨_, _, x⟩ | ⟨ne, q⟩
    · cases x
    · rcases set_get? q' with ⟨_, _, x⟩ | ⟨ne', q'⟩
      · cases x
      · rw [List.getElem?_set_ne (Ne.symm ne)] at r
        rw [List.getElem?_set_ne (Ne.symm ne')] at r'
        exact E.dis j k e e' l q q' r r'
/-- a caught exception comes into slot i -/
theorem En.setE (E : En K G0 H0 G H σ ρ) {a dd : Addr} {fs : List (Str × V)} {fl : List (Str × D)} (i : Nat) (h : G dd = some (.xd fs)) (hf : DqF K G fs fl) : En K G0 H0 G H (σ.set i (some (.ref a))) (ρ.set i (Sl.ex a dd fl)) := by
  have X := E.setX i (some (.ref a))
  refine ⟨by rw [List.length_set, List.length_set, E.len], E.ext, fun j e q => ?_, fun j e q => ?_, fun j b db gl q => ?_, fun j k e e' l q q' r r' => ?_, E.ne_set (fun _ z => nomatch z) (fun _ z => nomatch z), E.ned_set (fun _ z => nomatch z)⟩
  · rcases set_get? q with ⟨_, _, x⟩ | ⟨ne, q⟩
    · cases x
    · exact X.fr j e (by rw [List.getElem?_set_ne (Ne.symm ne)]; exact q)
  · rcases set_get? q with ⟨_, _, x⟩ | ⟨ne, q⟩
    · cases x
    · exact X.ow j e (by rw [List.getElem?_set_ne (Ne.symm ne)]; exact q)
  · rcases set_get? q with ⟨rfl, hi, x⟩ | ⟨ne, q⟩
    · cases x
      exact ⟨by rw [List.getElem?_set_self (by rw [E.len]; exact hi)], fs, h, hf⟩
    · exact X.ex j b db gl (by rw [List.getElem?_set_ne (Ne.symm ne)]; exact q)
  · rcases set_get? q with ⟨_, _, x⟩ | ⟨ne, q⟩
    · cases x
    · rcases set_get? q' with ⟨_, _, x⟩ | ⟨ne', q'⟩
      · cases x
      · exact X.dis j k e e' l (by rw [List.getElem?_set_ne (Ne.symm ne)]; exact q) (by rw [List.getElem?_set_ne (Ne.symm ne')]; exact q') r r'
end
end DL
/-! DL2: what a reading evaluates to, by data (EV, EVN, ET, EA), what a statement does by data (ST), loops, comprehensions, calls. -/
namespace DL
open PySem L2
theorem En.re {K : PySem.W.Frag} {G0 H0 G H : Hp} {σ : St} {ρ : List Sl} (E : En K G0 H0 G H σ ρ) : En K G H0 G H σ ρ :=
  ⟨E.len, ⟨fun _ _ h => h, fun a o h => (E.ext.hh a o h).imp id (mkd.mono E.ext.gg), E.ext.gh, fun _ _ _ _ h => h⟩, E.fr, E.ow, E.ex, E.dis, E.ne, E.ned⟩
theorem Ext.back {G0 H0 G1 H1 G2 H2 : Hp} (x : Ext G0 H0 G1 H1) (y : Ext G1 H0 G2 H2) : Ext G0 H0 G2 H2 :=
  ⟨fun a o h => y.gg a o (x.gg a o h), fun a o h => (y.hh a o h).imp id (x.mark h), y.gh, fun a o h t n => y.own a o h t (x.own a o h t n)⟩
theorem En.back {K : PySem.W.Frag} {G0 H0 G1 H1 G H : Hp} {σ : St} {ρ : List Sl} (x : Ext G0 H0 G1 H1) (E : En K G1 H0 G H σ ρ) : En K G0 H0 G H σ ρ :=
  ⟨E.len, x.back E.ext, E.fr, E.ow, E.ex, E.dis, E.ne, E.ned⟩
section
variable (K : PySem.W.Frag)
def EV (te : TE) (ρ : List Sl) (d : D) : Prop := ∀ (G0 H0 G H : Hp) (σ : St) (Q : VK), En K G0 H0 G H σ ρ → (∀ v G' H', Ext G H G' H' → Dq K G' v d → Q v H') → te σ H Q
def EVN (te : TE) (ρ : List Sl) (d : D) : Prop := ∀ (G0 H0 G H : Hp) (σ : St) (Q : VK), En K G0 H0 G H σ ρ → (∀ l G' H', Ext G H G' H' → H l = none → G' l = none → OwnC K G' H' l d → Q (.ref l) H') → te σ H Q
def ET (tt : TT) (ρ : List Sl) (b : Bool) : Prop := ∀ (G0 H0 G H : Hp) (σ : St) (Q : Bool → Hp → Prop), En K G0 H0 G H σ ρ → (∀ G' H', Ext G H G' H' → Q b H') → tt σ H Q
def EA (ta : TA) (ρ : List Sl) (ds : List D) : Prop := ∀ (G0 H0 G H : Hp) (σ : St) (Q : List V → Hp → Prop), En K G0 H0 G H σ ρ → (∀ vs G' H', Ext G H G' H' → DqA K G' vs ds → Q vs H') → ta σ H Q
def EO (to : TO) (ρ : List Sl) (o : Option Int) : Prop := ∀ (G0 H0 G H : Hp) (σ : St) (Q : Option Int → Hp → Prop), En K G0 H0 G H σ ρ → (∀ G' H', Ext G H G' H' → Q o H') → to σ H Q
/-- a two-place operation on data; its answer an old or frozen thing | a new object -/
def OD (r : R2) (a b d : D) : Prop := ∀ (x y : V) (G H : Hp) (Q : VK), GH G H → Dq K G x a → Dq K G y b → (∀ v G' H', Ext G H G' H' → Dq K G' v d → Q v H') → r x y H Q
def ON (r : R2) (a b d : D) : Prop := ∀ (x y : V) (G H : Hp) (Q : VK), GH G H → Dq K G x a → Dq K G y b → (∀ l G' H', Ext G H G' H' → H l = none → G' l = none → OwnC K G' H' l d → Q (.ref l) H') → r x y H Q
/-- a call by values -/
def CD (r : List V → Hp → VK → Prop) (ds : List D) (d : D) : Prop := ∀ (xs : List V) (G H : Hp) (Q : VK), GH G H → DqA K G xs ds → (∀ v G' H', Ext G H G' H' → Dq K G' v d → Q v H') → r xs H Q
def CN (r : List V → Hp → VK → Prop) (ds : List D) (d : D) : Prop := ∀ (xs : List V) (G H : Hp) (Q : VK), GH G H → DqA K G xs ds → (∀ l G' H', Ext G H G' H' → H l = none → G' l = none → OwnC K G' H' l d → Q (.ref l) H') → r xs H Q
end
section
variable {K : PySem.W.Frag} {ρ : List Sl} {ta tb te : TE} {tt tu : TT} {d d1 d2 : D}
/-- a new object is frozen at once -/
theorem own_frz {G H G' H' : Hp} {l : Addr} (x : Ext G H G' H') (hH : H l = none) (hG : G' l = none) (h : OwnC K G' H' l d) : ∃ G'', Ext G H G'' H' ∧ Dq K G'' (.ref l) d := by
  obtain ⟨o, ho, ht, hm⟩ := h.there2
  have gg : ∀ a u, G' a = some u → upd G' l o a = some u := fun a u e => by rw [upd_ne (ne_of_none e hG)]; exact e
  refine ⟨upd G' l o, ⟨fun a u e => gg a u (x.gg a u e), x.hh, fun a u r => ?_, fun a u e t n => ?_⟩, h.dq (Sub.of gg) fun u hu => by rw [upd_same]; rw [ho] at hu; exact hu⟩
  · by_cases ha : a = l
    · subst ha
      rw [upd_same] at r
      cases r
      exact .of ho hm
    · rw [upd_ne ha] at r
      exact x.gh a u r
  · rw [upd_ne (ne_of_none e hH)]; exact x.own a u e t n
theorem ev_N (h : EVN K te ρ d) : EV K te ρ d := fun G0 H0 G H σ Q E q => h G0 H0 G H σ Q E fun l G' H' x hH hG ho => by
  obtain ⟨G'', x', hd⟩ := own_frz x hH hG ho
  exact q _ _ _ x' hd
theorem ev_var {i : Nat} (h : ρ[i]? = some (.fr d)) : EV K (tVar i) ρ d := fun G0 H0 G H σ Q E q => by
  obtain ⟨v, h1, h2⟩ := E.fr i d h
  exact ⟨v, h1, q v G H (.refl E.gh) h2⟩
theorem ev_int {i : Int} : EV K (tC (.int i)) ρ (.int i) := fun _ _ G H _ _ E q => q _ G H (.refl E.gh) (.int i)
theorem ev_str {x : Str} : EV K (tC (.str x)) ρ (.str x) := fun _ _ G H _ _ E q => q _ G H (.refl E.gh) (.str x)
theorem ev_bl {b : Bool} : EV K (tC (.bl b)) ρ (.bool b) := fun _ _ G H _ _ E q => q _ G H (.refl E.gh) (.bl b)
theorem ev_non : EV K (tC .non) ρ .none := fun _ _ G H _ _ E q => q _ G H (.refl E.gh) .non
theorem ev_op {r : R2} (ha : EV K ta ρ d1) (hb : EV K tb ρ d2) (ho : OD K r d1 d2 d) : EV K (tOp r ta tb) ρ d := fun G0 H0 G H σ Q E q =>
  ha G0 H0 G H σ _ E fun x G1 H1 e1 h1 => hb G0 H0 G1 H1 σ _ (E.go e1) fun y G2 H2 e2 h2 => ho x y G2 H2 Q e2.gh (h1.mono e2.g) h2 fun v G3 H3 e3 h3 => q v G3 H3 ((e1.trans e2).trans e3) h3
theorem en_op {r : R2} (ha : EV K ta ρ d1) (hb : EV K tb ρ d2) (ho : ON K r d1 d2 d) : EVN K (tOp r ta tb) ρ d := fun G0 H0 G H σ Q E q =>
  ha G0 H0 G H σ _ E fun x G1 H1 e1 h1 => hb G0 H0 G1 H1 σ _ (E.go e1) fun y G2 H2 e2 h2 => ho x y G2 H2 Q e2.gh (h1.mono e2.g) h2 fun l G3 H3 e3 hH hG h3 => by
    refine q l G3 H3 ((e1.trans e2).trans e3) ?_ hG h3
    exact e1.gone (e2.gone hH)
theorem ev_un {r : V → Hp → VK → Prop} (ha : EV K ta ρ d1) (ho : ∀ (x : V) (G H : Hp) (Q : VK), GH G H → Dq K G x d1 → (∀ v G' H', Ext G H G' H' → Dq K G' v d → Q v H') → r x H Q) : EV K (tUn r ta) ρ d := fun G0 H0 G H σ Q E q =>
  ha G0 H0 G H σ _ E fun x G1 H1 e1 h1 => ho x G1 H1 Q e1.gh h1 fun v G3 H3 e3 h3 => q v G3 H3 (e1.trans e3) h3
theorem ev_neg {i : Int} (ha : EV K ta ρ (.int i)) : EV K (tUn (rU fun i => .int (-i)) ta) ρ (.int (-i)) := ev_un ha fun x G H Q g hx q => by
  cases hx
  exact ⟨i, rfl, q _ G H (.refl g) (.int _)⟩
theorem ea_nil : EA K tNil ρ [] := fun _ _ G H _ _ E q => q [] G H (.refl E.gh) .nil
theorem ea_cons {tr : TA} {ds : List D} (h : EV K ta ρ d) (hr : EA K tr ρ ds) : EA K (tCons ta tr) ρ (d :: ds) := fun G0 H0 G H σ Q E q =>
  h G0 H0 G H σ _ E fun x G1 H1 e1 h1 => hr G0 H0 G1 H1 σ _ (E.go e1) fun xs G2 H2 e2 h2 => q _ G2 H2 (e1.trans e2) (.cons (h1.mono e2.g) h2)
theorem ev_cb {r : List V → Hp → VK → Prop} {t : TA} {ds : List D} (h : EA K t ρ ds) (hc : CD K r ds d) : EV K (tCB r t) ρ d := fun G0 H0 G H σ Q E q =>
  h G0 H0 G H σ _ E fun xs G1 H1 e1 h1 => hc xs G1 H1 Q e1.gh h1 fun v G2 H2 e2 h2 => q v G2 H2 (e1.trans e2) h2
theorem en_cb {r : List V → Hp → VK → Prop} {t : TA} {ds : List D} (h : EA K t ρ ds) (hc : CN K r ds d) : EVN K (tCB r t) ρ d := fun G0 H0 G H σ Q E q =>
  h G0 H0 G H σ _ E fun xs G1 H1 e1 h1 => hc xs G1 H1 Q e1.gh h1 fun l G2 H2 e2 hH hG h2 => by
    refine q l G2 H2 (e1.trans e2) ?_ hG h2
    exact e1.gone hH
theorem ev_tup {t : TA} {ds : List D} (h : EA K t ρ ds) (hl : ds.length ≤ sizeLine) : EV K (tTup t) ρ (.tuple ds) := fun G0 H0 G H σ Q E q =>
  h G0 H0 G H σ _ E fun xs G1 H1 e1 h1 => ⟨by rw [h1.length]; exact hl, fun p hp => by
    have x := Ext.new (o := .tup xs) e1.gh hp
    exact q _ _ _ (e1.trans x) (.tup (SqT.of upd_same) (h1.mono x.g))⟩
theorem en_lst {t : TA} {ds : List D} (h : EA K t ρ ds) (hl : ds.length ≤ sizeLine) : EVN K (tLst t) ρ (.list ds) := fun G0 H0 G H σ Q E q =>
  h G0 H0 G H σ _ E fun xs G1 H1 e1 h1 => ⟨by rw [h1.length]; exact hl, fun p hp => by
    have x := Ext.fresh (o := .lst xs) e1.gh hp
    refine q _ _ _ (e1.trans x) ?_ (e1.gh.none hp) (.lst upd_same h1)
    exact e1.gone hp⟩
/-! ### tests -/
theorem et_test {b : Bool} (h : EV K te ρ (.bool b)) : ET K (tTest te) ρ b := fun G0 H0 G H σ Q E q => h G0 H0 G H σ _ E fun v G1 H1 e1 h1 => by
  cases h1
  exact ⟨b, rfl, q G1 H1 e1⟩
theorem et_B {b : Bool} (h : EV K te ρ (.bool b)) : ET K (tB te) ρ b := fun G0 H0 G H σ Q E q => h G0 H0 G H σ _ E fun v G1 H1 e1 h1 => by
  cases h1
  exact ⟨b, rfl, q G1 H1 e1⟩
theorem et_not {b : Bool} (h : ET K tt ρ b) : ET K (tNot tt) ρ (!b) := fun G0 H0 G H σ Q E q => h G0 H0 G H σ _ E fun G1 H1 e1 => q G1 H1 e1
theorem et_and {a b : Bool} (h : ET K tt ρ a) (h2 : a = true → ET K tu ρ b) : ET K (tAnd tt tu) ρ (a && b) := fun G0 H0 G H σ Q E q => h G0 H0 G H σ _ E fun G1 H1 e1 => by
  cases a with
  | true => exact h2 rfl G0 H0 G1 H1 σ Q (E.go e1) fun G2 H2 e2 => q G2 H2 (e1.trans e2)
  | false => exact q G1 H1 e1
theorem et_or {a b : Bool} (h : ET K tt ρ a) (h2 : a = false → ET K tu ρ b) : ET K (tOr tt tu) ρ (a || b) := fun G0 H0 G H σ Q E q => h G0 H0 G H σ _ E fun G1 H1 e1 => by
  cases a with
  | false => exact h2 rfl G0 H0 G1 H1 σ Q (E.go e1) fun G2 H2 e2 => q G2 H2 (e1.trans e2)
  | true => exact q G1 H1 e1
theorem et_is {a b : Bool} (h : ET K tt ρ a) (e : a = b) : ET K tt ρ b := e ▸ h
theorem ev_is {e : D} (h : EV K te ρ d) (q : d = e) : EV K te ρ e := q ▸ h
theorem en_is {e : D} (h : EVN K te ρ d) (q : d = e) : EVN K te ρ e := q ▸ h
theorem ev_andV {a b : Bool} (h1 : EV K ta ρ (.bool a)) (h2 : a = true → EV K tb ρ (.bool b)) : EV K (tAndV ta tb) ρ (.bool (a && b)) := fun G0 H0 G H σ Q E q => h1 G0 H0 G H σ _ E fun v G1 H1 e1 z => by
  cases z
  refine ⟨a, rfl, ?_⟩
  cases a with
  | true => exact h2 rfl G0 H0 G1 H1 σ Q (E.go e1) fun v G2 H2 e2 => q v G2 H2 (e1.trans e2)
  | false => exact q _ G1 H1 e1 (.bl false)
theorem ev_orV {a b : Bool} (h1 : EV K ta ρ (.bool a)) (h2 : a = false → EV K tb ρ (.bool b)) : EV K (tOrV ta tb) ρ (.bool (a || b)) := fun G0 H0 G H σ Q E q => h1 G0 H0 G H σ _ E fun v G1 H1 e1 z => by
  cases z
  refine ⟨a, rfl, ?_⟩
  cases a with
  | false => exact h2 rfl G0 H0 G1 H1 σ Q (E.go e1) fun v G2 H2 e2 => q v G2 H2 (e1.trans e2)
  | true => exact q _ G1 H1 e1 (.bl true)
theorem ev_notV {a : Bool} (h1 : EV K ta ρ (.bool a)) : EV K (tNotV ta) ρ (.bool (!a)) := fun G0 H0 G H σ Q E q => h1 G0 H0 G H σ _ E fun v G1 H1 e1 z => by
  cases z
  exact ⟨a, rfl, q _ G1 H1 e1 (.bl _)⟩
theorem ev_if {b : Bool} (h : ET K tt ρ b) (h1 : b = true → EV K ta ρ d) (h2 : b = false → EV K tb ρ d) : EV K (tIf tt ta tb) ρ d := fun G0 H0 G H σ Q E q => h G0 H0 G H σ _ E fun G1 H1 e1 => by
  cases b with
  | true => exact h1 rfl G0 H0 G1 H1 σ Q (E.go e1) fun v G2 H2 e2 => q v G2 H2 (e1.trans e2)
  | false => exact h2 rfl G0 H0 G1 H1 σ Q (E.go e1) fun v G2 H2 e2 => q v G2 H2 (e1.trans e2)
/-- by cases, the answer told by the test -/
theorem ev_ite {b : Bool} (h : ET K tt ρ b) (h1 : b = true → EV K ta ρ d1) (h2 : b = false → EV K tb ρ d2) : EV K (tIf tt ta tb) ρ (if b = true then d1 else d2) := by
  cases b with
  | true => exact ev_if h (fun _ => h1 rfl) (fun z => nomatch z)
  | false => exact ev_if h (fun z => nomatch z) (fun _ => h2 rfl)
end
/-! ### statements -/
inductive Oc where
  | nx (ρ : List Sl)
  | rt (d : D)
  | bk (ρ : List Sl)
  | ct (ρ : List Sl)
  /-- an exception of the class at C leaves, with these fields -/
  | ex (C : Addr) (fl : List (Str × D))
/-- the ends keep P -/
structure Fin (K : PySem.W.Frag) (Ex : XK) (G0 H0 : Hp) (P : Oc → Prop) (D : Ends) : Prop where
  nx : ∀ ρ' σ' G' H', P (.nx ρ') → En K G0 H0 G' H' σ' ρ' → D.nx σ' H'
  rt : ∀ d v G' H', P (.rt d) → Ext G0 H0 G' H' → Dq K G' v d → D.rt v H'
  bk : ∀ ρ' σ' G' H', P (.bk ρ') → En K G0 H0 G' H' σ' ρ' → D.bk σ' H'
  ct : ∀ ρ' σ' G' H', P (.ct ρ') → En K G0 H0 G' H' σ' ρ' → D.ct σ' H'
  ex : ∀ C fl dd fs G' H', P (.ex C fl) → Ext G0 H0 G' H' → G' dd = some (.xd fs) → DqF K G' fs fl → Ex (.ref C) (some dd) H'
def ST (K : PySem.W.Frag) (Ex : XK) (ts : TS) (ρ : List Sl) (P : Oc → Prop) : Prop := ∀ (G0 H0 G H : Hp) (σ : St) (D : Ends), En K G0 H0 G H σ ρ → Fin K Ex G0 H0 P D → ts D σ H
section
variable {K : PySem.W.Frag} {Ex : XK} {ρ : List Sl} {ta tb te : TE} {tt tu : TT} {d d1 d2 : D} {t u : TS} {P P' : Oc → Prop}
theorem Fin.mono {G0 H0 : Hp} {D : Ends} (f : Fin K Ex G0 H0 P' D) (k : ∀ o, P o → P' o) : Fin K Ex G0 H0 P D :=
  ⟨fun _ _ _ _ p => f.nx _ _ _ _ (k _ p), fun _ _ _ _ p => f.rt _ _ _ _ (k _ p), fun _ _ _ _ p => f.bk _ _ _ _ (k _ p), fun _ _ _ _ p => f.ct _ _ _ _ (k _ p), fun _ _ _ _ _ _ p => f.ex _ _ _ _ _ _ (k _ p)⟩
theorem ST.mono (h : ST K Ex t ρ P) (k : ∀ o, P o → P' o) : ST K Ex t ρ P' := fun G0 H0 G H σ D E f => h G0 H0 G H σ D E (f.mono k)
def seqP (K : PySem.W.Frag) (Ex : XK) (u : TS) (P : Oc → Prop) : Oc → Prop
  | .nx ρ => ST K Ex u ρ P
  | o => P o
theorem st_seq (h : ST K Ex t ρ (seqP K Ex u P)) : ST K Ex (tSeq t u) ρ P := fun G0 H0 G H σ D E f =>
  h G0 H0 G H σ { D with nx := u D } E ⟨fun ρ' σ' G' H' p E' => p G0 H0 G' H' σ' D E' f, f.rt, f.bk, f.ct, f.ex⟩
theorem st_next (h : P (.nx ρ)) : ST K Ex tNext ρ P := fun G0 H0 G H σ D E f => f.nx ρ σ G H h E
theorem st_break (h : P (.bk ρ)) : ST K Ex tBreak ρ P := fun G0 H0 G H σ D E f => f.bk ρ σ G H h E
theorem st_asg {i : Nat} (h : EV K te ρ d) (q : P (.nx (ρ.set i (.fr d)))) : ST K Ex (tAsg te (gName i)) ρ P := fun G0 H0 G H σ D E f =>
  h G0 H0 G H σ _ E fun v G' H' x hd => f.nx _ _ G' H' q ((E.go x).setF i hd)
theorem st_asgN {i : Nat} (h : EVN K te ρ d) (q : P (.nx (ρ.set i (.ow d)))) : ST K Ex (tAsg te (gName i)) ρ P := fun G0 H0 G H σ D E f =>
  h G0 H0 G H σ _ E fun l G' H' x hH hG ho => f.nx _ _ G' H' q (E.setN i x hH hG ho)
theorem st_ret (h : EV K te ρ d) (q : P (.rt d)) : ST K Ex (tRet te) ρ P := fun G0 H0 G H σ D E f =>
  h G0 H0 G H σ _ E fun v G' H' x hd => f.rt d v G' H' q (E.go x).ext hd
theorem st_if {b : Bool} (h : ET K tt ρ b) (h1 : b = true → ST K Ex t ρ P) (h2 : b = false → ST K Ex u ρ P) : ST K Ex (tIfS tt t u) ρ P := fun G0 H0 G H σ D E f =>
  h G0 H0 G H σ _ E fun G' H' x => by
    cases b with
    | true => exact h1 rfl G0 H0 G' H' σ D (E.go x) f
    | false => exact h2 rfl G0 H0 G' H' σ D (E.go x) f
/-- the owned list of slot i is frozen from here on -/
theorem st_frz {i : Nat} (hi : ρ[i]? = some (.ow d)) (h : ST K Ex t (ρ.set i (.fr d)) P) : ST K Ex t ρ P := fun G0 H0 G H σ D E f => by
  obtain ⟨G', E'⟩ := E.freeze hi
  exact h G0 H0 G' H σ D E' f
/-! ### targets -/
/-- the slots ts take what d is made of; ρ' behind it -/
def GT (K : PySem.W.Frag) (g : TG) (ρ : List Sl) (d : D) (ρ' : List Sl) (ts : List Nat) : Prop := ∀ (G0 H0 G H : Hp) (σ : St) (v : V) (Q : St → Hp → Prop), En K G0 H0 G H σ ρ → Dq K G v d →
  (∀ σ', En K G0 H0 G H σ' ρ' → σ'.length = σ.length → (∀ k, k ∉ ts → σ'[k]? = σ[k]?) → Q σ' H) → g v σ H Q
def GTs (K : PySem.W.Frag) (g : TGs) (ρ : List Sl) (ds : List D) (ρ' : List Sl) (ts : List Nat) : Prop := ∀ (G0 H0 G H : Hp) (σ : St) (vs : List V) (Q : St → Hp → Prop), En K G0 H0 G H σ ρ → DqA K G vs ds →
  (∀ σ', En K G0 H0 G H σ' ρ' → σ'.length = σ.length → (∀ k, k ∉ ts → σ'[k]? = σ[k]?) → Q σ' H) → g vs σ H Q
theorem gt_name {i : Nat} : GT K (gName i) ρ d (ρ.set i (.fr d)) [i] := fun G0 H0 G H σ v Q E hd q =>
  q _ (E.setF i hd) (by rw [List.length_set]) fun k hk => List.getElem?_set_ne (by simpa using fun e => hk (by simp [e]))
theorem gts_nil : GTs K gNil ρ [] ρ [] := fun G0 H0 G H σ vs Q E hd q => by
  cases hd
  exact ⟨rfl, q σ E rfl fun _ _ => rfl⟩
theorem gts_cons {g : TG} {gs : TGs} {ρ1 ρ2 : List Sl} {ds : List D} {ts us : List Nat} (h : GT K g ρ d ρ1 ts) (h2 : GTs K gs ρ1 ds ρ2 us) : GTs K (gCons g gs) ρ (d :: ds) ρ2 (ts ++ us) := fun G0 H0 G H σ vs Q E hd q => by
  cases hd with
  | cons a b => exact ⟨_, _, rfl, h G0 H0 G H σ _ _ E a fun σ1 E1 l1 k1 => h2 G0 H0 G H σ1 _ Q E1 b fun σ2 E2 l2 k2 => q σ2 E2 (l2.trans l1) fun k hk => (k2 k fun z => hk (List.mem_append_right _ z)).trans (k1 k fun z => hk (List.mem_append_left _ z))⟩
theorem gt_tup {gs : TGs} {ρ' : List Sl} {ds : List D} {ts : List Nat} {n : Nat} (hn : ds.length = n) (h : GTs K gs ρ ds ρ' ts) : GT K (gTup K n gs) ρ (.tuple ds) ρ' ts := fun G0 H0 G H σ v Q E hd q => by
  cases hd with
  | tup a b => exact ⟨_, _, rfl, E.gh.t a, b.length.trans hn, h G0 H0 G H σ _ Q E b q⟩
theorem st_asgG {g : TG} {ρ' : List Sl} {ts : List Nat} (h : EV K te ρ d) (hg : GT K g ρ d ρ' ts) (q : P (.nx ρ')) : ST K Ex (tAsg te g) ρ P := fun G0 H0 G H σ D E f =>
  h G0 H0 G H σ _ E fun v G' H' x hd => hg G0 H0 G' H' σ v _ (E.go x) hd fun σ' E' _ _ => f.nx _ _ G' H' q E'
/-! ### what is walked -/
def EI (K : PySem.W.Frag) (wi : TI) (ρ : List Sl) (n : Nat) (item : Nat → D) : Prop := ∀ (G0 H0 G H : Hp) (σ : St) (R : It → Hp → Prop), En K G0 H0 G H σ ρ →
  (∀ J G' H' Gd Y, Ext G H G' H' → Walk J n Gd Y → (∀ G2 H2, (∀ a o, G' a = some o → G2 a = some o) → GH G2 H2 → Gd H2) →
    (∀ i G2 H2 x H3, i < n → (∀ a o, G' a = some o → G2 a = some o) → GH G2 H2 → Y i H2 x H3 → ∃ G3, Ext G2 H2 G3 H3 ∧ Dq K G3 x (item i)) → R J H') → wi σ H R
/-- the ends of a loop's turn -/
def loopP (Q : List Sl → Prop) (P : Oc → Prop) : Oc → Prop
  | .nx ρ => Q ρ
  | .ct ρ => Q ρ
  | .bk ρ => P (.nx ρ)
  | .rt d => P (.rt d)
  | .ex C fl => P (.ex C fl)
theorem st_for {wi : TI} {g : TG} {n : Nat} {item : Nat → D} (hi : EI K wi ρ n item) (I : Nat → List Sl → Prop) (h0 : I 0 ρ)
    (hs : ∀ i ρ1, i < n → I i ρ1 → ∃ ρ2 ts, GT K g ρ1 (item i) ρ2 ts ∧ ST K Ex t ρ2 (loopP (I (i + 1)) P))
    (hd : ∀ ρ1, I n ρ1 → P (.nx ρ1)) : ST K Ex (tFor wi g t) ρ P := fun G0 H0 G H σ D E f =>
  hi G0 H0 G H σ _ E fun J G1 H1 Gd Y x w hG hY => by
    have E1 := E.go x
    refine for_it w (fun i σ' H' => ∃ G' ρ', En K G1 H0 G' H' σ' ρ' ∧ I i ρ') ⟨G1, ρ, E1.re, h0⟩ (fun i σ' H' _ ⟨G', ρ', E', _⟩ => hG G' H' E'.ext.gg E'.gh) (fun i y σ' H' H3 hi ⟨G', ρ', E', p⟩ hy => ?_) (fun σ' H' ⟨G', ρ', E', p⟩ => f.nx ρ' σ' G' H' (hd ρ' p) (E'.back E1.ext))
    obtain ⟨G3, x3, hdq⟩ := hY i G' H' y H3 hi E'.ext.gg E'.gh hy
    obtain ⟨ρ2, ts, hg, hb⟩ := hs i ρ' hi p
    exact hg G1 H0 G3 H3 σ' y _ (E'.go x3) hdq fun σ2 E2 _ _ => hb G1 H0 G3 H3 σ2 _ E2 ⟨fun ρ4 σ4 G4 H4 p4 E4 => ⟨G4, ρ4, E4, p4⟩,
      fun d v G4 H4 p4 x4 hd4 => f.rt d v G4 H4 p4 (E1.ext.back x4) hd4, fun ρ4 σ4 G4 H4 p4 E4 => f.nx ρ4 σ4 G4 H4 p4 (E4.back E1.ext), fun ρ4 σ4 G4 H4 p4 E4 => ⟨G4, ρ4, E4, p4⟩,
      fun C fl dd fs G4 H4 p4 x4 h1 h2 => f.ex C fl dd fs G4 H4 p4 (E1.ext.back x4) h1 h2⟩
end
end DL
/-! DL3: operators, comparisons, subscripts, built-ins, by data. -/
namespace DL
open PySem L2
/-! ### + -/
def rAddU (K : PySem.W.Frag) : R2 := fun x y H Q => rI0 (fun i j => .int (i + j)) x y H Q ∨ (fun x y H Q => (∃ i j, x = .str i ∧ y = .str j ∧ i.length + j.length ≤ sizeLine ∧ Q (.str (i ++ j)) H) ∨ (fun x y H Q => rCat x y H Q ∨ rCatA K x y H Q) x y H Q) x y H Q
theorem op_addU {X : Cx} : OpR X (binaryOp .Add) (rAddU X.K) := op_add.or (op_add_str.or (op_cat.or op_catA))
section
variable {K : PySem.W.Frag} {ρ : List Sl} {ta tb te : TE} {i j : Int}
theorem od_addI : OD K (rAddU K) (.int i) (.int j) (.int (i + j)) := fun x y G H Q g hx hy q => by
  cases hx; cases hy
  exact .inl ⟨i, j, rfl, rfl, q _ G H (.refl g) (.int _)⟩
theorem od_addS {a b : Str} (h : a.length + b.length ≤ sizeLine) : OD K (rAddU K) (.str a) (.str b) (.str (a ++ b)) := fun x y G H Q g hx hy q => by
  cases hx; cases hy
  exact .inr (.inl ⟨a, b, rfl, rfl, h, q _ G H (.refl g) (.str _)⟩)
theorem on_addL {a b : List D} (h : a.length + b.length ≤ sizeLine) : ON K (rAddU K) (.list a) (.list b) (.list (a ++ b)) := fun x y G H Q g hx hy q => by
  cases hx with
  | lst ha ra => cases hy with
    | lst hb rb =>
      refine .inr (.inr (.inl ⟨_, _, _, _, rfl, rfl, g.lst ha, g.lst hb, by rw [ra.length, rb.length]; exact h, fun p hp => ?_⟩))
      exact q p G _ (.fresh g hp) hp (g.none hp) (.lst upd_same (ra.append rb))
theorem od_addT {a b : List D} (h : a.length + b.length ≤ sizeLine) : OD K (rAddU K) (.tuple a) (.tuple b) (.tuple (a ++ b)) := fun x y G H Q g hx hy q => by
  cases hx with
  | tup ha ra => cases hy with
    | tup hb rb =>
      refine .inr (.inr (.inr ⟨_, _, _, _, rfl, rfl, g.t ha, g.t hb, by rw [ra.length, rb.length]; exact h, fun e => ?_, fun n e => ?_, fun n1 n2 p hp => ?_⟩))
      · subst e
        cases ra
        exact q _ G H (.refl g) (.tup hb rb)
      · subst e
        cases rb
        rw [List.append_nil] at q
        exact q _ G H (.refl g) (.tup ha ra)
      · have rr := ra.append rb
        exact q _ _ _ (Ext.new g hp) (.tup (SqT.of upd_same) (rr.mono (Ext.new g hp).g))
/-! ### -, *, //, %, ** -/
abbrev rSubU : R2 := rI0 fun i j => .int (i - j)
theorem od_sub : OD K rSubU (.int i) (.int j) (.int (i - j)) := fun x y G H Q g hx hy q => by
  cases hx; cases hy
  exact ⟨i, j, rfl, rfl, q _ G H (.refl g) (.int _)⟩
abbrev rModU : R2 := rI (fun _ j => 0 < j) fun i j => .int (i % j)
theorem od_mod (h : 0 < j) : OD K rModU (.int i) (.int j) (.int (i % j)) := fun x y G H Q g hx hy q => by
  cases hx; cases hy
  exact ⟨i, j, rfl, rfl, h, q _ G H (.refl g) (.int _)⟩
abbrev rDivU : R2 := rI CDiv fun i j => .int (i / j)
theorem od_div (h : 0 < j ∧ j < 1073741824) : OD K rDivU (.int i) (.int j) (.int (i / j)) := fun x y G H Q g hx hy q => by
  cases hx; cases hy
  exact ⟨i, j, rfl, rfl, h, q _ G H (.refl g) (.int _)⟩
abbrev rPowU : R2 := rI CPow fun i j => .int (i ^ j.toNat)
theorem od_pow (h : 0 ≤ j ∧ j ≤ 1000000 ∧ i.natAbs < 2 ^ 64) : OD K rPowU (.int i) (.int j) (.int (i ^ j.toNat)) := fun x y G H Q g hx hy q => by
  cases hx; cases hy
  exact ⟨i, j, rfl, rfl, h, q _ G H (.refl g) (.int _)⟩
/-- k times the text -/
def repS (z : Str) (k : Int) : Str := ⟨(List.replicate k.toNat z.cps.toList).flatten.toArray⟩
theorem foldl_reps (a : List Nat) : ∀ (m : Nat) (b : List Nat), List.foldl (fun x1 x2 => x1 ++ x2) b.toArray (List.replicate m a.toArray) = (b ++ (List.replicate m a).flatten).toArray
  | 0, b => by simp
  | m + 1, b => by
    rw [List.replicate_succ, List.foldl_cons]
    have e : b.toArray ++ a.toArray = (b ++ a).toArray := by simp
    rw [e, foldl_reps a m (b ++ a), List.replicate_succ, List.flatten_cons, List.append_assoc]
def rMulS : R2 := fun x y H Q => ∃ z k, x = .str z ∧ y = .int k ∧ -(2 ^ 63) ≤ k ∧ k < 2 ^ 63 ∧ z.length * k.toNat ≤ sizeLine ∧ Q (.str (repS z k)) H
theorem op_mulS {X : Cx} : OpR X (binaryOp .Mult) rMulS := by
  intro pins s σ H x y v u Q I rx ry h
  obtain ⟨z, k, rfl, rfl, h1, h2, h3, q⟩ := h
  obtain ⟨t, rfl⟩ := rx
  obtain ⟨t', rfl⟩ := ry
  have hs : (sizeLine : Nat) = 16777216 := sizeLine_eq
  refine PySem.P.mul_str ?_ ?_ ?_ ?_
  · rw [decide_eq_false (by omega), decide_eq_false (by omega)]; rfl
  · intro a b c
    have hk : 1 ≤ k := by omega
    have hz : z.length ≠ 0 := by
      intro e
      rw [e] at b
      simp at b
    have h4 : (z.length : Int) * k ≤ 16777216 := by
      have : ((z.length * k.toNat : Nat) : Int) ≤ 16777216 := by omega
      rw [Int.natCast_mul] at this
      have e : ((k.toNat : Nat) : Int) = k := by omega
      rw [e] at this
      exact this
    have h5 : (z.length : Int) ≤ (2 ^ 63 - 1) / k := by
      rw [Int.le_ediv_iff_mul_le (by omega)]
      omega
    omega
  · intro a b
    unfold PySem.Builtin.Str.tooLong
    rw [sizeLine_eq] at h3
    simp only [decide_eq_false_iff_not, gt_iff_lt, Nat.not_lt, sizeLine_eq]
    omega
  · by_cases a : k < 1
    · rw [if_pos a]
      have e : repS z k = Str.empty := by
        unfold repS
        have : k.toNat = 0 := by omega
        rw [this]
        rfl
      rw [e] at q
      exact ⟨by decide, .str _, H, I.tok _, ⟨_, rfl⟩, q⟩
    · rw [if_neg a]
      by_cases b : (k == 1 || z.length == 0) = true
      · rw [if_pos b]
        have e : repS z k = z := by
          unfold repS
          cases z with
          | mk cps =>
          rcases Bool.or_eq_true_iff.mp b with b | b
          · have : k.toNat = 1 := by
              have := eq_of_beq b
              omega
            rw [this]
            simp
          · have e : cps.size = 0 := eq_of_beq b
            have e2 : cps = #[] := Array.eq_empty_of_size_eq_zero e
            subst e2
            simp
        rw [e] at q
        exact ⟨.str z, H, I, ⟨_, rfl⟩, q⟩
      · rw [if_neg b]
        have e : repS z k = ⟨(List.replicate k.toNat z.cps).foldl (· ++ ·) #[]⟩ := by
          unfold repS
          congr 1
          have := foldl_reps z.cps.toList k.toNat []
          rw [List.nil_append] at this
          rw [← this]
        rw [e] at q
        refine ⟨?_, .str _, H, I.tok _, ⟨_, rfl⟩, q⟩
        have : (repS z k).length ≤ sizeLine := by
          unfold repS Str.length
          rw [List.size_toArray]
          have : ∀ m : Nat, ((List.replicate m z.cps.toList).flatten).length = m * z.cps.toList.length := fun m => by
            induction m with
            | zero => simp
            | succ m ih => rw [List.replicate_succ, List.flatten_cons, List.length_append, ih, Nat.succ_mul]; omega
          rw [this, Nat.mul_comm]
          exact h3
        rw [e] at this
        exact this
end
end DL
/-! DL4: *, comparisons, in, subscripts, slices, len, isinstance, join, index, int, iteration, comprehensions. -/
namespace DL
open PySem L2
def rMulU : R2 := fun x y H Q => rI CMul (fun i j => .int (i * j)) x y H Q ∨ (fun x y H Q => rMulS x y H Q ∨ rRep x y H Q) x y H Q
theorem op_mulU {X : Cx} : OpR X (binaryOp .Mult) rMulU := op_mul.or (op_mulS.or op_rep)
section
variable {K : PySem.W.Frag} {ρ : List Sl} {ta tb te : TE} {i j : Int} {d d1 d2 : D}
theorem od_mulI (h : CMul i j) : OD K rMulU (.int i) (.int j) (.int (i * j)) := fun x y G H Q g hx hy q => by
  cases hx; cases hy
  exact .inl ⟨i, j, rfl, rfl, h, q _ G H (.refl g) (.int _)⟩
theorem od_mulS {z : Str} (h1 : -(2 ^ 63) ≤ j) (h2 : j < 2 ^ 63) (h : z.length * j.toNat ≤ sizeLine) : OD K rMulU (.str z) (.int j) (.str (repS z j)) := fun x y G H Q g hx hy q => by
  cases hx; cases hy
  exact .inr (.inl ⟨z, j, rfl, rfl, h1, h2, h, q _ G H (.refl g) (.str _)⟩)
theorem DqA.rep {G : Hp} {vs : List V} {ds : List D} (h : DqA K G vs ds) : ∀ m : Nat, DqA K G (List.replicate m vs).flatten (List.replicate m ds).flatten
  | 0 => .nil
  | m + 1 => by
    rw [List.replicate_succ, List.replicate_succ, List.flatten_cons, List.flatten_cons]
    exact h.append (DqA.rep h m)
theorem on_mulL {ds : List D} (h1 : -(2 ^ 63) ≤ j) (h2 : j < 2 ^ 63) (h : ds.length * j.toNat ≤ sizeLine) : ON K rMulU (.list ds) (.int j) (.list (List.replicate j.toNat ds).flatten) := fun x y G H Q g hx hy q => by
  cases hy
  cases hx with
  | lst ha ra =>
    refine .inr (.inr ⟨_, _, _, rfl, rfl, g.lst ha, h1, h2, by rw [ra.length]; exact h, fun p hp => ?_⟩)
    exact q p G _ (.fresh g hp) hp (g.none hp) (.lst upd_same (ra.rep _))
/-! ### comparisons -/
def rCmpU (p : Int → Int → Bool) (s : List Nat → List Nat → Bool) : R2 := fun x y H Q => rI0 (fun i j => .bl (p i j)) x y H Q ∨ (∃ a b, x = .str a ∧ y = .str b ∧ Q (.bl (s a.cps.toList b.cps.toList)) H)
abbrev rLtU : R2 := rCmpU (fun i j => decide (i < j)) fun a b => decide (a < b)
abbrev rLeU : R2 := rCmpU (fun i j => decide (i ≤ j)) fun a b => !decide (b < a)
abbrev rGtU : R2 := rCmpU (fun i j => decide (j < i)) fun a b => decide (b < a)
abbrev rGeU : R2 := rCmpU (fun i j => decide (j ≤ i)) fun a b => !decide (a < b)
theorem op_ltU {X : Cx} : OpR X (compareOp .Lt) rLtU := op_lt.or op_lt_str
theorem op_leU {X : Cx} : OpR X (compareOp .LtE) rLeU := op_le.or op_le_str
theorem op_gtU {X : Cx} : OpR X (compareOp .Gt) rGtU := op_gt.or op_gt_str
theorem op_geU {X : Cx} : OpR X (compareOp .GtE) rGeU := op_ge.or op_ge_str
theorem od_cmpI {p : Int → Int → Bool} {s : List Nat → List Nat → Bool} : OD K (rCmpU p s) (.int i) (.int j) (.bool (p i j)) := fun x y G H Q g hx hy q => by
  cases hx; cases hy
  exact .inl ⟨i, j, rfl, rfl, q _ G H (.refl g) (.bl _)⟩
theorem od_cmpS {p : Int → Int → Bool} {s : List Nat → List Nat → Bool} {a b : Str} : OD K (rCmpU p s) (.str a) (.str b) (.bool (s a.cps.toList b.cps.toList)) := fun x y G H Q g hx hy q => by
  cases hx; cases hy
  exact .inr ⟨a, b, rfl, rfl, q _ G H (.refl g) (.bl _)⟩
/-! data without dicts, as the library's == reads it -/
def rEqU (K : PySem.W.Frag) : R2 := fun x y H Q => rEq x y H Q ∨ rEqD K x y H Q
def rNeU (K : PySem.W.Frag) : R2 := fun x y H Q => rNe x y H Q ∨ rNeD K x y H Q
theorem op_eqU {X : Cx} (hu : X.A.units + 64 < cLine) : OpR X (compareOp .Eq) (rEqU X.K) := op_eq.or (op_eqD hu)
theorem op_neU {X : Cx} (hu : X.A.units + 64 < cLine) : OpR X (compareOp .NotEq) (rNeU X.K) := op_ne.or (op_neD hu)
theorem od_eqI : OD K (rEqU K) (.int i) (.int j) (.bool (decide (i = j))) := fun x y G H Q g hx hy q => by
  cases hx; cases hy
  refine .inl ⟨rfl, ?_⟩
  have e : decide (V.int i = V.int j) = decide (i = j) := by simp
  rw [e]
  exact q _ G H (.refl g) (.bl _)
theorem od_eqS {a b : Str} : OD K (rEqU K) (.str a) (.str b) (.bool (decide (a = b))) := fun x y G H Q g hx hy q => by
  cases hx; cases hy
  refine .inl ⟨rfl, ?_⟩
  have e : decide (V.str a = V.str b) = decide (a = b) := by simp
  rw [e]
  exact q _ G H (.refl g) (.bl _)
theorem od_eqB {a b : Bool} : OD K (rEqU K) (.bool a) (.bool b) (.bool (decide (a = b))) := fun x y G H Q g hx hy q => by
  cases hx; cases hy
  refine .inl ⟨rfl, ?_⟩
  have e : decide (V.bl a = V.bl b) = decide (a = b) := by simp
  rw [e]
  exact q _ G H (.refl g) (.bl _)
theorem od_neI : OD K (rNeU K) (.int i) (.int j) (.bool (!decide (i = j))) := fun x y G H Q g hx hy q => by
  cases hx; cases hy
  refine .inl ⟨rfl, ?_⟩
  have e : decide (V.int i = V.int j) = decide (i = j) := by simp
  rw [e]
  exact q _ G H (.refl g) (.bl _)
theorem od_neS {a b : Str} : OD K (rNeU K) (.str a) (.str b) (.bool (!decide (a = b))) := fun x y G H Q g hx hy q => by
  cases hx; cases hy
  refine .inl ⟨rfl, ?_⟩
  have e : decide (V.str a = V.str b) = decide (a = b) := by simp
  rw [e]
  exact q _ G H (.refl g) (.bl _)
theorem od_neB {a b : Bool} : OD K (rNeU K) (.bool a) (.bool b) (.bool (!decide (a = b))) := fun x y G H Q g hx hy q => by
  cases hx; cases hy
  refine .inl ⟨rfl, ?_⟩
  have e : decide (V.bl a = V.bl b) = decide (a = b) := by simp
  rw [e]
  exact q _ G H (.refl g) (.bl _)
def isNoneD : D → Bool
  | .none => true
  | _ => false
theorem isNone_dq {G : Hp} {v : V} {d : D} (h : Dq K G v d) : decide (v = .non) = isNoneD d := by cases h <;> rfl
theorem ev_isN (h : EV K ta ρ d) : EV K (tIsN ta) ρ (.bool (isNoneD d)) := fun G0 H0 G H σ Q E q => h G0 H0 G H σ _ E fun v G1 H1 e1 h1 => by
  rw [isNone_dq h1]
  exact q _ G1 H1 e1 (.bl _)
theorem ev_notN (h : EV K ta ρ d) : EV K (tNotN ta) ρ (.bool (!isNoneD d)) := fun G0 H0 G H σ Q E q => h G0 H0 G H σ _ E fun v G1 H1 e1 h1 => by
  rw [isNone_dq h1]
  exact q _ G1 H1 e1 (.bl _)
theorem od_isB {a b : Bool} : OD K rIsB (.bool a) (.bool b) (.bool (decide (a = b))) := fun x y G H Q g hx hy q => by
  cases hx; cases hy
  exact ⟨a, b, rfl, rfl, q _ G H (.refl g) (.bl _)⟩
theorem od_notB {a b : Bool} : OD K rNotB (.bool a) (.bool b) (.bool (!decide (a = b))) := fun x y G H Q g hx hy q => by
  cases hx; cases hy
  exact ⟨a, b, rfl, rfl, q _ G H (.refl g) (.bl _)⟩
/-- a < b < c -/
theorem ev_chain {r r' : R2} {tc : TE} {d3 : D} {b1 b2 : Bool} (ha : EV K ta ρ d1) (hb : EV K tb ρ d2) (ho : OD K r d1 d2 (.bool b1)) (hc : b1 = true → EV K tc ρ d3) (ho' : b1 = true → OD K r' d2 d3 (.bool b2)) : EV K (tChain r r' ta tb tc) ρ (.bool (b1 && b2)) := fun G0 H0 G H σ Q E q =>
  ha G0 H0 G H σ _ E fun x G1 H1 e1 h1 => hb G0 H0 G1 H1 σ _ (E.go e1) fun y G2 H2 e2 h2 => ho x y G2 H2 _ e2.gh (h1.mono e2.g) h2 fun z G3 H3 e3 h3 => by
    cases h3
    refine ⟨b1, rfl, ?_⟩
    cases b1 with
    | false => exact q _ G3 H3 ((e1.trans e2).trans e3) (.bl false)
    | true => exact hc rfl G0 H0 G3 H3 σ _ (((E.go e1).go e2).go e3) fun w G4 H4 e4 h4 => ho' rfl y w G4 H4 Q e4.gh ((h2.mono e3.g).mono e4.g) h4 fun v G5 H5 e5 h5 => q v G5 H5 ((((e1.trans e2).trans e3).trans e4).trans e5) h5
/-! ### in -/
def flatD : D → Bool
  | .none | .bool _ | .int _ | .str _ => true
  | _ => false
def inD (d : D) (ds : List D) : Bool := ds.any fun e => PyData.eqv e d
theorem flat_dq {G : Hp} {v : V} {d : D} (h : Dq K G v d) (f : flatD d = true) : flatV v = true := by cases h <;> first | rfl | exact absurd f Bool.false_ne_true
theorem flatA_dq {G : Hp} : ∀ {ds : List D} {vs : List V}, DqA K G vs ds → ds.all flatD = true → vs.all flatV = true
  | [], _, h, _ => by cases h; rfl
  | d :: ds, _, h, f => by
    cases h with
    | cons a b =>
      rw [List.all_cons, Bool.and_eq_true] at f
      rw [List.all_cons, flat_dq a f.1, flatA_dq b f.2]
      rfl
theorem eq_dq {G : Hp} {v u : V} {d e : D} (h : Dq K G v d) (h' : Dq K G u e) (f : flatD d = true) (f' : flatD e = true) : eqV v u = PyData.eqv d e := by
  cases h <;> cases h' <;> first | rfl | exact absurd f Bool.false_ne_true | exact absurd f' Bool.false_ne_true | simp [eqV, PyData.eqv]
theorem in_dq {G : Hp} {v : V} {d : D} (h : Dq K G v d) (f : flatD d = true) : ∀ {ds : List D} {vs : List V}, DqA K G vs ds → ds.all flatD = true → inV v vs = inD d ds
  | [], _, h, _ => by cases h; rfl
  | e :: ds, _, h2, f2 => by
    cases h2 with
    | cons a b =>
      rw [List.all_cons, Bool.and_eq_true] at f2
      unfold inV inD
      rw [List.any_cons, List.any_cons, eq_dq a h f2.1 f]
      congr 1
      exact in_dq h f b f2.2
def rInU (K : PySem.W.Frag) : R2 := fun x y H Q => rIn K false x y H Q ∨ (fun x y H Q => (∃ (c : Nat) (z : Str), x = .str ⟨#[c]⟩ ∧ y = .str z ∧ Q (.bl (decide (c ∈ z.cps.toList))) H) ∨ (∃ i j, x = .str i ∧ y = .str j ∧ Q (.bl (!(Builtin.Str.occurrences j i 0 j.length 1).isEmpty)) H)) x y H Q
def rNinU (K : PySem.W.Frag) : R2 := fun x y H Q => rIn K true x y H Q ∨ (fun x y H Q => (∃ (c : Nat) (z : Str), x = .str ⟨#[c]⟩ ∧ y = .str z ∧ Q (.bl (!decide (c ∈ z.cps.toList))) H) ∨ (∃ i j, x = .str i ∧ y = .str j ∧ Q (.bl (!(!(Builtin.Str.occurrences j i 0 j.length 1).isEmpty))) H)) x y H Q
theorem op_inU {X : Cx} : OpR X (compareOp .In) (rInU X.K) := op_in_seq.or (op_in_sign.or op_in_str)
theorem op_ninU {X : Cx} : OpR X (compareOp .NotIn) (rNinU X.K) := op_notIn_seq.or (op_notIn_sign.or op_notin_str)
theorem od_inC {c : Nat} {z : Str} : OD K (rInU K) (.str ⟨#[c]⟩) (.str z) (.bool (decide (c ∈ z.cps.toList))) := fun x y G H Q g hx hy q => by
  cases hx; cases hy
  exact .inr (.inl ⟨c, z, rfl, rfl, q _ G H (.refl g) (.bl _)⟩)
theorem od_ninC {c : Nat} {z : Str} : OD K (rNinU K) (.str ⟨#[c]⟩) (.str z) (.bool (!decide (c ∈ z.cps.toList))) := fun x y G H Q g hx hy q => by
  cases hx; cases hy
  exact .inr (.inl ⟨c, z, rfl, rfl, q _ G H (.refl g) (.bl _)⟩)
theorem od_inT {ds : List D} (f : flatD d = true) (fs : ds.all flatD = true) : OD K (rInU K) d (.tuple ds) (.bool (inD d ds)) := fun x y G H Q g hx hy q => by
  cases hy with
  | tup a b => exact .inl ⟨_, _, rfl, .inr (g.t a), flat_dq hx f, flatA_dq b fs, by rw [in_dq hx f b fs]; exact q _ G H (.refl g) (.bl _)⟩
theorem od_ninT {ds : List D} (f : flatD d = true) (fs : ds.all flatD = true) : OD K (rNinU K) d (.tuple ds) (.bool (!inD d ds)) := fun x y G H Q g hx hy q => by
  cases hy with
  | tup a b => exact .inl ⟨_, _, rfl, .inr (g.t a), flat_dq hx f, flatA_dq b fs, by rw [in_dq hx f b fs]; exact q _ G H (.refl g) (.bl _)⟩
theorem od_inL {ds : List D} (f : flatD d = true) (fs : ds.all flatD = true) : OD K (rInU K) d (.list ds) (.bool (inD d ds)) := fun x y G H Q g hx hy q => by
  cases hy with
  | lst a b => exact .inl ⟨_, _, rfl, .inl (SqL.of (g.lst a)), flat_dq hx f, flatA_dq b fs, by rw [in_dq hx f b fs]; exact q _ G H (.refl g) (.bl _)⟩
theorem od_ninL {ds : List D} (f : flatD d = true) (fs : ds.all flatD = true) : OD K (rNinU K) d (.list ds) (.bool (!inD d ds)) := fun x y G H Q g hx hy q => by
  cases hy with
  | lst a b => exact .inl ⟨_, _, rfl, .inl (SqL.of (g.lst a)), flat_dq hx f, flatA_dq b fs, by rw [in_dq hx f b fs]; exact q _ G H (.refl g) (.bl _)⟩
/-! ### an owned list, looked at -/
theorem own_look {G0 H0 G H : Hp} {σ : St} {n : Nat} {ds : List D} (E : En K G0 H0 G H σ ρ) (hi : ρ[n]? = some (.ow (.list ds))) : ∃ l vs, σ[n]? = some (some (.ref l)) ∧ H l = some (.lst vs) ∧ DqA K G vs ds := by
  obtain ⟨l, h1, _, _, h4⟩ := E.ow n _ hi
  cases h4 with
  | lst a b => exact ⟨l, _, h1, a, b⟩
theorem own_lookG {G0 H0 G H : Hp} {σ : St} {n : Nat} {ds : List D} (E : En K G0 H0 G H σ ρ) (hi : ρ[n]? = some (.ow (.list ds))) : ∃ l vs, σ[n]? = some (some (.ref l)) ∧ H l = some (.lst vs) ∧ DqA K G vs ds ∧ G l = none := by
  obtain ⟨l, h1, _, h0, h4⟩ := E.ow n _ hi
  cases h4 with
  | lst a b => exact ⟨l, _, h1, a, b, h0⟩
theorem ev_inO {n : Nat} {ds : List D} (ha : EV K ta ρ d) (hi : ρ[n]? = some (.ow (.list ds))) (f : flatD d = true) (fs : ds.all flatD = true) : EV K (tOp (rInU K) ta (tVar n)) ρ (.bool (inD d ds)) := fun G0 H0 G H σ Q E q =>
  ha G0 H0 G H σ _ E fun x G1 H1 e1 hx => by
    obtain ⟨l, vs, h1, h2, h3⟩ := own_look (E.go e1) hi
    exact ⟨_, h1, .inl ⟨_, _, rfl, .inl (SqL.of h2), flat_dq hx f, flatA_dq h3 fs, by rw [in_dq hx f h3 fs]; exact q _ G1 H1 e1 (.bl _)⟩⟩
theorem ev_ninO {n : Nat} {ds : List D} (ha : EV K ta ρ d) (hi : ρ[n]? = some (.ow (.list ds))) (f : flatD d = true) (fs : ds.all flatD = true) : EV K (tOp (rNinU K) ta (tVar n)) ρ (.bool (!inD d ds)) := fun G0 H0 G H σ Q E q =>
  ha G0 H0 G H σ _ E fun x G1 H1 e1 hx => by
    obtain ⟨l, vs, h1, h2, h3⟩ := own_look (E.go e1) hi
    exact ⟨_, h1, .inl ⟨_, _, rfl, .inl (SqL.of h2), flat_dq hx f, flatA_dq h3 fs, by rw [in_dq hx f h3 fs]; exact q _ G1 H1 e1 (.bl _)⟩⟩
theorem atI_dq {G : Hp} {vs : List V} {ds : List D} (h : DqA K G vs ds) {i : Int} {d : D} (e : atI ds i = some d) : ∃ v, atI vs i = some v ∧ Dq K G v d := by
  unfold atI at e ⊢
  rw [h.length]
  cases q : ixN ds.length i with
  | none => rw [q] at e; cases e
  | some k =>
    rw [q] at e
    obtain ⟨v, h1, h2⟩ := h.get (i := k) (d := d) e
    exact ⟨v, h1, h2⟩
theorem od_ixL {ds : List D} (e : atI ds i = some d) : OD K (rIx K) (.list ds) (.int i) d := fun x y G H Q g hx hy q => by
  cases hy
  cases hx with
  | lst a b =>
    obtain ⟨v, h1, h2⟩ := atI_dq b e
    exact .inl ⟨_, _, i, v, rfl, rfl, SqL.of (g.lst a), h1, q v G H (.refl g) h2⟩
theorem od_ixT {ds : List D} (e : atI ds i = some d) : OD K (rIx K) (.tuple ds) (.int i) d := fun x y G H Q g hx hy q => by
  cases hy
  cases hx with
  | tup a b =>
    obtain ⟨v, h1, h2⟩ := atI_dq b e
    exact .inr (.inl ⟨_, _, i, v, rfl, rfl, g.t a, h1, q v G H (.refl g) h2⟩)
theorem od_ixS {z : Str} {c : Nat} (hz : z.length ≤ sizeLine) (e : atI z.cps.toList i = some c) : OD K (rIx K) (.str z) (.int i) (.str ⟨#[c]⟩) := fun x y G H Q g hx hy q => by
  cases hy
  cases hx
  exact .inr (.inr ⟨z, i, c, rfl, rfl, hz, e, q _ G H (.refl g) (.str _)⟩)
theorem ev_ixO {n : Nat} {ds : List D} (hi : ρ[n]? = some (.ow (.list ds))) (hb : EV K tb ρ (.int i)) (e : atI ds i = some d) : EV K (tOp (rIx K) (tVar n) tb) ρ d := fun G0 H0 G H σ Q E q => by
  obtain ⟨l, vs, h1, h2, h3, h0⟩ := own_lookG E hi
  refine ⟨_, h1, hb G0 H0 G H σ _ E fun y G1 H1 e1 hy => ?_⟩
  cases hy
  obtain ⟨v, a1, a2⟩ := atI_dq h3 e
  exact .inl ⟨_, _, i, v, rfl, rfl, SqL.of (e1.at h0 h2), a1, q v G1 H1 e1 (a2.mono e1.g)⟩
/-! ### slices -/
theorem eo_none : EO K tNoPart ρ none := fun _ _ G H _ _ E q => q G H (.refl E.gh)
theorem eo_some (h : EV K te ρ (.int i)) : EO K (tPart te) ρ (some i) := fun G0 H0 G H σ Q E q => h G0 H0 G H σ _ E fun v G1 H1 e1 h1 => by
  cases h1
  exact ⟨i, rfl, q G1 H1 e1⟩
def rSlU (K : PySem.W.Frag) : V → Option Int → Option Int → Hp → VK → Prop := fun x lo hi H Q => rSlL K x lo hi H Q ∨ (fun x lo hi H Q => rSlA K x lo hi H Q ∨ rSlS x lo hi H Q) x lo hi H Q
theorem sl_U {X : Cx} : SlR X (rSlU X.K) := sl_list.or (sl_tupA.or sl_str)
def cutDs (ds : List D) (lo hi : Option Int) : List D := (ds.drop (HT.sIx ds.length 0 lo)).take (HT.sIx ds.length ds.length hi - HT.sIx ds.length 0 lo)
theorem cut_dq {G : Hp} {vs : List V} {ds : List D} (h : DqA K G vs ds) (lo hi : Option Int) : DqA K G (cutV vs lo hi) (cutDs ds lo hi) := by
  unfold cutV cutDs
  rw [h.length]
  exact (h.drop _).take _
theorem sl_step {r : V → Option Int → Option Int → Hp → VK → Prop} {tl th : TO} {lo hi : Option Int} {G0 H0 G H : Hp} {σ : St} {Q : VK} (E : En K G0 H0 G H σ ρ) (h : EV K te ρ d) (hl : EO K tl ρ lo) (hh : EO K th ρ hi)
    (q : ∀ x G' H', Ext G H G' H' → Dq K G' x d → r x lo hi H' Q) : tSl r te tl th σ H Q :=
  h G0 H0 G H σ _ E fun x G1 H1 e1 h1 => hl G0 H0 G1 H1 σ _ (E.go e1) fun G2 H2 e2 => hh G0 H0 G2 H2 σ _ ((E.go e1).go e2) fun G3 H3 e3 => q x G3 H3 ((e1.trans e2).trans e3) ((h1.mono e2.g).mono e3.g)
theorem en_slL {tl th : TO} {lo hi : Option Int} {ds : List D} (h : EV K te ρ (.list ds)) (hl : EO K tl ρ lo) (hh : EO K th ρ hi) : EVN K (tSl (rSlU K) te tl th) ρ (.list (cutDs ds lo hi)) := fun G0 H0 G H σ Q E q =>
  sl_step E h hl hh fun x G' H' e hx => by
    cases hx with
    | lst a b =>
      refine .inl ⟨_, _, rfl, SqL.of (e.gh.lst a), fun p hp => ?_⟩
      refine q p G' _ (e.trans (.fresh e.gh hp)) ?_ (e.gh.none hp) (.lst upd_same (cut_dq b lo hi))
      exact e.gone hp
/-- a slice of the script -/
theorem en_slScr {tl th : TO} {lo hi : Option Int} {ns : List Int} (h : EV K te ρ (.dict [(.none, .list (ns.map PyData.int))])) (hl : EO K tl ρ lo) (hh : EO K th ρ hi) : EVN K (tSl (rSlU K) te tl th) ρ (.list (cutDs (ns.map PyData.int) lo hi)) := fun G0 H0 G H σ Q E q =>
  sl_step E h hl hh fun x G' H' e hx => by
    generalize hk : [((PyData.none : D), (PyData.list (ns.map PyData.int) : D))] = kvs at hx
    cases hx with
    | dK a b => cases b with
      | nil => cases hk
      | @cons k => cases k <;> cases hk
    | dT a b => cases hk
    | sta _ _ => cases hk
    | opq _ => cases hk
    | raw _ => cases hk
    | @scr a ms sq =>
      have e2 : ms.map PyData.int = ns.map PyData.int := by
        injection hk with h1 h2
        injection h1 with h1 h2
        injection h2 with h2
        exact h2.symm
      have e3 : DqA K G' (ms.map V.int) (ns.map PyData.int) := by
        rw [← e2]
        clear hk e2 sq
        induction ms with
        | nil => exact .nil
        | cons m ms ih => exact .cons (.int m) ih
      refine .inl ⟨_, _, rfl, e.gh.l sq, fun p hp => ?_⟩
      refine q p G' _ (e.trans (.fresh e.gh hp)) ?_ (e.gh.none hp) (.lst upd_same (cut_dq e3 lo hi))
      exact e.gone hp
theorem ev_slS {tl th : TO} {lo hi : Option Int} {z : Str} (h : EV K te ρ (.str z)) (hz : z.length ≤ sizeLine) (hl : EO K tl ρ lo) (hh : EO K th ρ hi) : EV K (tSl (rSlU K) te tl th) ρ (.str (cutS z lo hi)) := fun G0 H0 G H σ Q E q =>
  sl_step E h hl hh fun x G' H' e hx => by
    cases hx
    exact .inr (.inr ⟨z, rfl, hz, q _ G' H' e (.str _)⟩)
theorem ev_slT {tl th : TO} {lo hi : Option Int} {ds : List D} (h : EV K te ρ (.tuple ds)) (hl : EO K tl ρ lo) (hh : EO K th ρ hi) : EV K (tSl (rSlU K) te tl th) ρ (.tuple (cutDs ds lo hi)) := fun G0 H0 G H σ Q E q =>
  sl_step E h hl hh fun x G' H' e hx => by
    cases hx with
    | tup a b =>
      refine .inr (.inl ⟨_, _, rfl, e.gh.t a, fun w => ?_, fun _ p hp => ?_⟩)
      · have z : cutDs ds lo hi = ds := by
          unfold cutDs
          rw [← b.length, w.1, w.2, List.drop_zero, Nat.sub_zero, b.length, List.take_length]
        rw [z] at q
        exact q _ G' H' e (.tup a b)
      · have rr := cut_dq b lo hi
        exact q _ _ _ (e.trans (.new e.gh hp)) (.tup (SqT.of upd_same) (rr.mono (Ext.new e.gh hp).g))
end
end DL
set_option maxHeartbeats 1000000
/-! DL5: enumerate over a tuple, a text; iteration of any sequence. -/
namespace DL
open PySem L2 PySem.Spec PyProof.Rows
theorem meets_enumerate_newB1 {v : Value} {o : Obj} {H : Heap → Prop} (B : Begins v o H) :
    Meets (Builtin.«enumerate.__new__» ⟨[.type "enumerate", v], []⟩) (fun _ R s => H s.heap ∧
      R (.ok (.ret (.ref (s.heap.push o).objs.size))) { s with heap := (s.heap.push o).push { cls := .type "enumerate", data := .fields #[.none, .bool false, .ref s.heap.objs.size, rawInt 0, .none, .none] } }) :=
  .of_wp fun prog w A R s h => by
    obtain ⟨hp, g, d, tk, os⟩ := s; obtain ⟨h1, h⟩ := h
    have hsub := sub_enumerate
    have q1 : ∀ {A' : Around} {E : Value → Shared → Prop} {Q : Value → Shared → Prop}, Q (.ref hp.objs.size) ⟨hp.push o, g, d, tk, os⟩ → wpAny (model prog w) A' (pyIter v) Q E ⟨hp, g, d, tk, os⟩ :=
      fun q => B.iter prog w _ _ ⟨hp, g, d, tk, os⟩ _ h1 q
    wp_walk using q1
    refine wpAny_stack_any fun st => wpAny_pure ?_
    split
    · rename_i c _ _ _ _ _
      cases (c == Value.type "enumerate")
      · wp_walk using q1
        exact ⟨_, rfl, h⟩
      · wp_walk using q1
        exact ⟨_, rfl, h⟩
    · wp_walk using q1
      exact ⟨_, rfl, h⟩
section
variable {prog : Program} {w : World} {A : Around} {E : Value → Shared → Prop} {s : Shared}
theorem enum_begins1 {v : Value} {o : Obj} {H : Heap → Prop} {Q : Value → Shared → Prop} (B : Begins v o H) (h1 : H s.heap)
    (h : ∀ h', IsEnum h' (s.heap.objs.size + 1) s.heap.objs.size 0 .none → h'.get? s.heap.objs.size = some o → h'.objs.size = s.heap.objs.size + 2 →
      (∀ b o, s.heap.get? b = some o → h'.get? b = some o) → Q (.ref (s.heap.objs.size + 1)) { s with heap := h' }) :
    wpAny (model prog w) A (call (.type "enumerate") [v]) Q E s := by
  refine callType_new F.called_enumerate (by decide) (F.typeCall_enumerate_1 _) (F.newCall_enumerate_1 _) (fun obj => F.args_object_init_2 obj _) F.entry_enumerate_new
    (meets_enumerate_newB1 B) ⟨h1, ?_⟩
  have hz : (s.heap.push o).objs.size = s.heap.objs.size + 1 := Heap.size_push ..
  show _ ∧ _
  rw [hz]
  have he : IsEnum ((s.heap.push o).push { cls := .type "enumerate", data := .fields #[.none, .bool false, .ref s.heap.objs.size, rawInt 0, .none, .none] }) (s.heap.objs.size + 1) s.heap.objs.size 0 .none := by
    have := Heap.get?_push_size (s.heap.push o) (o := { cls := .type "enumerate", data := .fields #[.none, .bool false, .ref s.heap.objs.size, rawInt 0, .none, .none] }) rfl
    rw [hz] at this; exact this
  refine ⟨⟨_, he, rfl⟩, h _ he (Heap.get?_push_of_some _ (Heap.get?_push_size _ B.free)) (by rw [Heap.size_push, hz]) fun b o x => Heap.get?_push_of_some _ (Heap.get?_push_of_some _ x)⟩
end
/-- one turn of enumerate, told by what its iterator draws -/
theorem enum_item {X : Cx} {pins : List (Addr × Obj)} {σ : L2.St} {H : Hp} {s : Shared} {E : Value → Shared → Prop} {e it : Addr} {fp : List Addr} {n i : Nat} {Pv : Nat → Value → Prop} {Sv : Nat → Heap → Prop} {old : Value} {C : V → Prop} {elts : List Expr} {kk : Nat} {tpos : Pos}
    (I : Inv X pins σ H s) (hf : ∀ b ∈ [e, it], FpOk X pins H b) (D : Draws X.prog X.w X.A.in1 it fp n Pv Sv) (he : IsEnum s.heap e it ((i : Nat) : Int) old) (hst : Sv i s.heap) (hlt : i < n) (hne : e ≠ it) (hef : e ∉ fp) (hc : ∀ u, Pv i u → ∃ x, RelV x u ∧ C x) :
    wpAny (model X.prog X.w) X.A (pyNext (.ref e)) (fun r s1 => ∃ u, r = some u ∧
      wpAny (model X.prog X.w) X.A (letOwnedTupleGo (.Tuple elts kk tpos) (.ref e) u) (fun _ s2 => ∃ T x, u = .ref T ∧ Inv X pins σ (upd H T (.tup [.int (i : Nat), x])) s2 ∧ H T = none ∧ C x ∧ (∃ old, IsEnum s2.heap e it (((i + 1 : Nat)) : Int) old) ∧ Sv (i + 1) s2.heap ∧
        ∀ b ∈ [e, it], upd H T (.tup [.int (i : Nat), x]) b = none) E s1) E s := by
  have hel : e < s.heap.objs.size := Heap.lt_size he
  have hil : it < s.heap.objs.size := by obtain ⟨o, q⟩ := D.live i _ hst; exact Heap.lt_size q
  refine wpAny_pyNext_enum_itemD D he hst hlt hne hef fun u h' tk hP ho hst' hT hsz hk => ?_
  obtain ⟨x, ru, hx⟩ := hc u hP
  refine ⟨_, rfl, wpAny_letOwnedTupleGo_enum (s := { s with heap := h', toks := tk + 1 }) ho fun h'' he' sb => ?_⟩
  have hT2 : h''.get? s.heap.objs.size = some { cls := .type "tuple", data := .seq #[.int i tk, u] } := (sb.2 _ (Nat.ne_of_gt hel)).trans hT
  have new : ObjOk X.prog X.w (upd H s.heap.objs.size (.tup [.int (i : Nat), x])) h'' s.heap.objs.size (.tup [.int (i : Nat), x]) :=
    ⟨by show 2 ≤ sizeLine; decide, [.int i tk, u], .cons ⟨_, rfl⟩ (.cons ru .nil), ⟨_, hT2, rfl, _, rfl⟩⟩
  have I1 : Inv X pins σ (upd H s.heap.objs.size (.tup [.int (i : Nat), x])) { s with heap := h'', toks := tk + 1 } :=
    I.turnedNew (ch := [e, it]) (fun b ob hb q => (sb.2 b (fun z => hb (by simp [z]))).trans (hk b ob (fun z => hb (by simp [z])) (fun z => hb (by simp [z])) q)) hf (Nat.le_refl _) new
  refine ⟨s.heap.objs.size, x, rfl, I1, I.hok.fresh (Nat.le_refl _), hx, ⟨u, ?_⟩, D.frame _ _ _ hst' (fun b hb o q => (sb.2 b (fun z => hef (z ▸ hb))).trans q), fun b hb => ?_⟩
  · have e1 : ((i + 1 : Nat) : Int) = (i : Int) + 1 := by omega
    rw [e1]; exact he'
  · have hb' : b < s.heap.objs.size := by
      have e' : b = e ∨ b = it := by simpa using hb
      rcases e' with z | z
      · rw [z]; exact hel
      · rw [z]; exact hil
    rw [upd_ne (Nat.ne_of_lt hb')]
    exact (hf b hb).1
def IteT (K : PySem.W.Frag) (a : Addr) : It :=
  ⟨fun i H => ∃ (xs : List V) (x : V), SqT K H a xs ∧ xs[i]? = some x, fun i H v H' => ∃ T x, v = .ref T ∧ H T = none ∧ H' = upd H T (.tup [.int (i : Nat), x]) ∧ ∀ xs, SqT K H a xs → xs[i]? = some x, fun i H => ∃ xs : List V, SqT K H a xs ∧ xs.length ≤ i⟩
def IteS (z : Str) : It :=
  ⟨fun i _ => i < z.cps.size, fun i H v H' => ∃ T c, v = .ref T ∧ H T = none ∧ H' = upd H T (.tup [.int (i : Nat), .str ⟨#[c]⟩]) ∧ z.cps[i]? = some c, fun i _ => z.cps.size ≤ i⟩
theorem enum_ne_tup {h : Heap} {e it a : Addr} {i : Int} {old : Value} {its : Array Value} (he : IsEnum h e it i old) (ht : IsTup h a its) : e ≠ a := by
  rintro rfl
  obtain ⟨o, ho, hc, _⟩ := ht
  have q : h.get? e = some _ := he
  rw [q] at ho
  cases ho
  have z : Value.type "enumerate" = Value.type "tuple" := hc
  injection z with z
  exact absurd z (by decide)
theorem turn_enumT {P : Program} {w : World} {K : PySem.W.Frag} {elts : List Expr} {kk : Nat} {tpos : Pos} (a e it : Addr) :
    Turn P w K (.Tuple elts kk tpos) (IteT K a) [e, it] e (fun i h => (∃ old, IsEnum h e it ((i : Nat) : Int) old) ∧ h.IsTupleIter it a i ∧ e ≠ it) where
  mem := by simp
  obj := fun i h st b hb => by
    obtain ⟨⟨old, he⟩, ⟨o, ho, hc, hd⟩, _⟩ := st
    have e' : b = e ∨ b = it := by simpa using hb
    rcases e' with z | z
    · rw [z]; exact ⟨_, he, fun v q => nomatch q⟩
    · rw [z]; exact ⟨o, ho, fun v q => by rw [hd] at q; cases q⟩
  keep := fun i h h' st k => let ⟨⟨old, he⟩, hi, hne⟩ := st; ⟨⟨old, k e (by simp) _ he⟩, hi.at fun o q => k it (by simp) o q, hne⟩
  item := by
    intro X hP hw hK hc i pins s σ H E I hf st hg
    subst hP hw hK
    obtain ⟨⟨old, he⟩, hit, hne⟩ := st
    obtain ⟨xs, x, hq, hx⟩ := hg
    obtain ⟨its, rv, p, hz⟩ := I.tuple hq
    obtain ⟨u, hu, ru⟩ := rv.get hx
    have hi : i < its.toArray.size := by
      rw [List.size_toArray]
      exact (List.getElem?_eq_some_iff.mp hu).1
    have hta : a ≠ it := by
      rintro rfl
      obtain ⟨o, ho, hc', _⟩ := id p
      obtain ⟨o2, ho2, hc2, _⟩ := id hit
      rw [ho] at ho2; cases ho2
      rw [hc'] at hc2
      injection hc2 with z
      exact absurd z (by decide)
    refine thn (enum_item (C := fun y => y = x) I hf (Draws.tuple (A := X.A.in1) (show X.A.in1.handled = none from I.ok.hd hc) it a hta its.toArray) he ⟨hit, p⟩ hi hne (by simpa using ⟨hne, enum_ne_tup he p⟩) fun u' q => ?_) fun r s1 ⟨v, er, h2⟩ => ⟨v, er, thn h2 fun _ s2 ⟨T, y, ev, I1, hT, ey, he2, hs2, hb⟩ => ?_⟩
    · rw [show its.toArray[i]? = some u from by simpa using hu] at q
      cases q
      exact ⟨x, ru, rfl⟩
    · subst ey
      subst ev
      exact ⟨.ref T, _, I1, rfl, ⟨T, y, rfl, hT, rfl, fun ys hy => by rw [I.tuple_inj hy hq]; exact hx⟩, ⟨he2, hs2.1, hne⟩, hb⟩
  done := by
    intro X hP hw hK hc i pins s σ H E I hf st hg
    subst hP hw hK
    obtain ⟨⟨old, he⟩, hit, hne⟩ := st
    obtain ⟨xs, hq, hx⟩ := hg
    obtain ⟨its, rv, p, hz⟩ := I.tuple hq
    obtain ⟨f0, f1, f2, f3, f4, f5⟩ := hf it (by simp)
    have hl := rv.length
    have hta : a ≠ it := by
      rintro rfl
      obtain ⟨o, ho, hc', _⟩ := id p
      obtain ⟨o2, ho2, hc2, _⟩ := id hit
      rw [ho] at ho2; cases ho2
      rw [hc'] at hc2
      injection hc2 with z
      exact absurd z (by decide)
    by_cases hi : i = its.toArray.size
    · subst hi
      exact wpAny_pyNext_enum_endD (Draws.tuple (A := X.A.in1) (show X.A.in1.handled = none from I.ok.hd hc) it a hta its.toArray) he ⟨hit, p⟩ fun h' eb => ⟨rfl, I.turned (t' := s.toks) (fun b o hb q => eb b o hb q) f0 f1 f3 f4 f5⟩
    · have D : Draws X.prog X.w X.A.in1 it [it, a] i (fun _ _ => True) (fun j h => h.IsTupleIter it a j ∧ h.IsTuple a its.toArray ∧ its.toArray.size ≤ j ∧ j = i) := {
        live := fun _ _ st => let ⟨o, ho, _⟩ := st.1; ⟨o, ho⟩
        frame := fun _ _ _ st hk => ⟨st.1.at fun o e => hk it (by simp) o e, st.2.1.at fun o e => hk a (by simp) o e, st.2.2⟩
        item := fun j s Q E hj st hQ => by have := st.2.2.2; omega
        done := fun s Q E st hE => wpAny_nextOf_tuple_end (show X.A.in1.handled = none from I.ok.hd hc) st.1 st.2.1 (by simpa using st.2.2.1) hE }
      exact wpAny_pyNext_enum_endD D he ⟨hit, p, by rw [List.size_toArray]; omega, rfl⟩ fun h' eb => ⟨rfl, I.turned (t' := s.toks) (fun b o hb q => eb b o hb q) f0 f1 f3 f4 f5⟩
  self := fun A i s Q E st h => let ⟨⟨_, he⟩, _⟩ := st; wpAny_pyIter_enum he h
theorem turn_enumS {P : Program} {w : World} {K : PySem.W.Frag} {elts : List Expr} {kk : Nat} {tpos : Pos} (z : Str) (t : Tok) (e it : Addr) :
    Turn P w K (.Tuple elts kk tpos) (IteS z) [e, it] e (fun i h => (∃ old, IsEnum h e it ((i : Nat) : Int) old) ∧ h.IsStrIter it (strIterType z) z t i ∧ e ≠ it) where
  mem := by simp
  obj := fun i h st b hb => by
    obtain ⟨⟨old, he⟩, ⟨o, ho, hc, hd⟩, _⟩ := st
    have e' : b = e ∨ b = it := by simpa using hb
    rcases e' with z | z
    · rw [z]; exact ⟨_, he, fun v q => nomatch q⟩
    · rw [z]; exact ⟨o, ho, fun v q => by rw [hd] at q; cases q⟩
  keep := fun i h h' st k => let ⟨⟨old, he⟩, ⟨o, ho, r⟩, hne⟩ := st; ⟨⟨old, k e (by simp) _ he⟩, ⟨o, k it (by simp) o ho, r⟩, hne⟩
  item := by
    intro X hP hw hK hc i pins s σ H E I hf st hg
    subst hP hw hK
    obtain ⟨⟨old, he⟩, hit, hne⟩ := st
    refine thn (enum_item (C := fun y => ∃ c, z.cps[i]? = some c ∧ y = .str ⟨#[c]⟩) I hf (Draws.text (A := X.A.in1) (show X.A.in1.handled = none from I.ok.hd hc) it z t) he hit hg hne (by simpa using hne) fun u' q => ?_) fun r s1 ⟨v, er, h2⟩ => ⟨v, er, thn h2 fun _ s2 ⟨T, y, ev, I1, hT, ey, he2, hs2, hb⟩ => ?_⟩
    · obtain ⟨c, u, h1, rfl⟩ := q
      exact ⟨.str ⟨#[c]⟩, ⟨u, rfl⟩, c, h1, rfl⟩
    · obtain ⟨c, hcx, rfl⟩ := ey
      subst ev
      exact ⟨.ref T, _, I1, rfl, ⟨T, c, rfl, hT, rfl, hcx⟩, ⟨he2, hs2, hne⟩, hb⟩
  done := by
    intro X hP hw hK hc i pins s σ H E I hf st hg
    subst hP hw hK
    obtain ⟨⟨old, he⟩, hit, hne⟩ := st
    obtain ⟨f0, f1, f2, f3, f4, f5⟩ := hf it (by simp)
    have hx : z.cps[i]? = none := Array.getElem?_eq_none hg
    have D : Draws X.prog X.w X.A.in1 it [it] i (fun _ _ => True) (fun j h => h.IsStrIter it (strIterType z) z t j ∧ j = i) := {
      live := fun _ _ st => let ⟨o, ho, _⟩ := st.1; ⟨o, ho⟩
      frame := fun _ _ _ st hk => let ⟨⟨o, ho, r⟩, e⟩ := st; ⟨⟨o, hk it (by simp) o ho, r⟩, e⟩
      item := fun j s Q E hj st hQ => by have := st.2; omega
      done := fun s Q E st hE => by
        obtain ⟨st, _⟩ := st
        cases ha : z.cps.all (· < 128)
        · simp only [strIterType, ha, Bool.false_eq_true, if_false] at st
          exact wpAny_nextOf_wide_end (show X.A.in1.handled = none from I.ok.hd hc) st hx hE
        · simp only [strIterType, ha, if_true] at st
          exact wpAny_nextOf_ascii_end (show X.A.in1.handled = none from I.ok.hd hc) st hx hE }
    exact wpAny_pyNext_enum_endD D he ⟨hit, rfl⟩ fun h' eb => ⟨rfl, I.turned (t' := s.toks) (fun b o hb q => eb b o hb q) f0 f1 f3 f4 f5⟩
  self := fun A i s Q E st h => let ⟨⟨_, he⟩, _⟩ := st; wpAny_pyIter_enum he h
/-- enumerate of a list, a tuple, a text -/
def iEnumU (K : PySem.W.Frag) (ta : TA) : TI := fun σ H R => ta σ H fun vs H1 => (∃ a xs, vs = [.ref a] ∧ SqL K H1 a xs ∧ R (Ite K a) H1) ∨ (∃ a xs, vs = [.ref a] ∧ SqT K H1 a xs ∧ R (IteT K a) H1) ∨ (∃ z, vs = [.str z] ∧ R (IteS z) H1)
theorem pi_enumU {X : Cx} {e : Expr} {ta : TA} {p pos tpos : Pos} {elts : List Expr} {kk : Nat} (hg : Gl X "enumerate") (hm : X.mg "enumerate" = none) (ha : PA X [e] ta) (hs : starEach [e] X.env = [(false, eval e X.env)] := by rfl) :
    PI X (.Tuple elts kk tpos) (.Call (.Name "enumerate" p) [e] [] pos) (iEnumU X.K ta) := by
  refine ⟨fun pins s σ H R I h => ?_⟩
  refine Call_ (ld_blt I hg hm boot_enumerate (PyProof.Rows.callWith_type1 (thn (ha.run pos pins s σ H _ I h) fun us s1 ⟨vs, H1, I1, r1, q1⟩ => ?_) hs rfl))
  have fp : ∀ b ∈ [s1.heap.objs.size + 1, s1.heap.objs.size], s1.heap.objs.size ≤ b := fun b hb => by
    have e' : b = s1.heap.objs.size + 1 ∨ b = s1.heap.objs.size := by simpa using hb
    rcases e' with z | z
    · rw [z]; exact Nat.le_add_right _ _
    · rw [z]; exact Nat.le_refl _
  rcases q1 with ⟨a, xs, ex, hq, q⟩ | ⟨a, xs, ex, hq, q⟩ | ⟨z, ex, q⟩
  · subst ex
    cases r1 with
    | cons r rr =>
      cases rr
      cases r
      obtain ⟨its, rv, p', hz⟩ := I1.list hq
      refine call_enumerate_list p'.isList fun h' he hit hsz hk => wpAny_pyIter_enum he ?_
      have I2 : Inv X pins σ H1 { s1 with heap := h' } := I1.kept (t' := s1.toks) hk
      exact ⟨s1.heap.objs.size + 1, [s1.heap.objs.size + 1, s1.heap.objs.size], _, _, H1, rfl, I2, turn_enum a (s1.heap.objs.size + 1) s1.heap.objs.size, ⟨⟨.none, he⟩, hit, Nat.succ_ne_self _⟩, fun b hb => I1.fpOk (fp b hb) (I1.hok.fresh (fp b hb)), q⟩
  · subst ex
    cases r1 with
    | cons r rr =>
      cases rr
      cases r
      obtain ⟨its, rv, p', hz⟩ := I1.tuple hq
      refine enum_begins1 (begins_tuple a its.toArray) p' fun h' he hit hsz hk => wpAny_pyIter_enum he ?_
      have I2 : Inv X pins σ H1 { s1 with heap := h' } := I1.kept (t' := s1.toks) hk
      exact ⟨s1.heap.objs.size + 1, [s1.heap.objs.size + 1, s1.heap.objs.size], _, _, H1, rfl, I2, turn_enumT a (s1.heap.objs.size + 1) s1.heap.objs.size, ⟨⟨.none, he⟩, ⟨_, hit, rfl, rfl⟩, Nat.succ_ne_self _⟩, fun b hb => I1.fpOk (fp b hb) (I1.hok.fresh (fp b hb)), q⟩
  · subst ex
    cases r1 with
    | cons r rr =>
      cases rr
      obtain ⟨t, rfl⟩ := r
      refine enum_begins1 (begins_text z t) trivial fun h' he hit hsz hk => wpAny_pyIter_enum he ?_
      have I2 : Inv X pins σ H1 { s1 with heap := h' } := I1.kept (t' := s1.toks) hk
      exact ⟨s1.heap.objs.size + 1, [s1.heap.objs.size + 1, s1.heap.objs.size], _, _, H1, rfl, I2, turn_enumS z t (s1.heap.objs.size + 1) s1.heap.objs.size, ⟨⟨.none, he⟩, ⟨_, hit, rfl, rfl⟩, Nat.succ_ne_self _⟩, fun b hb => I1.fpOk (fp b hb) (I1.hok.fresh (fp b hb)), q⟩
/-- a list, a tuple, a text, walked -/
def iSeqU (K : PySem.W.Frag) (te : TE) : TI := fun σ H R => te σ H fun x H1 => (∃ a xs, x = .ref a ∧ SqL K H1 a xs ∧ R (Itl K a) H1) ∨ (∃ a xs, x = .ref a ∧ SqT K H1 a xs ∧ R (Itt K a) H1) ∨ (∃ z, x = .str z ∧ R (Its z) H1)
theorem pi_seqU {X : Cx} {tg l : Expr} {tl : TE} (hl : PE X l tl) : PI X tg l (iSeqU X.K tl) := by
  refine ⟨fun pins s σ H R I h => ?_⟩
  refine thn (hl.run pins s σ H _ I h) fun v s1 ⟨x, H1, I1, r1, q1⟩ => ?_
  rcases q1 with ⟨a, xs, ex, hq, q⟩ | ⟨a, xs, ex, hq, q⟩ | ⟨z, ex, q⟩
  · subst ex
    cases r1
    obtain ⟨its, rv, p, hz⟩ := I1.list hq
    refine wpAny_pyIter_list p.isList ?_
    refine ⟨s1.heap.objs.size, [s1.heap.objs.size], _, _, H1, rfl, I1.kept (t' := s1.toks) fun b o e => Heap.get?_push_of_some _ e, turn_list a _, ⟨_, Heap.get?_push_size _ rfl, rfl, rfl⟩, fun b hb => ?_, q⟩
    have e : b = s1.heap.objs.size := by simpa using hb
    subst e
    exact I1.fpOk (Nat.le_refl _) (I1.hok.fresh (Nat.le_refl _))
  · subst ex
    cases r1
    obtain ⟨its, rv, p, hz⟩ := I1.tuple hq
    refine wpAny_pyIter_tuple (show s1.heap.IsTuple a its.toArray from p) ?_
    refine ⟨s1.heap.objs.size, [s1.heap.objs.size], _, _, H1, rfl, I1.kept (t' := s1.toks) fun b o e => Heap.get?_push_of_some _ e, turn_tuple a _, ⟨_, Heap.get?_push_size _ rfl, rfl, rfl⟩, fun b hb => ?_, q⟩
    have e : b = s1.heap.objs.size := by simpa using hb
    subst e
    exact I1.fpOk (Nat.le_refl _) (I1.hok.fresh (Nat.le_refl _))
  · subst ex
    obtain ⟨t, rfl⟩ := r1
    cases ha : z.cps.all (· < 128)
    · exact wpAny_pyIter_wide ha (pi_one (tk := s1.toks) I1 _ (turn_str _ z t "str_iterator" (.inr rfl)) ⟨_, Heap.get?_push_size _ rfl, rfl, rfl⟩ q)
    · exact wpAny_pyIter_ascii ha (pi_one (tk := s1.toks) I1 _ (turn_str _ z t "str_ascii_iterator" (.inl rfl)) ⟨_, Heap.get?_push_size _ rfl, rfl, rfl⟩ q)
end DL
/-! DL6: what is walked, comprehensions, built-ins, lists that grow, calls of own defs, by data. -/
namespace DL
open PySem L2
section
variable {K : PySem.W.Frag} {ρ : List Sl} {ta tb te : TE} {tt : TT} {d d1 d2 : D} {P : Oc → Prop} {Ex : XK}
/-! ### what is walked -/
theorem ei_mono {wi : TI} {n : Nat} {f g : Nat → D} (h : EI K wi ρ n f) (e : ∀ i, i < n → f i = g i) : EI K wi ρ n g := fun G0 H0 G H σ R E q =>
  h G0 H0 G H σ R E fun J G' H' Gd Y x w hG hY => q J G' H' Gd Y x w hG fun i G2 H2 v H3 hi a b c => by
    rw [← e i hi]
    exact hY i G2 H2 v H3 hi a b c
theorem ei_rng1 {t : TA} {n : Int} (h : EA K t ρ [.int n]) (h1 : -(2 ^ 62) ≤ n) (h2 : n < 2 ^ 62) : EI K (iRng1 t) ρ n.toNat (fun i => .int (i : Nat)) := fun G0 H0 G H σ R E q =>
  h G0 H0 G H σ _ E fun vs G1 H1 e1 hv => by
    cases hv with
    | cons a b =>
      cases a
      cases b
      refine ⟨n, rfl, h1, h2, q _ G1 H1 _ _ e1 walk_range (fun _ _ _ _ => trivial) fun i G2 H2 x H3 hi hg gh hy => ?_⟩
      obtain ⟨rfl, rfl⟩ := hy
      refine ⟨G2, .refl gh, ?_⟩
      show Dq K G2 (.int (0 + (i : Nat))) (.int (i : Nat))
      rw [Int.zero_add]
      exact .int _
theorem ei_rng2 {t : TA} {m n : Int} (h : EA K t ρ [.int m, .int n]) (hb : -(2 ^ 62) ≤ m ∧ m < 2 ^ 62 ∧ -(2 ^ 62) ≤ n ∧ n < 2 ^ 62) : EI K (iRng2 t) ρ (n - m).toNat (fun i => .int (m + (i : Nat))) := fun G0 H0 G H σ R E q =>
  h G0 H0 G H σ _ E fun vs G1 H1 e1 hv => by
    cases hv with
    | cons a b =>
      cases a
      cases b with
      | cons a b =>
        cases a
        cases b
        refine ⟨m, n, rfl, hb, q _ G1 H1 _ _ e1 walk_range (fun _ _ _ _ => trivial) fun i G2 H2 x H3 hi hg gh hy => ?_⟩
        obtain ⟨rfl, rfl⟩ := hy
        exact ⟨G2, .refl gh, .int _⟩
theorem getD_of {α : Type} {ds : List α} {i : Nat} {d z : α} (h : ds[i]? = some d) : ds.getD i z = d := by
  rw [List.getD_eq_getElem?_getD, h]
  rfl
theorem ei_list {ds : List D} (h : EV K te ρ (.list ds)) : EI K (iSeqU K te) ρ ds.length (fun i => ds.getD i .none) := fun G0 H0 G H σ R E q =>
  h G0 H0 G H σ _ E fun v G1 H1 e1 hv => by
    cases hv with
    | @lst a xs _ ha hr =>
      refine .inl ⟨a, xs, rfl, SqL.of (e1.gh.lst ha), ?_⟩
      rw [← hr.length] at q
      refine q _ G1 H1 _ _ e1 (walk_list (K := K) (a := a)) (fun G2 H2 hg gh => SqL.of (gh.lst (hg _ _ ha))) fun i G2 H2 x H3 hi hg gh hy => ?_
      obtain ⟨rfl, hx⟩ := hy
      obtain ⟨d, hd, hq⟩ := hr.got hx
      exact ⟨G2, .refl gh, by show Dq K G2 x (ds.getD i .none); rw [getD_of hd]; exact hq.mono (Sub.of hg)⟩
def chD (z : Str) (i : Nat) : D := .str ⟨#[z.cps.getD i 0]⟩
theorem ch_of {z : Str} {i c : Nat} (h : z.cps[i]? = some c) : chD z i = .str ⟨#[c]⟩ := by
  unfold chD
  rw [Array.getD_eq_getD_getElem?, h]
  rfl
theorem ei_str {z : Str} (h : EV K te ρ (.str z)) : EI K (iSeqU K te) ρ z.cps.size (chD z) := fun G0 H0 G H σ R E q =>
  h G0 H0 G H σ _ E fun v G1 H1 e1 hv => by
    cases hv
    refine .inr (.inr ⟨z, rfl, q _ G1 H1 _ _ e1 walk_str (fun _ _ _ _ => trivial) fun i G2 H2 x H3 hi hg gh hy => ?_⟩)
    obtain ⟨rfl, c, hc, rfl⟩ := hy
    exact ⟨G2, .refl gh, by rw [ch_of hc]; exact .str _⟩
theorem new_pair {G H : Hp} {T : Addr} {x y : V} {a b : D} (g : GH G H) (hT : H T = none) (hx : Dq K G x a) (hy : Dq K G y b) : ∃ G3, Ext G H G3 (upd H T (.tup [x, y])) ∧ Dq K G3 (.ref T) (.tuple [a, b]) :=
  ⟨_, .new g hT, .tup (SqT.of upd_same) (.cons (hx.mono (Ext.new g hT).g) (.cons (hy.mono (Ext.new g hT).g) .nil))⟩
theorem ei_enumL {t : TA} {ds : List D} (h : EA K t ρ [.list ds]) : EI K (iEnumU K t) ρ ds.length (fun i => .tuple [.int (i : Nat), ds.getD i .none]) := fun G0 H0 G H σ R E q =>
  h G0 H0 G H σ _ E fun v G1 H1 e1 hv => by
    cases hv with
    | cons a b =>
      cases b
      cases a with
      | @lst a xs _ ha hr =>
        refine .inl ⟨a, xs, rfl, SqL.of (e1.gh.lst ha), ?_⟩
        rw [← hr.length] at q
        refine q _ G1 H1 _ _ e1 (walk_enum (K := K) (a := a)) (fun G2 H2 hg gh => SqL.of (gh.lst (hg _ _ ha))) fun i G2 H2 x H3 hi hg gh hy => ?_
        obtain ⟨T, x1, y1, rfl, hT, rfl, h1, h2⟩ := hy
        cases h1
        obtain ⟨d, hd, hq⟩ := hr.got h2
        exact new_pair gh hT (.int _) (by rw [getD_of hd]; exact hq.mono (Sub.of hg))
theorem walk_enumS {z : Str} : Walk (IteS z) z.cps.size (fun _ => True) (fun i H v H' => ∃ T c, v = .ref T ∧ H T = none ∧ H' = upd H T (.tup [.int (i : Nat), .str ⟨#[c]⟩]) ∧ z.cps[i]? = some c) :=
  ⟨fun _ _ hi _ => hi, fun _ _ => Nat.le_refl _, fun _ _ _ _ _ _ y => y⟩
theorem ei_enumS {t : TA} {z : Str} (h : EA K t ρ [.str z]) : EI K (iEnumU K t) ρ z.cps.size (fun i => .tuple [.int (i : Nat), chD z i]) := fun G0 H0 G H σ R E q =>
  h G0 H0 G H σ _ E fun v G1 H1 e1 hv => by
    cases hv with
    | cons a b =>
      cases b
      cases a
      refine .inr (.inr ⟨z, rfl, q _ G1 H1 _ _ e1 walk_enumS (fun _ _ _ _ => trivial) fun i G2 H2 x H3 hi hg gh hy => ?_⟩)
      obtain ⟨T, c, rfl, hT, rfl, hc⟩ := hy
      exact new_pair gh hT (.int _) (by rw [ch_of hc]; exact .str _)
/-! ### a comprehension -/
def wipeS (ρ : List Sl) : List Nat → List Sl
  | [] => ρ
  | v :: vs => (wipeS ρ vs).set v .no
theorem En.wipe {G0 H0 G H : Hp} {σ : St} (E : En K G0 H0 G H σ ρ) : ∀ vs : List Nat, En K G0 H0 G H (L2.wipe σ vs) (wipeS ρ vs)
  | [] => E
  | v :: vs => (En.wipe E vs).setX v none
theorem wipe_get {σ : St} {k : Nat} : ∀ {vs : List Nat}, (L2.wipe σ vs)[k]? = if k ∈ vs ∧ k < σ.length then some none else σ[k]?
  | [] => by simp [L2.wipe]
  | v :: vs => by
    unfold L2.wipe
    by_cases e : v = k
    · subst e
      by_cases h : v < σ.length
      · rw [List.getElem?_set_self (by rw [wipe_length]; exact h), if_pos ⟨List.mem_cons_self, h⟩]
      · rw [if_neg (fun z => h z.2), List.getElem?_eq_none (by rw [List.length_set, wipe_length]; omega), List.getElem?_eq_none (by omega)]
    · rw [List.getElem?_set_ne e, wipe_get (vs := vs)]
      by_cases h : k ∈ vs ∧ k < σ.length
      · rw [if_pos h, if_pos ⟨List.mem_cons_of_mem _ h.1, h.2⟩]
      · rw [if_neg h, if_neg fun z => h ⟨(List.mem_cons.mp z.1).resolve_left (Ne.symm e), z.2⟩]
theorem wipe_eq {σ σ' : St} {vs ts : List Nat} (hl : σ'.length = σ.length) (hk : ∀ k, k ∉ ts → σ'[k]? = (L2.wipe σ vs)[k]?) (hs : ∀ t ∈ ts, t ∈ vs) : L2.wipe σ' vs = L2.wipe σ vs := by
  refine List.ext_getElem? fun k => ?_
  rw [wipe_get, hl]
  by_cases h : k ∈ vs ∧ k < σ.length
  · rw [if_pos h, wipe_get, if_pos h]
  · rw [if_neg h]
    by_cases hv : k ∈ vs
    · have : ¬ k < σ.length := fun z => h ⟨hv, z⟩
      rw [List.getElem?_eq_none (by omega), List.getElem?_eq_none (by rw [wipe_length]; omega)]
    · exact hk k fun z => hv (hs k z)
/-- what a comprehension gives: the value at each turn that passes -/
def lcD : Nat → (Nat → Bool) → (Nat → D) → List D
  | 0, _, _ => []
  | n + 1, b, f => if b n = true then lcD n b f ++ [f n] else lcD n b f
theorem lcD_len (b : Nat → Bool) (f : Nat → D) : ∀ n, (lcD n b f).length ≤ n
  | 0 => Nat.le_refl _
  | n + 1 => by
    unfold lcD
    have := lcD_len b f n
    split
    · rw [List.length_append]
      exact Nat.succ_le_succ this
    · omega
theorem en_lc {wi : TI} {g : TG} {vs : List Nat} {n : Nat} {item : Nat → D} {b : Nat → Bool} {f : Nat → D} (hi : EI K wi ρ n item) (hn : n ≤ 16000000)
    (hs : ∀ i, i < n → ∃ ρ2 ts, GT K g (wipeS ρ vs) (item i) ρ2 ts ∧ (∀ t ∈ ts, t ∈ vs) ∧ ET K tt ρ2 (b i) ∧ (b i = true → EV K te ρ2 (f i))) :
    EVN K (tLc wi g tt te vs) ρ (.list (lcD n b f)) := fun G0 H0 G H σ Q E q =>
  hi G0 H0 G H σ _ E fun J G1 H1 Gd Y x w hG hY Dl hD => by
    have E1 := E.go x
    have hH : H Dl = none := by
      exact x.gone hD
    have hG1 : G1 Dl = none := x.gh.none hD
    refine lc_it w (fun i H' => ∃ G' vl, Ext G1 H1 G' H' ∧ G' Dl = none ∧ H' Dl = some (.lst vl) ∧ DqA K G' vl (lcD i b f)) ⟨G1, [], .fresh x.gh hD, hG1, upd_same, .nil⟩ (fun i H' _ ⟨G', vl, e, _⟩ => hG G' H' e.gg e.gh) (fun i y H' H3 hlt ⟨G', vl, e, n1, h1, r1⟩ hy => ?_)
      (fun H' ⟨G', vl, e, n1, h1, r1⟩ => q Dl G' H' (x.trans e) hH n1 (.lst h1 r1))
    obtain ⟨G3, x3, hdq⟩ := hY i G' H' y H3 hlt e.gg e.gh hy
    obtain ⟨ρ2, ts, hg, hts, ht, he⟩ := hs i hlt
    have E3 : En K G0 H0 G3 H3 (L2.wipe σ vs) (wipeS ρ vs) := ((E1.go e).go x3).wipe vs
    have n3 : G3 Dl = none := x3.own _ _ h1 rfl n1
    refine hg G0 H0 G3 H3 _ y _ E3 hdq fun σ2 E2 hl hk => ⟨wipe_eq (by rw [hl, wipe_length]) hk hts, ?_⟩
    refine ht G0 H0 G3 H3 σ2 _ E2 fun G4 H4 x4 => ?_
    have h4 : H4 Dl = some (.lst vl) := x4.at n3 (x3.at n1 h1)
    have n4 : G4 Dl = none := x4.own _ _ (x3.at n1 h1) rfl n3
    have r4 : DqA K G4 vl (lcD i b f) := (r1.mono x3.g).mono x4.g
    have e4 : Ext G1 H1 G4 H4 := (e.trans x3).trans x4
    cases hb : b i with
    | false =>
      rw [if_neg Bool.false_ne_true]
      refine ⟨G4, vl, e4, n4, h4, ?_⟩
      unfold lcD
      rw [if_neg (by rw [hb]; exact Bool.false_ne_true)]
      exact r4
    | true =>
      rw [if_pos rfl]
      refine he hb G0 H0 G4 H4 σ2 _ (E2.go x4) fun u G5 H5 x5 hu => ?_
      have h5 := x5.at n4 h4
      have n5 := x5.own _ _ h4 rfl n4
      have hlen := lcD_len b f i
      have hl2 := r4.length
      refine ⟨vl, h5, by rw [hl2, sizeLine_eq]; omega, G5, vl ++ [u], ?_, n5, upd_same, ?_⟩
      · have e5 := e4.trans x5
        refine ⟨e5.gg, fun a o ha => ?_, fun a o ha => ?_, e5.own⟩
        · rw [upd_ne (ne_of_none ha hD)]; exact e5.hh a o ha
        · have ne : a ≠ Dl := ne_of_none ha n5
          exact (e5.gh a o ha).eq (upd_ne ne)
      · have hb' : lcD (i + 1) b f = lcD i b f ++ [f i] := by
          show (if b i = true then lcD i b f ++ [f i] else lcD i b f) = _
          rw [if_pos hb]
        rw [hb']
        exact (r4.mono x5.g).append (.one hu)
theorem et_yes : ET K tYes ρ true := fun _ _ G H _ _ E q => q G H (.refl E.gh)
/-! ### built-ins -/
theorem cd_lenS {z : Str} (h : z.length ≤ sizeLine) : CD K (rLen K) [.str z] (.int z.length) := fun xs G H Q g hx q => by
  cases hx with
  | cons a b =>
    cases a
    cases b
    exact ⟨_, z.length, rfl, ⟨h, rfl⟩, q _ G H (.refl g) (.int _)⟩
theorem cd_lenL {ds : List D} : CD K (rLen K) [.list ds] (.int ds.length) := fun xs G H Q g hx q => by
  cases hx with
  | cons a b =>
    cases b
    cases a with
    | @lst a xs _ ha hr => exact ⟨_, xs.length, rfl, .inl ⟨xs, SqL.of (g.lst ha), rfl⟩, by rw [hr.length]; exact q _ G H (.refl g) (.int _)⟩
theorem cd_lenT {ds : List D} : CD K (rLen K) [.tuple ds] (.int ds.length) := fun xs G H Q g hx q => by
  cases hx with
  | cons a b =>
    cases b
    cases a with
    | @tup a xs _ ha hr => exact ⟨_, xs.length, rfl, .inr ⟨xs, g.t ha, rfl⟩, by rw [hr.length]; exact q _ G H (.refl g) (.int _)⟩
theorem ev_lenO {n : Nat} {ds : List D} (hi : ρ[n]? = some (.ow (.list ds))) : EV K (tCB (rLen K) (tCons (tVar n) tNil)) ρ (.int ds.length) := fun G0 H0 G H σ Q E q => by
  obtain ⟨l, vs, h1, h2, h3⟩ := own_look E hi
  exact ⟨_, h1, _, vs.length, rfl, .inl ⟨vs, SqL.of h2, rfl⟩, by rw [h3.length]; exact q _ G H (.refl E.gh) (.int _)⟩
def rIntU : List V → Hp → VK → Prop := fun xs H Q => (∃ i, xs = [.int i] ∧ Q (.int i) H) ∨ ∃ k, xs = [.bl k] ∧ Q (.int (if k then 1 else 0)) H
theorem cd_int {i : Int} : CD K rIntU [.int i] (.int i) := fun xs G H Q g hx q => by
  cases hx with
  | cons a b =>
    cases a
    cases b
    exact .inl ⟨i, rfl, q _ G H (.refl g) (.int _)⟩
/-- a datum's type -/
def tyD : D → String
  | .none => "NoneType"
  | .bool _ => "bool"
  | .int _ => "int"
  | .str _ => "str"
  | .list _ => "list"
  | .tuple _ => "tuple"
  | .dict _ => "dict"
def isDicD : D → Bool
  | .dict _ => true
  | _ => false
theorem ty_dq {G H : Hp} {v : V} (g : GH G H) (h : Dq K G v d) (nd : isDicD d = false) : TyX K H v (.type (tyD d)) := by
  cases h with
  | non => exact .base .non
  | bl b => exact .base (.bl b)
  | int i => exact .base (.int i)
  | str x => exact .base (.str x)
  | lst a b => exact .base (.lst (g.lst a))
  | tup a b =>
    rcases g.t a with (h | ⟨o, h⟩) | ⟨o, its, n, h, c, _⟩
    · exact .base (.tup h)
    · exact .fTuple h
    · exact .kTuple h c
  | dK _ _ => cases nd
  | dT _ _ => cases nd
  | scr _ => cases nd
  | sta _ _ => cases nd
  | opq _ => cases nd
  | raw _ => cases nd
theorem ev_isi {T : String} {b : Bool} (h : EV K ta ρ d) (nd : isDicD d = false) (hk : kitB (tyD d) T = some b) : EV K (tCB (rIsi K) (tCons ta (tCons (tC (.ty T)) tNil))) ρ (.bool b) := fun G0 H0 G H σ Q E q =>
  h G0 H0 G H σ _ E fun v G1 H1 e1 h1 => ⟨v, .ty T, .type (tyD d), .type T, b, rfl, .ty T, ty_dq e1.gh h1 nd, kit_ty hk, q _ G1 H1 e1 (.bl b)⟩
/-- xs.append(e), xs the owned list of slot n -/
theorem st_append {n : Nat} {ds : List D} (hi : ρ[n]? = some (.ow (.list ds))) (h : EV K te ρ d) (hz : ds.length < 16000000) (q : P (.nx (ρ.set n (.ow (.list (ds ++ [d])))))) :
    ST K Ex (tDrop (tBM K "list" rAppend (tVar n) (tCons te tNil))) ρ P := fun G0 H0 G H σ D E f => by
  obtain ⟨l, vs, h1, h2, h3, h0⟩ := own_lookG E hi
  refine ⟨_, h1, .inl ⟨rfl, vs, SqL.of h2⟩, h G0 H0 G H σ _ E fun v G1 H1 e1 hv => ?_⟩
  have h4 := e1.at h0 h2
  have r4 := h3.mono e1.g
  exact ⟨l, vs, v, rfl, rfl, h4, by rw [h3.length, sizeLine_eq]; omega, f.nx _ _ _ _ q ((E.go e1).write hi h1 (.lst upd_same (r4.append (.one hv))))⟩
/-- xs[i] = e -/
theorem st_setL {n : Nat} {ds : List D} {i : Int} {j : Nat} (hi : ρ[n]? = some (.ow (.list ds))) (h : EV K te ρ d) (hb : EV K tb ρ (.int i)) (hj : ixN ds.length i = some j) (q : P (.nx (ρ.set n (.ow (.list (ds.set j d)))))) :
    ST K Ex (tAsg te (gSub (tVar n) tb rSetL)) ρ P := fun G0 H0 G H σ D E f =>
  h G0 H0 G H σ _ E fun v G1 H1 e1 hv => by
    obtain ⟨l, vs, h1, h2, h3, h0⟩ := own_lookG (E.go e1) hi
    refine ⟨_, h1, hb G0 H0 G1 H1 σ _ (E.go e1) fun y G2 H2 e2 hy => ?_⟩
    cases hy
    have h4 := e2.at h0 h2
    have r4 := h3.mono e2.g
    exact ⟨l, vs, i, j, rfl, rfl, h4, by rw [h3.length]; exact hj, f.nx _ _ _ _ q (((E.go e1).go e2).write hi h1 (.lst upd_same (r4.set j (hv.mono e2.g))))⟩
/-- x += e -/
def rIAddU : R2 := fun x y H Q => rI0 (fun i j => .int (i + j)) x y H Q ∨ (fun x y H Q => (∃ i j, x = .str i ∧ y = .str j ∧ i.length + j.length ≤ sizeLine ∧ Q (.str (i ++ j)) H) ∨ rExt2 x y H Q) x y H Q
theorem ip_addU {X : Cx} : PIp X .Add rIAddU := iop_add.or (iop_add_str.or iop_ext)
theorem st_augO {n : Nat} {ds es : List D} (hi : ρ[n]? = some (.ow (.list ds))) (h : EV K te ρ (.list es)) (hz : ds.length + es.length ≤ 16000000) (q : P (.nx (ρ.set n (.ow (.list (ds ++ es)))))) :
    ST K Ex (tAug n te rIAddU) ρ P := fun G0 H0 G H σ D E f => by
  obtain ⟨l, vs, h1, h2, h3, h0⟩ := own_lookG E hi
  refine ⟨_, h1, h G0 H0 G H σ _ E fun y G1 H1 e1 hy => ?_⟩
  cases hy with
  | @lst b xs _ hb hr =>
    have h4 := e1.at h0 h2
    have r4 := h3.mono e1.g
    refine .inr (.inr ⟨l, b, vs, xs, rfl, rfl, h4, e1.gh.lst hb, by rw [h3.length, hr.length, sizeLine_eq]; omega, ?_⟩)
    have E2 := (E.go e1).write hi h1 (.lst (upd_same (H := H1) (a := l) (o := .lst (vs ++ xs))) (r4.append hr))
    have E3 := f.nx _ σ G1 _ q E2
    have : σ.set n (some (V.ref l)) = σ := by
      refine List.ext_getElem? fun k => ?_
      by_cases e : n = k
      · subst e
        rw [List.getElem?_set_self (List.getElem?_eq_some_iff.mp h1).1, h1]
      · rw [List.getElem?_set_ne e]
    show D.nx (σ.set n (some (V.ref l))) _
    rw [this]
    exact E3
/-! ### own defs -/
/-- what a def answers, by data -/
def PF (K : PySem.W.Frag) (R : List D → D → Prop) : Sp := fun vs H Q _ => ∃ G ds d, GH G H ∧ DqA K G vs ds ∧ R ds d ∧ ∀ v G' H', Ext G H G' H' → Dq K G' v d → Q v H'
theorem ev_call {R : List D → D → Prop} {t : TA} {ds : List D} (h : EA K t ρ ds) (hr : R ds d) : EV K (tCall (PF K R) [] Ex t) ρ d := fun G0 H0 G H σ Q E q =>
  h G0 H0 G H σ _ E fun vs G1 H1 e1 h1 => by
    rw [List.append_nil]
    exact ⟨G1, ds, d, e1.gh, h1, hr, fun v G2 H2 e2 h2 => q v G2 H2 (e1.trans e2) h2⟩
/-- the slots at a def's entry -/
def start0 (n : Nat) (ds : List D) : List Sl := ds.map Sl.fr ++ List.replicate (n - ds.length) Sl.no
theorem start0_get {n i : Nat} {ds : List D} {sl : Sl} (e : (start0 n ds)[i]? = some sl) : (∃ d, ds[i]? = some d ∧ sl = .fr d) ∨ sl = .no := by
  unfold start0 at e
  rw [List.getElem?_append] at e
  split at e
  · rw [List.getElem?_map] at e
    cases e2 : ds[i]? with
    | none => rw [e2] at e; cases e
    | some d' => rw [e2] at e; cases e; exact .inl ⟨d', rfl, rfl⟩
  · rw [List.getElem?_replicate] at e
    split at e
    · cases e; exact .inr rfl
    · cases e
theorem en_start {G H : Hp} {vs : List V} {ds : List D} {N : List Str} (g : GH G H) (h : DqA K G vs ds) : En K G H G H (L2.start N vs) (start0 N.length ds) := by
  have hl := h.length
  refine ⟨?_, .refl g, fun i d e => ?_, fun i d e => ?_, fun i a dd fl e => ?_, fun i j d e l q => ?_, fun i kls e => ?_, fun i j x y e => ?_⟩
  · unfold L2.start start0
    rw [List.length_append, List.length_append, List.length_map, List.length_map, List.length_replicate, List.length_replicate, hl]
  · rcases start0_get e with ⟨d', e2, e3⟩ | e3
    · cases e3
      obtain ⟨v, h1, h2⟩ := h.get e2
      refine ⟨v, ?_, h2⟩
      unfold L2.start
      rw [List.getElem?_append_left (by rw [List.length_map]; exact (List.getElem?_eq_some_iff.mp h1).1), List.getElem?_map, h1]
      rfl
    · cases e3
  · rcases start0_get e with ⟨d', e2, e3⟩ | e3 <;> cases e3
  · rcases start0_get e with ⟨d', e2, e3⟩ | e3 <;> cases e3
  · rcases start0_get q with ⟨d', e2, e3⟩ | e3 <;> cases e3
  · rcases start0_get e with ⟨d', e2, e3⟩ | e3 <;> cases e3
  · rcases start0_get e with ⟨d', e2, e3⟩ | e3 <;> cases e3
end
section
open PySem.Spec PyProof.Rows
variable {P : Program} {w : World} {K : PySem.W.Frag} {mg : Str → Option Value} {base : Heap}
/-- a def that raises nothing keeps its word, by its body's -/
theorem fn_pf {x qual : Str} {params : Arguments} {body : List Stmt} {scope : Scope} {f : Addr} {fd : FuncData} {N ps : List Str} {k : Nat} {R : List D → D → Prop} (F : FunD K x qual params body scope [] [] f fd) (S : FnScope N ps scope)
    (len : ∀ ds d, R ds d → ds.length = ps.length)
    (hb : ∀ (cdv : Value) (A : Around) (outer : List PySem.Env) (s : Shared) (H : Hp) (E : XK), Room k (A.deeper (envOfC qual scope s.heap.objs.size f cdv)) →
      ∃ t, PSs (cxOf CX0 P w K mg base N qual scope f cdv A outer s H E) body t ∧ ∀ ds d, R ds d → DL.ST K E0 t (start0 N.length ds) (fun o => o = .rt d ∨ (d = .none ∧ ∃ ρ, o = .nx ρ))) : FnOk P w K mg base CX0 (k + 1) f fd ps (PF K R) := by
  refine F.ok S (fun vs H Q E h => ?_) (fun cdv A outer s H vs Q E hr h => ?_)
  · obtain ⟨G, ds, d, g, ha, hR, q⟩ := h
    exact ha.length.trans (len ds d hR)
  · obtain ⟨t, h1, h2⟩ := hb cdv A outer s H E hr
    obtain ⟨G, ds, d, g, ha, hR, q⟩ := h
    refine ⟨t, h1, h2 ds d hR G H G H _ _ (en_start g ha) ⟨fun ρ' σ' G' H' p E' => ?_, fun d' v G' H' p x hv => ?_, fun ρ' σ' G' H' p E' => ?_, fun ρ' σ' G' H' p E' => ?_, fun C fl dd fs G' H' p => ?_⟩⟩
    · rcases p with p | ⟨rfl, _⟩
      · cases p
      · exact q _ G' H' E'.ext .non
    · rcases p with p | ⟨rfl, ρ, p⟩
      · cases p
        exact q v G' H' x hv
      · cases p
    · rcases p with p | ⟨_, _, p⟩ <;> cases p
    · rcases p with p | ⟨_, _, p⟩ <;> cases p
    · rcases p with p | ⟨_, _, p⟩ <;> cases p
end
end DL
set_option maxHeartbeats 1000000
/-! DL7: exceptions of own classes with fields: made, raised, caught, asked, by data. -/
namespace PySem.W
open PySem PySem.Spec PySem.Calls PyProof.Rows
section
variable {prog : Program} {w : World} {A : Around} {E : Value → Shared → Prop} {s : Shared} {K : Frag} {x D : Addr} {ox : Obj} {od : Option Obj}
theorem dl_findObj {C : Addr} {name : Str} {a g : Value} (od : Option Obj) (hc : (clsIn K C).isSome = true) (ha : findIn K (.ref C) name = some (some a)) (hg : specialIn K a "__get__" = some (some g)) (ht : takesIn K a = some true) : findObj K C od name = some (.bind g a) := by
  obtain ⟨cd, q⟩ := Option.isSome_iff_exists.mp hc
  unfold findObj
  rw [q, Option.bind_some, ha, Option.bind_some]
  simp [hg, ht]
theorem dl_class {Q : Option Value → Shared → Prop} (C : L2.ExcC K D) (X : K.In s.heap) (I : InstAt s.heap x ox D od) (h : Q (some (.ref D)) { s with toks := s.toks + 1 }) : wpAny (model prog w) A (getAttr? (.ref x) "__class__") Q E s := by
  have hf : findObj K D od "__class__" = some (.bind (.builtin "getset_descriptor.__get__") (.builtin "object.__class__")) := dl_findObj od (by obtain ⟨cd, hc, _⟩ := any_some C.hd; rw [hc]; rfl) C.ha C.hn C.ht
  obtain ⟨hp, g, d, t, os⟩ := s
  have T0 := I.type (M := model prog w)
  have T1 := looks_findIn (M := model prog w) X C.hg
  have T2 := looks_findIn (M := model prog w) X C.hk
  have T3 := looks_find (M := model prog w) X I hf
  have sub : Looks (model prog w) hp (isInstance (.ref x) (.type "BaseException")) true := T0.andThen (looks_subIn X C.hs)
  have e0 : (false && onTheHeap (Value.builtin "BaseException.__getattribute__")) = false := rfl
  have e2 : (Value.builtin "BaseException.__getattribute__" == Value.builtin "object.__getattribute__") = false := by decide +kernel
  have e1 : (onTheHeap (Value.ref D) && Value.builtin "BaseException.__getattribute__" == Value.builtin "object.__getattribute__") = false := by rw [e2]; rfl
  unfold getAttr? getAttrBy? getAttrBy
  refine wpAny_bind (wpAny_mkText (wpAny_bind (wpAny_attempt (wpAny_holding (wpAny_bind (T0.at (wpAny_bind (T1.at ?_))))))))
  show wpAny _ _ (if (onTheHeap (Value.ref D) && Value.builtin "BaseException.__getattribute__" == Value.builtin "object.__getattribute__") = true then _ else _) _ _ _
  rw [e1, if_neg Bool.false_ne_true]
  unfold getAttrByItsOwn hookBefore
  refine wpAny_bind ?_
  rw [if_pos (show onTheHeap (Value.ref D) = true from rfl)]
  refine T2.at ?_
  refine wpAny_bind (wpAny_attempt (wpAny_holding ?_))
  unfold callGetattribute
  rw [e0, if_neg Bool.false_ne_true]
  unfold boundAndCalled
  rw [PySem.F.excAttr_ValueError.ga.bind (.ref x)]
  refine wpAny_bind (wpAny_pure ?_)
  show wpAny _ _ (call (.builtin "BaseException.__getattribute__") [.ref x, .str "__class__" t]) _ _ _
  refine wpAny_call (codeAny_call_builtin PySem.F.excAttr_ValueError.ga.plain PySem.F.entry_bexc_ga ?_)
  refine @check_slot (model prog w) _ _ ⟨hp, g, d, t + 1, os⟩ "BaseException.__getattribute__" "BaseException" "__getattribute__" (.ref x) [.str "__class__" t] [] _ (by decide +kernel) (by decide +kernel) sub (PySem.F.args_bexc_ga (.ref x) (.str "__class__" t)) ?_
  unfold Builtin.«object.__getattribute__»
  refine wpAny_bind (wpAny_of_eq (a := ((Value.ref x : Value), [Value.str "__class__" t])) (by first | rfl | (simp only [slotArgs]; rfl)) ?_)
  refine wpAny_bind (wpAny_pure (wpAny_bind (T0.at (wpAny_bind (T3.at ?_)))))
  show wpAny _ _ (holding [Value.builtin "object.__class__"] (call (.builtin "getset_descriptor.__get__") [.builtin "object.__class__", .ref x, .ref D]) >>= ret) _ _ _
  refine wpAny_bind (wpAny_holding (wpAny_call (class_get (s := ⟨hp, g, d, t + 1, os⟩) (ox := ox) (od := od) X I C.hm ?_)))
  refine wpAny_pure ?_
  show wpAny _ _ (handedOut (.ref D)) _ _ _
  rw [handedOut_of (v := .ref D) rfl]
  first
    | exact wpAny_pure (wpAny_pure h)
    | exact wpAny_pure h
    | exact wpAny_pure (wpAny_bind (wpAny_pure (wpAny_pure h)))
theorem dl_kitx (C : L2.ExcC K D) : KitX K (.ref x) (.ref D) (fun h => InstAt h x ox D od) where
  ty := fun _ _ _ I => I.type
  it := fun _ _ X _ => by
    obtain ⟨cdD, hcD, _⟩ := any_some C.hd
    unfold clsIn at hcD
    split at hcD
    · rename_i c' d' cd' sl' ho
      intro A' Q' E' s' k q
      unfold isType loadHead
      exact wpAny_bind (wpAny_loadPart (k _ _ (X _ _ ho)) (wpAny_pure q))
    · cases hcD
  ne := fun h tp dd its n sl X htp => by
    obtain ⟨cdD, hcD, _⟩ := any_some C.hd
    refine Bool.eq_false_iff.mpr fun q => ?_
    have e : D = tp := Value.ref.inj (beq_iff_eq.mp q)
    subst e
    unfold clsIn at hcD
    split at hcD
    · rename_i c' d' cd' sl' ho
      have z := (X _ _ ho).symm.trans htp
      cases z
    · cases hcD
  ca := fun X I k => dl_class C X I k
end
end PySem.W
namespace DL
open PySem L2 PySem.Spec PyProof.Rows
/-- isinstance(e, c), e the exception (with a dict of its own) that the suite holds -/
def rIsX (K : PySem.W.Frag) (cls : Value) (d : Option Addr) (a : Addr) : List V → Hp → VK → Prop := fun xs H Q => ∃ (c : V) (cv : Value) (b : Bool) (D dd : Addr) (fs : List (Str × V)),
  xs = [.ref a, c] ∧ cls = .ref D ∧ d = some dd ∧ H dd = some (.xd fs) ∧ ExcC K D ∧ (∀ u, RelV c u → u = cv) ∧ PySem.W.kitOne K (.ref D) cv = some b ∧ Q (.bl b) H
theorem call_isX {X : Cx} {a : Addr} {cls : Value} {d : Option Addr} {oe : Obj} {pn : List (Addr × Obj)} (hz : Zc cls d oe) (hf : ∃ vs, oe.data = .fields vs) : CallR (X.suite a ((a, oe) :: pn)) (.builtin "isinstance") (rIsX X.K cls d a) := by
  intro pins s σ H xs us Q I r h
  obtain ⟨c, cv, b, D, dd, fs, rfl, rfl, rfl, hdd, hC, hcv, e, q⟩ := h
  cases r with
  | cons rx rr =>
    cases rr with
    | cons rt rr =>
      cases rr
      cases rx
      have ec := hcv _ rt
      subst ec
      obtain ⟨hget, _⟩ := I.pin (a, oe) (List.mem_append.mpr (.inl List.mem_cons_self))
      obtain ⟨vs, hv⟩ := hf
      have hx : ObjOk X.prog X.w H s.heap dd (.xd fs) := I.hok dd _ hdd
      obtain ⟨mA, hns, _⟩ := hx
      obtain ⟨o1, ho1, _⟩ := lookIn_ns hns
      have J : PySem.W.InstAt s.heap a oe D (some o1) := ⟨hget, hz.1, by unfold PySem.W.notCls; rw [hv] <;> rfl, by rw [hz.2]; exact ho1⟩
      exact PySem.W.kia_one (PySem.W.dl_kitx hC) I.kIn J e (fun z => nomatch z) fun tk => ⟨.bl b, H, I.kept (t' := tk) fun _ _ z => z, rfl, q⟩
section
variable {K : PySem.W.Frag} {ρ : List Sl} {ta te : TE} {d : D} {P : Oc → Prop} {Ex : XK}
/-- what an __init__ that stores its arguments, each under its name, keeps -/
def spI (K : PySem.W.Frag) (C : Addr) (fls : List Str) : Sp := fun vs H Q _ => ∃ (a : Addr) (ys : List V), vs = .ref a :: ys ∧ ys.length = fls.length ∧ H a = some (exo a C none) ∧
  ∀ d H2, H d = none → d ≠ a → H2 a = some (exo a C (some d)) → H2 d = some (exd d (fls.zip ys).reverse) → (∀ b, b ≠ a → b ≠ d → H2 b = H b) → Q .non H2
/-- raise C(e, ..) -/
theorem st_raise {C : Addr} {fls : List Str} {t : TA} {ds : List D} (h : EA K t ρ ds) (hl : ds.length = fls.length) (hl2 : ds.length ≤ 1000) (q : P (.ex C (fls.zip ds).reverse)) :
    ST K Ex (fun _ σ H => tMkO C (spI K C fls) [] t σ H fun cls d H' => (fun (cls : Value) (d : Option Addr) (_ : L2.St) (H : Hp) => Ex cls d H) cls d σ H') ρ P := fun G0 H0 G H σ D E f =>
  h G0 H0 G H σ _ E fun vs G1 H1 e1 h1 => ⟨by rw [h1.length]; exact hl2, fun a ha => by
    rw [List.append_nil]
    refine ⟨a, vs, rfl, by rw [h1.length]; exact hl, upd_same, fun d H2 hd hda ea ed keep => ⟨rfl, d, (fls.zip vs).reverse, ea, ed, ?_, ?_⟩⟩
    · rw [upd_ne hda] at hd; exact hd
    · have hd1 : H1 d = none := by rw [upd_ne hda] at hd; exact hd
      have x : Ext G1 H1 (upd G1 d (.xd (fls.zip vs).reverse)) (upd (del H2 a) d (.xd (fls.zip vs).reverse)) := by
        have gd : G1 d = none := e1.gh.none hd1
        have ga : G1 a = none := e1.gh.none ha
        have old : ∀ b o, H1 b = some o → del H2 a b = some o := fun b o hb => by
          have n1 : b ≠ a := ne_of_none hb ha
          have n2 : b ≠ d := ne_of_none hb hd1
          rw [del_ne n1, keep b n1 n2, upd_ne n1]
          exact hb
        refine ⟨fun b o hb => by rw [upd_ne (ne_of_none hb gd)]; exact hb, fun b o hb => .inl (by rw [upd_ne (ne_of_none hb hd1)]; exact old b o hb), fun b o hb => ?_, fun b o hb _ n => by rw [upd_ne (ne_of_none hb hd1)]; exact n⟩
        by_cases hbd : b = d
        · subst hbd
          rw [upd_same] at hb
          cases hb
          exact .of upd_same
        · rw [upd_ne hbd] at hb
          have n1 : b ≠ a := ne_of_none hb ga
          exact (e1.gh b o hb).eq (by rw [upd_ne hbd, del_ne n1, keep b n1 hbd, upd_ne n1])
      refine f.ex C _ d _ _ _ q (E.ext.trans (e1.trans x)) upd_same ?_
      have h2 := h1.mono x.g
      have hlen := h1.length
      refine ⟨?_, ?_⟩
      · rw [List.map_reverse, List.map_reverse, List.map_fst_zip (by omega), List.map_fst_zip (by omega)]
      · rw [List.map_reverse, List.map_reverse, List.map_snd_zip (by omega), List.map_snd_zip (by omega)]
        exact h2.rev⟩
/-- a def that may raise: it answers d where R tells so, it raises C with the fields fl where Y tells so -/
def PX (K : PySem.W.Frag) (R : List D → D → Prop) (Y : List D → Addr → List (Str × D) → Prop) : Sp := fun vs H Q E => ∃ G ds, GH G H ∧ DqA K G vs ds ∧
  ((∃ d, R ds d ∧ ∀ v G' H', Ext G H G' H' → Dq K G' v d → Q v H') ∨ (∃ C fl, Y ds C fl ∧ ∀ dd fs G' H', Ext G H G' H' → G' dd = some (.xd fs) → DqF K G' fs fl → E (.ref C) (some dd) H'))
/-- the ends of an except suite: slot i is forgotten -/
def suiP (i : Nat) (P : Oc → Prop) : Oc → Prop
  | .nx ρ => P (.nx (ρ.set i .no))
  | .ct ρ => P (.ct (ρ.set i .no))
  | .bk ρ => P (.bk (ρ.set i .no))
  | .rt d => P (.rt d)
  | .ex _ _ => False
/-- try: x = f(..) / except X as n: suite -/
theorem st_tryAsg {R : List D → D → Prop} {Y : List D → Addr → List (Str × D) → Prop} {t : TA} {ds : List D} {i j : Nat} {c : Value} {ts : Addr → Value → Option Addr → TS} {Wout : WX} (h : EA K t ρ ds)
    (hr : (∃ d, R ds d ∧ P (.nx (ρ.set j (.fr d)))) ∨
      (∃ C fl, Y ds C fl ∧ PySem.W.exmOne K (.ref C) c = some true ∧ ∀ a dd, ST K E0 (ts a (.ref C) (some dd)) (ρ.set i (Sl.ex a dd fl)) (suiP i P))) :
    ST K Ex (fun D σ H => tAsg (tCallS (PX K R Y) (WE (wAs K c i ts Wout D)) t) (gName j) D σ H) ρ P := fun G0 H0 G H σ D E f =>
  h G0 H0 G H σ _ E fun vs G1 H1 e1 h1 => by
    have E1 := E.go e1
    rcases hr with ⟨d, hd, q⟩ | ⟨C, fl, hY, he, q⟩
    · exact ⟨G1, ds, e1.gh, h1, .inl ⟨d, hd, fun v G2 H2 x hv => f.nx _ _ G2 H2 q ((E1.go x).setF j hv)⟩⟩
    · refine ⟨G1, ds, e1.gh, h1, .inr ⟨C, fl, hY, fun dd fs G2 H2 x hx hf => ⟨true, he, fun _ a ha => ?_, fun z => nomatch z⟩⟩⟩
      exact q a dd G0 H0 G2 H2 _ _ ((E1.go x).setE i hx hf) ⟨fun ρ' σ' G' H' p E' => f.nx _ _ G' H' p (E'.setX i none), fun d v G' H' p x hd => f.rt d v G' H' p x hd,
        fun ρ' σ' G' H' p E' => f.bk _ _ G' H' p (E'.setX i none), fun ρ' σ' G' H' p E' => f.ct _ _ G' H' p (E'.setX i none), fun C fl dd fs G' H' p => p.elim⟩
/-- e.f of a caught exception -/
theorem ev_xf {n : Nat} {a dd C : Addr} {fl : List (Str × D)} {f : Str} (hn : ρ[n]? = some (Sl.ex a dd fl)) (hf : fl.lookup f = some d) : EV K (tXf a (.ref C) (some dd) C f (tVar n)) ρ d := fun G0 H0 G H σ Q E q => by
  obtain ⟨h1, fs, h2, h3⟩ := E.ex n a dd fl hn
  obtain ⟨v, h4, h5⟩ := h3.get hf
  rcases E.gh dd _ h2 with ⟨h6, _⟩ | ⟨z, _⟩ | z
  · exact ⟨_, h1, rfl, rfl, dd, fs, v, rfl, h6, h4, q v G H (.refl E.gh) h5⟩
  · cases z
  · exact z.elim
/-- isinstance(e, c) of a caught exception -/
theorem ev_isX {n : Nat} {a dd C : Addr} {fl : List (Str × D)} {c : V} {cv : Value} {b : Bool} (hn : ρ[n]? = some (Sl.ex a dd fl)) (hC : ExcC K C) (hc : ∀ u, RelV c u → u = cv) (hk : PySem.W.kitOne K (.ref C) cv = some b) :
    EV K (tCB (rIsX K (.ref C) (some dd) a) (tCons (tVar n) (tCons (tC c) tNil))) ρ (.bool b) := fun G0 H0 G H σ Q E q => by
  obtain ⟨h1, fs, h2, h3⟩ := E.ex n a dd fl hn
  rcases E.gh dd _ h2 with ⟨h6, _⟩ | ⟨z, _⟩ | z
  · exact ⟨_, h1, c, cv, b, C, dd, fs, rfl, rfl, rfl, h6, hC, hc, hk, q _ G H (.refl E.gh) (.bl b)⟩
  · cases z
  · exact z.elim
end
section
variable {P : Program} {w : World} {K : PySem.W.Frag} {mg : Str → Option Value} {base : Heap}
/-- an __init__ with one field -/
theorem fn_init1 {qual f1 : Str} {params : Arguments} {body : List Stmt} {scope : Scope} {f C : Addr} {fd : FuncData} {N : List Str} {k : Nat} (F : FunD K "__init__" qual params body scope [] [] f fd) (S : FnScope N ["self", f1] scope) (hN : N = (["self", f1] : List Str)) (T : OexC K C) (hno : PySem.W.findIn K (.ref C) f1 = some none)
    (hb : ∀ (cdv : Value) (A : Around) (outer : List PySem.Env) (s : Shared) (H : Hp) (E : XK), PSs (cxOf CX0 P w K mg base N qual scope f cdv A outer s H E) body (tOst K f1 (tVar 0) (tVar 1))) :
    FnOk P w K mg base CX0 (k + 1) f fd ["self", f1] (spI K C [f1]) := by
  subst hN
  refine F.ok S (fun vs H Q E h => ?_) (fun cdv A outer s H vs Q E hr h => ⟨_, hb cdv A outer s H E, ?_⟩)
  · obtain ⟨a, ys, rfl, hl, _⟩ := h
    rw [List.length_cons, hl]; rfl
  · obtain ⟨a, ys, rfl, hl, ha, q⟩ := h
    match ys, hl with
    | [y], _ =>
      refine ⟨_, rfl, _, rfl, a, C, rfl, T, hno, .inl ⟨ha, fun dx hd ne => ?_⟩⟩
      refine q dx _ hd ne upd_same (by rw [upd_ne ne, upd_same]; rfl) fun b h1 h2 => by rw [upd_ne h1, upd_ne h2]
/-- .. with two fields -/
theorem fn_init2 {qual f1 f2 : Str} {params : Arguments} {body : List Stmt} {scope : Scope} {f C : Addr} {fd : FuncData} {N : List Str} {k : Nat} (F : FunD K "__init__" qual params body scope [] [] f fd) (S : FnScope N ["self", f1, f2] scope) (hN : N = (["self", f1, f2] : List Str)) (T : OexC K C)
    (hno1 : PySem.W.findIn K (.ref C) f1 = some none) (hno2 : PySem.W.findIn K (.ref C) f2 = some none)
    (hb : ∀ (cdv : Value) (A : Around) (outer : List PySem.Env) (s : Shared) (H : Hp) (E : XK), PSs (cxOf CX0 P w K mg base N qual scope f cdv A outer s H E) body (tSeq (tOst K f1 (tVar 0) (tVar 1)) (tOst K f2 (tVar 0) (tVar 2)))) :
    FnOk P w K mg base CX0 (k + 1) f fd ["self", f1, f2] (spI K C [f1, f2]) := by
  subst hN
  refine F.ok S (fun vs H Q E h => ?_) (fun cdv A outer s H vs Q E hr h => ⟨_, hb cdv A outer s H E, ?_⟩)
  · obtain ⟨a, ys, rfl, hl, _⟩ := h
    rw [List.length_cons, hl]; rfl
  · obtain ⟨a, ys, rfl, hl, ha, q⟩ := h
    match ys, hl with
    | [y, z], _ =>
      refine ⟨_, rfl, _, rfl, a, C, rfl, T, hno1, .inl ⟨ha, fun dx hd ne => ?_⟩⟩
      refine ⟨_, rfl, _, rfl, a, C, rfl, T, hno2, .inr ⟨dx, _, upd_same, by rw [upd_ne ne, upd_same], by show 1 ≤ 900; decide, ?_⟩⟩
      refine q dx _ hd ne (by rw [upd_ne ne.symm, upd_same]) (by rw [upd_same]; rfl) fun b h1 h2 => by rw [upd_ne h2, upd_ne h1, upd_ne h2]
end
end DL
set_option maxHeartbeats 1000000
/-! DL8: what the top has left: a Hook with one more Bool; own exception classes. -/
namespace DL
open PySem PySem.Spec PyProof.Rows L2
/-! ### the Hook -/
structure SaysB (fa : List He.Fa) (fn : List He.DefD) (ex : PySem.W.Frag → Bool) (K : PySem.W.Frag) : Prop where
  d : He.SaysD fa fn K
  more : ex K = true
abbrev AlB : Type := He.AlD × Bool
def obsB (fa : List He.Fa) (fn : List He.DefD) (ex : PySem.W.Frag → Bool) (K : PySem.W.Frag) : AlB := (He.obsD fa fn K, ex K)
def obsBG (n : Nat) (fa : List He.Fa) (fn : List He.DefD) (ex : PySem.W.Frag → Bool) (g : Addr → Option Obj) : AlB := obsB fa fn ex (He.frG g (He.asD g n))
def hookB (n : Nat) (fa : List He.Fa) (fn : List He.DefD) (ex : PySem.W.Frag → Bool) : PySem.W.Hook where
  α := AlB
  obs := fun s => obsBG n fa fn ex s.heap.get?
  val := fun _ => (He.valD fn, true)
  says := fun _ h => ∃ K : PySem.W.Frag, K.In h ∧ SaysB fa fn ex K
  of := fun _ _ e => ⟨_, He.frG_in, ⟨congrArg (fun z : AlB => z.1) e, congrArg (fun z : AlB => z.2) e⟩⟩
  keeps := fun _ _ _ ⟨K, hK, c⟩ k => ⟨K, PySem.W.Frag.In.keeps hK k, c⟩
theorem obsBG_eq {n : Nat} {fa : List He.Fa} {fn : List He.DefD} {ex : PySem.W.Frag → Bool} {g : Addr → Option Obj} {s : Shared} (h : ∀ a, g a = s.heap.get? a) : obsBG n fa fn ex g = (hookB n fa fn ex).obs s := by
  have e : g = s.heap.get? := funext h
  rw [e] <;> rfl
/-! ### an own exception class -/
def oexB (K : PySem.W.Frag) (C : Addr) : Bool := match K.lookup C with
  | some ⟨.type "type", _, .cls cd, sl⟩ => (match cd.mro, sl.toList with
    | .ref C' :: bm, [_, _, _, _, some (.builtin n), _] => C' == C && (n == "ValueError.__new__" && (!cd.hasDel && (cd.hasDict && PySem.HandSPX.refsVE bm)))
    | _, _ => false)
  | _ => false
theorem oexB_ok {K : PySem.W.Frag} {C : Addr} (h : oexB K C = true) : ∃ nm q N bs bm sn sub ab col dd k0 k1 k2 k3 k5, K.lookup C = some (excClassObj nm q C N bs bm true sn sub ab col dd k0 k1 k2 k3 k5 "ValueError.__new__") ∧ PySem.HandSPX.refsVE bm = true := by
  unfold oexB at h
  split at h
  · rename_i dd cd sl hl
    split at h
    · rename_i C' bm a0 a1 a2 a3 n a5 hm hs
      obtain ⟨h1, h⟩ := Bool.and_eq_true_iff.mp h
      obtain ⟨h2, h⟩ := Bool.and_eq_true_iff.mp h
      obtain ⟨h3, h⟩ := Bool.and_eq_true_iff.mp h
      obtain ⟨h4, h5⟩ := Bool.and_eq_true_iff.mp h
      have e1 : C' = C := beq_iff_eq.mp h1
      have e2 : n = "ValueError.__new__" := beq_iff_eq.mp h2
      subst e1
      subst e2
      obtain ⟨nm, bs, mro, N, q, hd, sn, sub, ab, col, del⟩ := cd
      dsimp only at hm h3 h4
      subst hm
      subst h4
      have e3 : del = false := by
        cases del with
        | false => rfl
        | true => cases h3
      subst e3
      have e4 : sl = #[a0, a1, a2, a3, some (.builtin "ValueError.__new__"), a5] := by
        cases sl with
        | mk l => exact congrArg Array.mk hs
      subst e4
      exact ⟨nm, q, N, bs, bm, sn, sub, ab, col, dd, a0, a1, a2, a3, a5, hl, h5⟩
    · cases h
  · cases h
structure ExF (K : PySem.W.Frag) (C : Addr) : Prop where
  oex : OexC K C
  exc : ExcC K C
  xf : XfC K C
def exB (K : PySem.W.Frag) (C : Addr) : Bool := oexB K C && (He.eqO (PySem.W.findIn K (.ref C) "__setattr__") (some (some (.builtin "object.__setattr__"))) && (decide (PySem.W.subIn K (.ref C) (.type "BaseException") = some true) && (decide (PySem.W.typeIn K (.ref C) = some (.type "type")) && (PySem.W.keepIn K (.ref C) &&
  (He.eqO (PySem.W.findIn K (.ref C) "__getattribute__") (some (some (.builtin "BaseException.__getattribute__"))) && (He.eqO (PySem.W.findIn K (.ref C) "__getattr__") (some none) && (PySem.W.hasDictIn K C && (He.eqO (PySem.W.findIn K (.ref C) "__class__") (some (some (.builtin "object.__class__"))) &&
  (He.eqO (PySem.W.specialIn K (.builtin "object.__class__") "__get__") (some (some (.builtin "getset_descriptor.__get__"))) && (decide (PySem.W.takesIn K (.builtin "object.__class__") = some true) && decide (PySem.W.mroIn K C (.type "object") = some true)))))))))))
theorem exB_ok {K : PySem.W.Frag} {C : Addr} (h : exB K C = true) : ExF K C := by
  unfold exB at h
  obtain ⟨h1, h⟩ := Bool.and_eq_true_iff.mp h
  obtain ⟨h2, h⟩ := Bool.and_eq_true_iff.mp h
  obtain ⟨h3, h⟩ := Bool.and_eq_true_iff.mp h
  obtain ⟨h4, h⟩ := Bool.and_eq_true_iff.mp h
  obtain ⟨h5, h⟩ := Bool.and_eq_true_iff.mp h
  obtain ⟨h6, h⟩ := Bool.and_eq_true_iff.mp h
  obtain ⟨h7, h⟩ := Bool.and_eq_true_iff.mp h
  obtain ⟨h8, h⟩ := Bool.and_eq_true_iff.mp h
  obtain ⟨h9, h⟩ := Bool.and_eq_true_iff.mp h
  obtain ⟨h10, h⟩ := Bool.and_eq_true_iff.mp h
  obtain ⟨h11, h12⟩ := Bool.and_eq_true_iff.mp h
  have a3 := of_decide_eq_true h3
  exact ⟨⟨oexB_ok h1, He.eqO_ok h2, a3, of_decide_eq_true h4, h5⟩, ⟨He.eqO_ok h6, He.eqO_ok h7, a3, h8, He.eqO_ok h9, He.eqO_ok h10, of_decide_eq_true h11, of_decide_eq_true h12⟩, ⟨He.eqO_ok h6, He.eqO_ok h7, a3, h8⟩⟩
/-- its __init__ -/
def exI (K : PySem.W.Frag) (C : Addr) : Bool := He.eqO (PySem.W.findIn K (.ref C) "__init__") (some (some (.ref (He.ma K C "__init__")))) && decide (PySem.W.typeIn K (.ref (He.ma K C "__init__")) = some (.type "function"))
theorem exI_ok {K : PySem.W.Frag} {C : Addr} (h : exI K C = true) : PySem.W.findIn K (.ref C) "__init__" = some (some (.ref (He.ma K C "__init__"))) ∧ PySem.W.typeIn K (.ref (He.ma K C "__init__")) = some (.type "function") := by
  obtain ⟨h1, h2⟩ := Bool.and_eq_true_iff.mp h
  exact ⟨He.eqO_ok h1, of_decide_eq_true h2⟩
def kitR (K : PySem.W.Frag) (C E : Addr) (b : Bool) : Bool := decide (PySem.W.kitOne K (.ref C) (.ref E) = some b)
def kitT (K : PySem.W.Frag) (C : Addr) (n : String) (b : Bool) : Bool := decide (PySem.W.kitOne K (.ref C) (.type n) = some b)
theorem kitR_ok {K : PySem.W.Frag} {C E : Addr} {b : Bool} (h : kitR K C E b = true) : PySem.W.kitOne K (.ref C) (.ref E) = some b := of_decide_eq_true h
theorem kitT_ok {K : PySem.W.Frag} {C : Addr} {n : String} {b : Bool} (h : kitT K C n b = true) : PySem.W.kitOne K (.ref C) (.type n) = some b := of_decide_eq_true h
/-- all of a list of Bools -/
theorem allB {bs : List Bool} (h : bs.all id = true) (i : Nat) {b : Bool} (e : bs[i]? = some b) : b = true := List.all_eq_true.mp h b (List.mem_of_getElem? e)
end DL
set_option maxHeartbeats 4000000
namespace K19
open PySem PySem.Spec PyProof.Rows L2 DL
/-! printed by gen.py: the text by places, the names, the readings -/
def top (i : Nat) : Stmt := PySem.Challenge.pw_wallsaswished_k19_pictures.main.body.getD i (.Pass ⟨0, 0, 0, 0⟩)
abbrev s_name_fault : Stmt := top 13
abbrev N_name_fault : List Str := ["thing", "place", "sign"]
theorem sc_name_fault : FnScope N_name_fault ["thing"] (defScope s_name_fault) := ⟨rfl, rfl, rfl, by decide +kernel, rfl, by decide +kernel, by decide +kernel⟩
abbrev s_is_name : Stmt := top 14
abbrev N_is_name : List Str := ["thing"]
theorem sc_is_name : FnScope N_is_name ["thing"] (defScope s_is_name) := ⟨rfl, rfl, rfl, by decide +kernel, rfl, by decide +kernel, by decide +kernel⟩
abbrev s_room_signs : Stmt := top 18
abbrev N_room_signs : List Str := ["rooms"]
theorem sc_room_signs : FnScope N_room_signs ["rooms"] (defScope s_room_signs) := ⟨rfl, rfl, rfl, by decide +kernel, rfl, by decide +kernel, by decide +kernel⟩
abbrev s_picture_line : Stmt := top 20
abbrev N_picture_line : List Str := ["boxes", "signs", "south", "pieces", "box", "sign", "piece"]
theorem sc_picture_line : FnScope N_picture_line ["boxes", "signs", "south"] (defScope s_picture_line) := ⟨rfl, rfl, rfl, by decide +kernel, rfl, by decide +kernel, by decide +kernel⟩
abbrev s_picture_of : Stmt := top 19
abbrev N_picture_of : List Str := ["plan", "rooms", "width", "height", "boxes", "signs", "lines", "place", "sign", "room"]
theorem sc_picture_of : FnScope N_picture_of ["plan"] (defScope s_picture_of) := ⟨rfl, rfl, rfl, by decide +kernel, rfl, by decide +kernel, by decide +kernel⟩
abbrev s_text_lines : Stmt := top 22
abbrev N_text_lines : List Str := ["text"]
theorem sc_text_lines : FnScope N_text_lines ["text"] (defScope s_text_lines) := ⟨rfl, rfl, rfl, by decide +kernel, rfl, by decide +kernel, by decide +kernel⟩
abbrev s_words_of : Stmt := top 23
abbrev N_words_of : List Str := ["line", "word"]
theorem sc_words_of : FnScope N_words_of ["line"] (defScope s_words_of) := ⟨rfl, rfl, rfl, by decide +kernel, rfl, by decide +kernel, by decide +kernel⟩
abbrev s_sign_words_fault : Stmt := top 27
abbrev N_sign_words_fault : List Str := ["words", "known", "earlier", "sign", "room"]
theorem sc_sign_words_fault : FnScope N_sign_words_fault ["words", "known", "earlier"] (defScope s_sign_words_fault) := ⟨rfl, rfl, rfl, by decide +kernel, rfl, by decide +kernel, by decide +kernel⟩
abbrev s_sign_lines_fault : Stmt := top 26
abbrev N_sign_lines_fault : List Str := ["lines", "known", "earlier", "place", "line", "words", "fault"]
theorem sc_sign_lines_fault : FnScope N_sign_lines_fault ["lines"] (defScope s_sign_lines_fault) := ⟨rfl, rfl, rfl, by decide +kernel, rfl, by decide +kernel, by decide +kernel⟩
abbrev s_shown_fault : Stmt := top 28
abbrev N_shown_fault : List Str := ["shown", "known", "place", "line", "sign"]
theorem sc_shown_fault : FnScope N_shown_fault ["shown", "known"] (defScope s_shown_fault) := ⟨rfl, rfl, rfl, by decide +kernel, rfl, by decide +kernel, by decide +kernel⟩
abbrev s_sign_rows : Stmt := top 29
abbrev N_sign_rows : List Str := ["shown", "sign", "place", "line"]
theorem sc_sign_rows : FnScope N_sign_rows ["shown", "sign"] (defScope s_sign_rows) := ⟨rfl, rfl, rfl, by decide +kernel, rfl, by decide +kernel, by decide +kernel⟩
abbrev s_sign_fault : Stmt := top 30
abbrev N_sign_fault : List Str := ["shown", "sign", "rows", "first", "begin", "many", "row", "line"]
theorem sc_sign_fault : FnScope N_sign_fault ["shown", "sign"] (defScope s_sign_fault) := ⟨rfl, rfl, rfl, by decide +kernel, rfl, by decide +kernel, by decide +kernel⟩
abbrev s_four_signs_meet : Stmt := top 32
abbrev N_four_signs_meet : List Str := ["upper", "lower", "place"]
theorem sc_four_signs_meet : FnScope N_four_signs_meet ["upper", "lower"] (defScope s_four_signs_meet) := ⟨rfl, rfl, rfl, by decide +kernel, rfl, by decide +kernel, by decide +kernel⟩
abbrev s_sign_box : Stmt := top 31
abbrev N_sign_box : List Str := ["shown", "sign", "rows", "first", "west", "high"]
theorem sc_sign_box : FnScope N_sign_box ["shown", "sign"] (defScope s_sign_box) := ⟨rfl, rfl, rfl, by decide +kernel, rfl, by decide +kernel, by decide +kernel⟩
abbrev s_read_picture : Stmt := top 25
abbrev N_read_picture : List Str := ["text", "lines", "many", "shown", "fault", "words", "line", "sign", "room", "boxes", "place", "word"]
theorem sc_read_picture : FnScope N_read_picture ["text"] (defScope s_read_picture) := ⟨rfl, rfl, rfl, by decide +kernel, rfl, by decide +kernel, by decide +kernel⟩
abbrev s_u_law_state : Stmt := top 34
abbrev N_u_law_state : List Str := ["script", "seed", "cell"]
theorem sc_u_law_state : FnScope N_u_law_state ["script"] (defScope s_u_law_state) := ⟨rfl, rfl, rfl, by decide +kernel, rfl, by decide +kernel, by decide +kernel⟩
abbrev s_u_law_take : Stmt := top 35
abbrev N_u_law_take : List Str := ["state", "many", "value", "mixed"]
theorem sc_u_law_take : FnScope N_u_law_take ["state", "many"] (defScope s_u_law_take) := ⟨rfl, rfl, rfl, by decide +kernel, rfl, by decide +kernel, by decide +kernel⟩
abbrev s_u_law_names : Stmt := top 36
abbrev N_u_law_names : List Str := ["state", "many", "letters", "names", "k", "name", "j", "free", "other"]
theorem sc_u_law_names : FnScope N_u_law_names ["state", "many"] (defScope s_u_law_names) := ⟨rfl, rfl, rfl, by decide +kernel, rfl, by decide +kernel, by decide +kernel⟩
abbrev s_u_law_mill : Stmt := top 37
abbrev N_u_law_mill : List Str := ["state", "box", "across", "up", "w", "s", "e", "n", "x", "y", "inner"]
theorem sc_u_law_mill : FnScope N_u_law_mill ["state", "box", "across", "up"] (defScope s_u_law_mill) := ⟨rfl, rfl, rfl, by decide +kernel, rfl, by decide +kernel, by decide +kernel⟩
abbrev s_u_law_cuts : Stmt := top 38
abbrev N_u_law_cuts : List Str := ["state", "many", "wide", "high", "strict", "boxes", "across", "up", "count", "at", "w", "s", "e", "n", "sort", "parts", "x", "y"]
theorem sc_u_law_cuts : FnScope N_u_law_cuts ["state", "many", "wide", "high", "strict"] (defScope s_u_law_cuts) := ⟨rfl, rfl, rfl, by decide +kernel, rfl, by decide +kernel, by decide +kernel⟩
abbrev s_u_law_plan : Stmt := top 39
abbrev N_u_law_plan : List Str := ["state", "many", "wide", "high", "strict", "rest", "boxes", "k"]
theorem sc_u_law_plan : FnScope N_u_law_plan ["state", "many", "wide", "high", "strict"] (defScope s_u_law_plan) := ⟨rfl, rfl, rfl, by decide +kernel, rfl, by decide +kernel, by decide +kernel⟩
abbrev s_u_law_whole : Stmt := top 40
abbrev N_u_law_whole : List Str := ["thing"]
theorem sc_u_law_whole : FnScope N_u_law_whole ["thing"] (defScope s_u_law_whole) := ⟨rfl, rfl, rfl, by decide +kernel, rfl, by decide +kernel, by decide +kernel⟩
abbrev s_u_law_same : Stmt := top 41
abbrev N_u_law_same : List Str := ["told", "due", "rest", "count", "one", "other", "k"]
theorem sc_u_law_same : FnScope N_u_law_same ["told", "due"] (defScope s_u_law_same) := ⟨rfl, rfl, rfl, by decide +kernel, rfl, by decide +kernel, by decide +kernel⟩
abbrev s_u_law_signs : Stmt := top 42
abbrev N_u_law_signs : List Str := ["many"]
theorem sc_u_law_signs : FnScope N_u_law_signs ["many"] (defScope s_u_law_signs) := ⟨rfl, rfl, rfl, by decide +kernel, rfl, by decide +kernel, by decide +kernel⟩
abbrev s_u_law_picture : Stmt := top 43
abbrev N_u_law_picture : List Str := ["plan", "signs", "rooms", "wide", "high", "boxes", "lines", "y", "row", "k", "west", "east", "sign"]
theorem sc_u_law_picture : FnScope N_u_law_picture ["plan", "signs"] (defScope s_u_law_picture) := ⟨rfl, rfl, rfl, by decide +kernel, rfl, by decide +kernel, by decide +kernel⟩
abbrev s_u_law_name : Stmt := top 44
abbrev N_u_law_name : List Str := ["thing", "k"]
theorem sc_u_law_name : FnScope N_u_law_name ["thing"] (defScope s_u_law_name) := ⟨rfl, rfl, rfl, by decide +kernel, rfl, by decide +kernel, by decide +kernel⟩
abbrev s_u_law_told : Stmt := top 45
abbrev N_u_law_told : List Str := ["lines", "end", "signs", "names", "k", "words", "word"]
theorem sc_u_law_told : FnScope N_u_law_told ["lines", "end"] (defScope s_u_law_told) := ⟨rfl, rfl, rfl, by decide +kernel, rfl, by decide +kernel, by decide +kernel⟩
abbrev s_u_law_grid : Stmt := top 46
abbrev N_u_law_grid : List Str := ["lines", "end", "signs", "k", "sign"]
theorem sc_u_law_grid : FnScope N_u_law_grid ["lines", "end", "signs"] (defScope s_u_law_grid) := ⟨rfl, rfl, rfl, by decide +kernel, rfl, by decide +kernel, by decide +kernel⟩
abbrev s_u_law_found : Stmt := top 47
abbrev N_u_law_found : List Str := ["lines", "end", "signs", "found", "k", "sign", "west", "east", "box", "area"]
theorem sc_u_law_found : FnScope N_u_law_found ["lines", "end", "signs"] (defScope s_u_law_found) := ⟨rfl, rfl, rfl, by decide +kernel, rfl, by decide +kernel, by decide +kernel⟩
abbrev s_u_law_due : Stmt := top 48
abbrev N_u_law_due : List Str := ["text", "lines", "end", "fault", "signs", "names", "found", "boxes", "k", "w", "s", "e", "n", "area", "here", "below", "cuts", "x"]
theorem sc_u_law_due : FnScope N_u_law_due ["text"] (defScope s_u_law_due) := ⟨rfl, rfl, rfl, by decide +kernel, rfl, by decide +kernel, by decide +kernel⟩
abbrev s_u_law_ask : Stmt := top 49
abbrev N_u_law_ask : List Str := ["text", "due", "told", "raised", "line", "word", "e"]
theorem sc_u_law_ask : FnScope N_u_law_ask ["text"] (defScope s_u_law_ask) := ⟨rfl, rfl, rfl, by decide +kernel, rfl, by decide +kernel, by decide +kernel⟩
abbrev s_u_law_wide : Stmt := top 50
abbrev N_u_law_wide : List Str := ["plan", "word", "e"]
theorem sc_u_law_wide : FnScope N_u_law_wide ["plan"] (defScope s_u_law_wide) := ⟨rfl, rfl, rfl, by decide +kernel, rfl, by decide +kernel, by decide +kernel⟩
abbrev s_u_law_change : Stmt := top 51
abbrev N_u_law_change : List Str := ["state", "line", "signs", "at", "more", "sign", "odd"]
theorem sc_u_law_change : FnScope N_u_law_change ["state", "line", "signs"] (defScope s_u_law_change) := ⟨rfl, rfl, rfl, by decide +kernel, rfl, by decide +kernel, by decide +kernel⟩
abbrev s_u_law_bend : Stmt := top 52
abbrev N_u_law_bend : List Str := ["state", "lines", "signs", "at", "to", "sort", "other", "words", "name"]
theorem sc_u_law_bend : FnScope N_u_law_bend ["state", "lines", "signs"] (defScope s_u_law_bend) := ⟨rfl, rfl, rfl, by decide +kernel, rfl, by decide +kernel, by decide +kernel⟩
abbrev s_u_law_fixed : Stmt := top 53
abbrev N_u_law_fixed : List Str := ["wide", "row", "four", "cut", "both", "long", "texts"]
theorem sc_u_law_fixed : FnScope N_u_law_fixed ["wide"] (defScope s_u_law_fixed) := ⟨rfl, rfl, rfl, by decide +kernel, rfl, by decide +kernel, by decide +kernel⟩
abbrev s_law : Stmt := top 54
abbrev N_law : List Str := ["script", "state", "great", "many", "most", "wide", "high", "plan", "signs", "lines", "beyond", "size", "turn", "other", "texts", "count", "bent", "small", "row"]
theorem sc_law : FnScope N_law ["script"] (defScope s_law) := ⟨rfl, rfl, rfl, by decide +kernel, rfl, by decide +kernel, by decide +kernel⟩
abbrev s_i_BadStep : Stmt := inClass (top 8) 0
theorem sc_i_BadStep : FnScope ["self", "word"] ["self", "word"] (defScope s_i_BadStep) := ⟨rfl, rfl, rfl, by decide +kernel, rfl, by decide +kernel, by decide +kernel⟩
abbrev s_i_BadText : Stmt := inClass (top 9) 0
theorem sc_i_BadText : FnScope ["self", "line", "word"] ["self", "line", "word"] (defScope s_i_BadText) := ⟨rfl, rfl, rfl, by decide +kernel, rfl, by decide +kernel, by decide +kernel⟩
end K19
set_option maxHeartbeats 0
namespace K19
open PySem PySem.Spec PyProof.Rows L2 DL
def d_name_fault : He.DefD := ⟨("name_fault", none), "name_fault", "name_fault", defArgs s_name_fault, defBody s_name_fault, defScope s_name_fault, [], []⟩
def d_is_name : He.DefD := ⟨("is_name", none), "is_name", "is_name", defArgs s_is_name, defBody s_is_name, defScope s_is_name, [], []⟩
def d_room_signs : He.DefD := ⟨("room_signs", none), "room_signs", "room_signs", defArgs s_room_signs, defBody s_room_signs, defScope s_room_signs, [], []⟩
def d_picture_line : He.DefD := ⟨("picture_line", none), "picture_line", "picture_line", defArgs s_picture_line, defBody s_picture_line, defScope s_picture_line, [], []⟩
def d_picture_of : He.DefD := ⟨("picture_of", none), "picture_of", "picture_of", defArgs s_picture_of, defBody s_picture_of, defScope s_picture_of, [], []⟩
def d_text_lines : He.DefD := ⟨("text_lines", none), "text_lines", "text_lines", defArgs s_text_lines, defBody s_text_lines, defScope s_text_lines, [], []⟩
def d_words_of : He.DefD := ⟨("words_of", none), "words_of", "words_of", defArgs s_words_of, defBody s_words_of, defScope s_words_of, [], []⟩
def d_sign_words_fault : He.DefD := ⟨("sign_words_fault", none), "sign_words_fault", "sign_words_fault", defArgs s_sign_words_fault, defBody s_sign_words_fault, defScope s_sign_words_fault, [], []⟩
def d_sign_lines_fault : He.DefD := ⟨("sign_lines_fault", none), "sign_lines_fault", "sign_lines_fault", defArgs s_sign_lines_fault, defBody s_sign_lines_fault, defScope s_sign_lines_fault, [], []⟩
def d_shown_fault : He.DefD := ⟨("shown_fault", none), "shown_fault", "shown_fault", defArgs s_shown_fault, defBody s_shown_fault, defScope s_shown_fault, [], []⟩
def d_sign_rows : He.DefD := ⟨("sign_rows", none), "sign_rows", "sign_rows", defArgs s_sign_rows, defBody s_sign_rows, defScope s_sign_rows, [], []⟩
def d_sign_fault : He.DefD := ⟨("sign_fault", none), "sign_fault", "sign_fault", defArgs s_sign_fault, defBody s_sign_fault, defScope s_sign_fault, [], []⟩
def d_four_signs_meet : He.DefD := ⟨("four_signs_meet", none), "four_signs_meet", "four_signs_meet", defArgs s_four_signs_meet, defBody s_four_signs_meet, defScope s_four_signs_meet, [], []⟩
def d_sign_box : He.DefD := ⟨("sign_box", none), "sign_box", "sign_box", defArgs s_sign_box, defBody s_sign_box, defScope s_sign_box, [], []⟩
def d_read_picture : He.DefD := ⟨("read_picture", none), "read_picture", "read_picture", defArgs s_read_picture, defBody s_read_picture, defScope s_read_picture, [], []⟩
def d_u_law_state : He.DefD := ⟨("_law_state", none), "_law_state", "_law_state", defArgs s_u_law_state, defBody s_u_law_state, defScope s_u_law_state, [], []⟩
def d_u_law_take : He.DefD := ⟨("_law_take", none), "_law_take", "_law_take", defArgs s_u_law_take, defBody s_u_law_take, defScope s_u_law_take, [], []⟩
def d_u_law_names : He.DefD := ⟨("_law_names", none), "_law_names", "_law_names", defArgs s_u_law_names, defBody s_u_law_names, defScope s_u_law_names, [], []⟩
def d_u_law_mill : He.DefD := ⟨("_law_mill", none), "_law_mill", "_law_mill", defArgs s_u_law_mill, defBody s_u_law_mill, defScope s_u_law_mill, [], []⟩
def d_u_law_cuts : He.DefD := ⟨("_law_cuts", none), "_law_cuts", "_law_cuts", defArgs s_u_law_cuts, defBody s_u_law_cuts, defScope s_u_law_cuts, [], []⟩
def d_u_law_plan : He.DefD := ⟨("_law_plan", none), "_law_plan", "_law_plan", defArgs s_u_law_plan, defBody s_u_law_plan, defScope s_u_law_plan, [], []⟩
def d_u_law_whole : He.DefD := ⟨("_law_whole", none), "_law_whole", "_law_whole", defArgs s_u_law_whole, defBody s_u_law_whole, defScope s_u_law_whole, [], []⟩
def d_u_law_same : He.DefD := ⟨("_law_same", none), "_law_same", "_law_same", defArgs s_u_law_same, defBody s_u_law_same, defScope s_u_law_same, [], []⟩
def d_u_law_signs : He.DefD := ⟨("_law_signs", none), "_law_signs", "_law_signs", defArgs s_u_law_signs, defBody s_u_law_signs, defScope s_u_law_signs, [], []⟩
def d_u_law_picture : He.DefD := ⟨("_law_picture", none), "_law_picture", "_law_picture", defArgs s_u_law_picture, defBody s_u_law_picture, defScope s_u_law_picture, [], []⟩
def d_u_law_name : He.DefD := ⟨("_law_name", none), "_law_name", "_law_name", defArgs s_u_law_name, defBody s_u_law_name, defScope s_u_law_name, [], []⟩
def d_u_law_told : He.DefD := ⟨("_law_told", none), "_law_told", "_law_told", defArgs s_u_law_told, defBody s_u_law_told, defScope s_u_law_told, [], []⟩
def d_u_law_grid : He.DefD := ⟨("_law_grid", none), "_law_grid", "_law_grid", defArgs s_u_law_grid, defBody s_u_law_grid, defScope s_u_law_grid, [], []⟩
def d_u_law_found : He.DefD := ⟨("_law_found", none), "_law_found", "_law_found", defArgs s_u_law_found, defBody s_u_law_found, defScope s_u_law_found, [], []⟩
def d_u_law_due : He.DefD := ⟨("_law_due", none), "_law_due", "_law_due", defArgs s_u_law_due, defBody s_u_law_due, defScope s_u_law_due, [], []⟩
def d_u_law_ask : He.DefD := ⟨("_law_ask", none), "_law_ask", "_law_ask", defArgs s_u_law_ask, defBody s_u_law_ask, defScope s_u_law_ask, [], []⟩
def d_u_law_wide : He.DefD := ⟨("_law_wide", none), "_law_wide", "_law_wide", defArgs s_u_law_wide, defBody s_u_law_wide, defScope s_u_law_wide, [], []⟩
def d_u_law_change : He.DefD := ⟨("_law_change", none), "_law_change", "_law_change", defArgs s_u_law_change, defBody s_u_law_change, defScope s_u_law_change, [], []⟩
def d_u_law_bend : He.DefD := ⟨("_law_bend", none), "_law_bend", "_law_bend", defArgs s_u_law_bend, defBody s_u_law_bend, defScope s_u_law_bend, [], []⟩
def d_u_law_fixed : He.DefD := ⟨("_law_fixed", none), "_law_fixed", "_law_fixed", defArgs s_u_law_fixed, defBody s_u_law_fixed, defScope s_u_law_fixed, [], []⟩
def d_law : He.DefD := ⟨("law", none), "law", "law", defArgs s_law, defBody s_law, defScope s_law, [], []⟩
def d_i_BadStep : He.DefD := ⟨("BadStep", some "__init__"), "__init__", "BadStep.__init__", defArgs s_i_BadStep, defBody s_i_BadStep, defScope s_i_BadStep, [], []⟩
def d_i_BadText : He.DefD := ⟨("BadText", some "__init__"), "__init__", "BadText.__init__", defArgs s_i_BadText, defBody s_i_BadText, defScope s_i_BadText, [], []⟩
def fn0 : List He.DefD := [d_name_fault, d_is_name, d_room_signs, d_picture_line, d_picture_of, d_text_lines, d_words_of, d_sign_words_fault, d_sign_lines_fault, d_shown_fault, d_sign_rows, d_sign_fault, d_four_signs_meet, d_sign_box, d_read_picture, d_u_law_state, d_u_law_take, d_u_law_names, d_u_law_mill, d_u_law_cuts, d_u_law_plan, d_u_law_whole, d_u_law_same, d_u_law_signs]
def fn1 : List He.DefD := [d_u_law_picture, d_u_law_name, d_u_law_told, d_u_law_grid, d_u_law_found, d_u_law_due, d_u_law_ask, d_u_law_wide, d_u_law_change, d_u_law_bend, d_u_law_fixed, d_law, d_i_BadStep, d_i_BadText]
def fn : List He.DefD := fn0 ++ fn1
def fa0 : List He.Fa := [.glo "name_fault", .glo "is_name", .glo "room_signs", .glo "picture_line", .glo "picture_of", .glo "text_lines", .glo "words_of", .glo "sign_words_fault", .glo "sign_lines_fault", .glo "shown_fault", .glo "sign_rows", .glo "sign_fault", .glo "four_signs_meet", .glo "sign_box", .glo "read_picture", .glo "_law_state", .glo "_law_take", .glo "_law_names", .glo "_law_mill", .glo "_law_cuts", .glo "_law_plan", .glo "_law_whole", .glo "_law_same", .glo "_law_signs"]
def fa1 : List He.Fa := [.glo "_law_picture", .glo "_law_name", .glo "_law_told", .glo "_law_grid", .glo "_law_found", .glo "_law_due", .glo "_law_ask", .glo "_law_wide", .glo "_law_change", .glo "_law_bend", .glo "_law_fixed", .glo "law", .glo "PlanError", .glo "DataError", .glo "CallError", .glo "TextError", .glo "DeskError", .glo "BadStep", .glo "BadText", .free "ValueError", .free "abs", .free "bool", .free "enumerate", .free "int"]
def fa2 : List He.Fa := [.free "isinstance", .free "len", .free "list", .free "max", .free "min", .free "range", .free "sorted", .free "str", .free "tuple", .free "zip", .int "NAME_MOST" (8), .int "PICTURE_MOST" (160), .str "LETTERS" "abcdefghijklmnopqrstuvwxyz", .str "FIGURES" "0123456789", .str "SIGNS" "abcdefghijklmnopqrstuvwxyzABCDEFGHIJKLMN", .str "BAR" "--", .noat "BadStep" "word", .noat "BadText" "line", .noat "BadText" "word", .exm "BadText" "BadText" true, .exm "BadStep" "BadStep" true]
def fa : List He.Fa := fa0 ++ fa1 ++ fa2
def ex (K : PySem.W.Frag) : Bool := [exB K (He.ga K "PlanError"), exB K (He.ga K "DataError"), exB K (He.ga K "CallError"), exB K (He.ga K "TextError"), exB K (He.ga K "DeskError"), exB K (He.ga K "BadStep"), exB K (He.ga K "BadText"), exI K (He.ga K "BadStep"), exI K (He.ga K "BadText"), kitR K (He.ga K "BadText") (He.ga K "TextError") true, kitR K (He.ga K "BadText") (He.ga K "PlanError") true, kitT K (He.ga K "BadText") "ValueError" true, kitR K (He.ga K "BadText") (He.ga K "DataError") false, kitR K (He.ga K "BadText") (He.ga K "CallError") false, kitR K (He.ga K "BadText") (He.ga K "DeskError") false].all id
def loose0 : List PySem.Str := ["NAME_MOST", "PICTURE_MOST", "__name__", "PlanError", "DataError", "CallError", "TextError", "DeskError", "BadStep", "BadText", "LETTERS", "FIGURES", "name_fault", "is_name", "SIGNS", "BAR", "room_signs", "picture_of", "picture_line", "text_lines", "words_of", "read_picture", "sign_lines_fault", "sign_words_fault"]
def loose1 : List PySem.Str := ["shown_fault", "sign_rows", "sign_fault", "sign_box", "four_signs_meet", "_law_state", "_law_take", "_law_names", "_law_mill", "_law_cuts", "_law_plan", "_law_whole", "_law_same", "_law_signs", "_law_picture", "_law_name", "_law_told", "_law_grid", "_law_found", "_law_due", "_law_ask", "_law_wide", "_law_change", "_law_bend"]
def loose2 : List PySem.Str := ["_law_fixed"]
def loose : List PySem.Str := loose0 ++ loose1 ++ loose2
abbrev R : PySem.W.OpenRow := PySem.W.OpenLaw.row PySem.Challenge.rw_wallsaswished_k19_pictures
abbrev hk : PySem.W.Hook := hookB 5 fa fn ex
def ob (s : PySem.W.SharedT) : AlB := obsBG 5 fa fn ex (HandSHeadRun.getT s)
theorem ob_eq (s : PySem.W.SharedT) : ob s = hk.obs s.abs := obsBG_eq (HandSHeadRun.getT_eq s)
theorem run (w : World) : HandSHeadRun.RunEq R (PySem.W.view R.prog [54]) hk ob 6000 loose w := by
  intro os
  kernel_rfl
end K19
set_option maxHeartbeats 1000000
/-! DL9: short words for derivations and readings. -/
namespace DL
open PySem PySem.Spec PyProof.Rows L2
theorem b_len : bootBuiltins "len" = some (.builtin "len") := by decide +kernel
theorem b_isinstance : bootBuiltins "isinstance" = some (.builtin "isinstance") := by decide +kernel
theorem b_sorted : bootBuiltins "sorted" = some (.builtin "sorted") := by decide +kernel
theorem b_int : bootBuiltins "int" = some (.type "int") := by decide +kernel
theorem b_str : bootBuiltins "str" = some (.type "str") := by decide +kernel
theorem b_bool : bootBuiltins "bool" = some (.type "bool") := by decide +kernel
theorem b_tuple : bootBuiltins "tuple" = some (.type "tuple") := by decide +kernel
theorem b_list : bootBuiltins "list" = some (.type "list") := by decide +kernel
theorem b_ValueError : bootBuiltins "ValueError" = some (.type "ValueError") := by decide +kernel
/-- a def of the top keeps sp, at level k -/
structure Okd (P : Program) (w : World) (K : PySem.W.Frag) (mg : Str → Option Value) (base : Heap) (CX : CXT) (k : Nat) (x : Str) (ps : List Str) (sp : Sp) : Prop where
  m : mg x = some (.ref (He.ga K x))
  ok : ∃ fd, FnOk P w K mg base CX k (He.ga K x) fd ps sp ∧ Binds K fd ps [] ∧ PySem.W.keepIn K (.ref (He.ga K x)) = true
section
variable {X : Cx} {pos p : Pos}
theorem pe_callD {k j : Nat} {x : Str} {ps : List Str} {sp : Sp} {e : Expr} {es : List Expr} {t : TA} (O : Okd X.prog X.w X.K X.mg X.base CX0 k x ps sp) (hr : Room j X.A) (hk : k ≤ j) (ha : PA X (e :: es) t) (hg : Gl X x := by rfl)
    (hdb : (x == ("__debug__" : Str)) = false := by decide) (he : starEach (e :: es) X.env = (false, eval e X.env) :: starEach es X.env := by rfl) (hpl : (backTo pos (starEach es X.env)).any (·.1) = false := by rfl) :
    PE X (.Call (.Name x p) (e :: es) [] pos) (tCall sp [] E0 t) := by
  obtain ⟨m, fd, F, b, kp⟩ := O
  exact pe_call F (hr.mono hk) hg m kp b .nil pass0 ha hdb he hpl
theorem pe_gint {x : Str} {i : Int} (hm : ∃ t, X.mg x = some (.int i t)) (hg : Gl X x := by rfl) (hd : (x == ("__debug__" : Str)) = false := by decide) : PE X (.Name x pos) (tC (.int i)) := by
  obtain ⟨t, hm⟩ := hm
  exact pe_glob hg hm ⟨t, rfl⟩ hd
theorem pe_gstr {x z : Str} (hm : ∃ t, X.mg x = some (.str z t)) (hg : Gl X x := by rfl) (hd : (x == ("__debug__" : Str)) = false := by decide) : PE X (.Name x pos) (tC (.str z)) := by
  obtain ⟨t, hm⟩ := hm
  exact pe_glob hg hm ⟨t, rfl⟩ hd
theorem pe_gref {x : Str} {a : Addr} (hm : X.mg x = some (.ref a)) (hg : Gl X x := by rfl) (hd : (x == ("__debug__" : Str)) = false := by decide) : PE X (.Name x pos) (tC (.ref a)) := pe_glob hg hm rfl hd
def tTr (K : PySem.W.Frag) (ta : TE) : TT := fun σ H Q => ta σ H fun x H' => ∃ k, TruV K x H' k ∧ Q k H'
theorem pt_tr {e : Expr} {te : TE} (h : PE X e te) (he : ∀ whole, isTrue e X.env whole = (do let v ← whole; standAt e.pos; holding [v] (truthy v)) := by intro _; rfl) : PT X e (tTr X.K te) := pt_truth h he
def rJoinU (K : PySem.W.Frag) : V → List V → Hp → VK → Prop := fun x xs H Q => ∃ a p, ∃ ys : List Str, x = .str a ∧ xs = [.ref p] ∧ (SqL K H p (ys.map V.str) ∨ SqT K H p (ys.map V.str)) ∧
  (ys.map (·.length)).sum + ys.length * a.length ≤ 16777216 ∧ Q (.str (Txt.join a ys)) H
theorem pe_joinU {o e : Expr} {to te : TE} {apos : Pos} (ho : PE X o to) (he : PE X e te) (hs : starEach [e] X.env = [(false, eval e X.env)] := by rfl) (hbase : attributeBase o "join" X.env (eval o X.env) = eval o X.env := by rfl) (hline : (apos.endLine == pos.line) = true := by rfl) :
    PE X (.Call (.Attribute o "join" apos) [e] [] pos) (tM1 (rJoinU X.K) to te) := pe_join ho he hs hbase hline
/-- raise C(e, ..) of an own class whose __init__ stores its arguments -/
def tRaiseO (K : PySem.W.Frag) (C : Addr) (fls : List Str) (Ex : XK) (t : TA) : TS := fun _ σ H => tMkO C (spI K C fls) [] t σ H fun cls d H' => (fun (cls : Value) (d : Option Addr) (_ : L2.St) (H : Hp) => Ex cls d H) cls d σ H'
/-- what the walk asks of such a class: where it stands, its word -/
structure ExOk (P : Program) (w : World) (K : PySem.W.Frag) (mg : Str → Option Value) (base : Heap) (k : Nat) (x : Str) (fls : List Str) : Prop where
  m : mg x = some (.ref (He.ga K x))
  ef : ExF K (He.ga K x)
  ini : PySem.W.findIn K (.ref (He.ga K x)) "__init__" = some (some (.ref (He.ma K (He.ga K x) "__init__"))) ∧ PySem.W.typeIn K (.ref (He.ma K (He.ga K x) "__init__")) = some (.type "function")
  ok : ∃ fd, FnOk P w K mg base CX0 k (He.ma K (He.ga K x) "__init__") fd ("self" :: fls) (spI K (He.ga K x) fls) ∧ Binds K fd ("self" :: fls) []
/-- try: x = f(..) / except C as n: suite; nothing else leaves -/
def tTryA (K : PySem.W.Frag) (c : Value) (i : Nat) (ts : Addr → Value → Option Addr → TS) (sp : Sp) (t : TA) (j : Nat) : TS := fun D σ H => tAsg (tCallS sp (WE (wAs K c i ts (fun _ _ _ _ => False) D)) t) (gName j) D σ H
end
section
variable {K : PySem.W.Frag} {Ex : XK} {ρ : List Sl} {ta tb te : TE} {tt : TT} {t u v : TS} {d : D} {P : Oc → Prop}
theorem st_raiseO {C : Addr} {fls : List Str} {t : TA} {ds : List D} (h : EA K t ρ ds) (hl : ds.length = fls.length) (hl2 : ds.length ≤ 1000) (q : P (.ex C (fls.zip ds).reverse)) : ST K Ex (tRaiseO K C fls Ex t) ρ P := st_raise h hl hl2 q
theorem st_tryA {R : List D → D → Prop} {Y : List D → Addr → List (Str × D) → Prop} {t : TA} {ds : List D} {i j : Nat} {c : Value} {ts : Addr → Value → Option Addr → TS} (h : EA K t ρ ds)
    (hr : (∃ d, R ds d ∧ P (.nx (ρ.set j (.fr d)))) ∨
      (∃ C fl, Y ds C fl ∧ PySem.W.exmOne K (.ref C) c = some true ∧ ∀ a dd, ST K E0 (ts a (.ref C) (some dd)) (ρ.set i (Sl.ex a dd fl)) (suiP i P))) :
    ST K Ex (tTryA K c i ts (PX K R Y) t j) ρ P := st_tryAsg h hr
theorem q_asg {i : Nat} (h : EV K te ρ d) (q : ST K Ex u (ρ.set i (.fr d)) P) : ST K Ex (tSeq (tAsg te (gName i)) u) ρ P := st_seq (st_asg h q)
theorem q_asgN {i : Nat} (h : EVN K te ρ d) (q : ST K Ex u (ρ.set i (.ow d)) P) : ST K Ex (tSeq (tAsg te (gName i)) u) ρ P := st_seq (st_asgN h q)
theorem q_asgG {g : TG} {ρ' : List Sl} {ts : List Nat} (h : EV K te ρ d) (hg : GT K g ρ d ρ' ts) (q : ST K Ex u ρ' P) : ST K Ex (tSeq (tAsg te g) u) ρ P := st_seq (st_asgG h hg q)
theorem q_append {n : Nat} {ds : List D} (hi : ρ[n]? = some (.ow (.list ds))) (h : EV K te ρ d) (hz : ds.length < 16000000) (q : ST K Ex u (ρ.set n (.ow (.list (ds ++ [d])))) P) :
    ST K Ex (tSeq (tDrop (tBM K "list" rAppend (tVar n) (tCons te tNil))) u) ρ P := st_seq (st_append hi h hz q)
theorem q_setL {n : Nat} {ds : List D} {i : Int} {j : Nat} (hi : ρ[n]? = some (.ow (.list ds))) (h : EV K te ρ d) (hb : EV K tb ρ (.int i)) (hj : ixN ds.length i = some j) (q : ST K Ex u (ρ.set n (.ow (.list (ds.set j d)))) P) :
    ST K Ex (tSeq (tAsg te (gSub (tVar n) tb rSetL)) u) ρ P := st_seq (st_setL hi h hb hj q)
theorem q_augO {n : Nat} {ds es : List D} (hi : ρ[n]? = some (.ow (.list ds))) (h : EV K te ρ (.list es)) (hz : ds.length + es.length ≤ 16000000) (q : ST K Ex u (ρ.set n (.ow (.list (ds ++ es)))) P) :
    ST K Ex (tSeq (tAug n te rIAddU) u) ρ P := st_seq (st_augO hi h hz q)
/-- if c: t (no else), then u -/
theorem q_when {b : Bool} (h : ET K tt ρ b) (h1 : b = true → ST K Ex t ρ (seqP K Ex u P)) (h2 : b = false → ST K Ex u ρ P) : ST K Ex (tSeq (tIfS tt t tNext) u) ρ P := st_seq (st_if h h1 fun hb => st_next (h2 hb))
theorem q_if {b : Bool} (h : ET K tt ρ b) (h1 : b = true → ST K Ex t ρ (seqP K Ex u P)) (h2 : b = false → ST K Ex v ρ (seqP K Ex u P)) : ST K Ex (tSeq (tIfS tt t v) u) ρ P := st_seq (st_if h h1 h2)
theorem et_or1 {tu : TT} (h : ET K tt ρ true) : ET K (tOr tt tu) ρ true := fun G0 H0 G H σ Q E q => h G0 H0 G H σ _ E fun G1 H1 e1 => q G1 H1 e1
theorem et_and0 {tu : TT} (h : ET K tt ρ false) : ET K (tAnd tt tu) ρ false := fun G0 H0 G H σ Q E q => h G0 H0 G H σ _ E fun G1 H1 e1 => q G1 H1 e1
theorem ev_or1 (h : EV K ta ρ (.bool true)) : EV K (tOrV ta tb) ρ (.bool true) := ev_orV (b := true) h (fun z => nomatch z)
theorem ev_and0 (h : EV K ta ρ (.bool false)) : EV K (tAndV ta tb) ρ (.bool false) := ev_andV (b := true) h (fun z => nomatch z)
theorem ev_if1 (h : ET K tt ρ true) (h1 : EV K ta ρ d) : EV K (tIf tt ta tb) ρ d := ev_if h (fun _ => h1) (fun z => nomatch z)
theorem ev_if0 (h : ET K tt ρ false) (h1 : EV K tb ρ d) : EV K (tIf tt ta tb) ρ d := ev_if h (fun z => nomatch z) (fun _ => h1)
theorem q_yes (h : ET K tt ρ true) (h1 : ST K Ex t ρ (seqP K Ex u P)) : ST K Ex (tSeq (tIfS tt t v) u) ρ P := q_if h (fun _ => h1) (fun z => nomatch z)
theorem q_no (h : ET K tt ρ false) (h1 : ST K Ex u ρ P) : ST K Ex (tSeq (tIfS tt t tNext) u) ρ P := q_when h (fun z => nomatch z) (fun _ => h1)
/-- a word between two statements -/
def cutP (M : List Sl → Prop) (P : Oc → Prop) : Oc → Prop
  | .nx ρ => M ρ
  | o => P o
theorem q_cut (M : List Sl → Prop) (h : ST K Ex t ρ (cutP M P)) (k : ∀ ρ', M ρ' → ST K Ex u ρ' P) : ST K Ex (tSeq t u) ρ P := st_seq (h.mono fun o p => match o, p with
  | .nx ρ', p => k ρ' p
  | .rt _, p => p
  | .bk _, p => p
  | .ct _, p => p
  | .ex _ _, p => p)
theorem q_for {wi : TI} {g : TG} {n : Nat} {item : Nat → D} (hi : EI K wi ρ n item) (I : Nat → List Sl → Prop) (h0 : I 0 ρ)
    (hs : ∀ i ρ1, i < n → I i ρ1 → ∃ ρ2 ts, GT K g ρ1 (item i) ρ2 ts ∧ ST K Ex t ρ2 (loopP (I (i + 1)) (seqP K Ex u P)))
    (hd : ∀ ρ1, I n ρ1 → ST K Ex u ρ1 P) : ST K Ex (tSeq (tFor wi g t) u) ρ P := st_seq (st_for hi I h0 hs hd)
theorem q_frz {i : Nat} (hi : ρ[i]? = some (.ow d)) (h : ST K Ex t (ρ.set i (.fr d)) P) : ST K Ex t ρ P := st_frz hi h
/-- what a def answers, told by a word about the answer -/
def PQ (K : PySem.W.Frag) (Pre : List D → Prop) (Post : List D → D → Prop) : Sp := fun vs H Q _ => ∃ G ds, GH G H ∧ DqA K G vs ds ∧ Pre ds ∧ ∀ d v G' H', Post ds d → Ext G H G' H' → Dq K G' v d → Q v H'
theorem q_asgQ {Pre : List D → Prop} {Post : List D → D → Prop} {Ey : XK} {t : TA} {ds : List D} {i : Nat} (h : EA K t ρ ds) (hp : Pre ds) (q : ∀ d, Post ds d → ST K Ex u (ρ.set i (.fr d)) P) : ST K Ex (tSeq (tAsg (tCall (PQ K Pre Post) [] Ey t) (gName i)) u) ρ P :=
  st_seq fun G0 H0 G H σ D E f => h G0 H0 G H σ _ E fun vs G1 H1 e1 h1 => by
    rw [List.append_nil]
    exact ⟨G1, ds, e1.gh, h1, hp, fun d v G2 H2 hd x hv => f.nx _ _ G2 H2 (q d hd) (((E.go e1).go x).setF i hv)⟩
/-! tests -/
def truD : D → Bool
  | .none => false
  | .bool b => b
  | .int i => i != 0
  | .str s => (s.length : Int) != 0
  | .list ds => !ds.isEmpty
  | .tuple ds => !ds.isEmpty
  | .dict _ => false
theorem et_tr (h : EV K ta ρ d) (nd : isDicD d = false) (hz : ∀ s, d = .str s → s.length ≤ sizeLine) : ET K (tTr K ta) ρ (truD d) := fun G0 H0 G H σ Q E q => h G0 H0 G H σ _ E fun v G1 H1 e1 h1 => by
  refine ⟨truD d, ?_, q G1 H1 e1⟩
  cases h1 with
  | non => exact rfl
  | bl b => exact rfl
  | int i => exact rfl
  | str x => exact ⟨hz x rfl, rfl⟩
  | @lst a xs ds ha hr =>
    refine .inl ⟨xs, SqL.of (e1.gh.lst ha), ?_⟩
    have := hr.length
    cases xs <;> cases ds <;> first | rfl | cases this
  | @tup a xs ds ha hr =>
    refine .inr (.inl ⟨xs, e1.gh.t ha, ?_⟩)
    have := hr.length
    cases xs <;> cases ds <;> first | rfl | cases this
  | dK _ _ => cases nd
  | dT _ _ => cases nd
  | scr _ => cases nd
  | sta _ _ => cases nd
  | opq _ => cases nd
  | raw _ => cases nd
theorem et_trB {b : Bool} (h : EV K ta ρ (.bool b)) : ET K (tTr K ta) ρ b := et_tr h rfl (fun _ z => nomatch z)
theorem et_trO {n : Nat} {ds : List D} (hi : ρ[n]? = some (.ow (.list ds))) : ET K (tTr K (tVar n)) ρ (!ds.isEmpty) := fun G0 H0 G H σ Q E q => by
  obtain ⟨l, vs, h1, h2, h3⟩ := own_look E hi
  refine ⟨_, h1, _, .inl ⟨vs, SqL.of h2, rfl⟩, ?_⟩
  have e : (!vs.isEmpty) = (!ds.isEmpty) := by
    have := h3.length
    cases vs <;> cases ds <;> first | rfl | cases this
  rw [e]
  exact q G H (.refl E.gh)
/-! texts -/
theorem map_str_dq {G : Hp} : ∀ {ys : List Str} {vs : List V}, DqA K G vs (ys.map PyData.str) → vs = ys.map V.str
  | [], _, h => by cases h; rfl
  | y :: ys, _, h => by
    cases h with
    | cons a b =>
      cases a
      rw [List.map_cons, map_str_dq b]
theorem ev_joinL {a : Str} {ys : List Str} (h1 : EV K ta ρ (.str a)) (h2 : EV K tb ρ (.list (ys.map PyData.str))) (hz : (ys.map (·.length)).sum + ys.length * a.length ≤ 16777216) : EV K (tM1 (rJoinU K) ta tb) ρ (.str (Txt.join a ys)) := fun G0 H0 G H σ Q E q =>
  h1 G0 H0 G H σ _ E fun v G1 H1 e1 hv => by
    cases hv
    refine ⟨⟨a, rfl⟩, h2 G0 H0 G1 H1 σ _ (E.go e1) fun u G2 H2 e2 hu => ?_⟩
    cases hu with
    | @lst p xs _ ha hr =>
      have e := map_str_dq hr
      subst e
      exact ⟨a, p, ys, rfl, rfl, .inl (SqL.of (e2.gh.lst ha)), hz, q _ G2 H2 (e1.trans e2) (.str _)⟩
/-! items -/
theorem atI_nn {α : Type} {ds : List α} {i : Int} (z : α) (h0 : 0 ≤ i) (h1 : i < ds.length) : atI ds i = some (ds.getD i.toNat z) := by
  obtain ⟨k, rfl⟩ : ∃ k : Nat, i = (k : Nat) := ⟨i.toNat, by omega⟩
  have hk : k < ds.length := by omega
  refine atI_nat ?_
  rw [List.getD_eq_getElem?_getD]
  simp [hk]
theorem atI_ints {ns : List Int} {i : Int} (h0 : 0 ≤ i) (h1 : i < ns.length) : atI (ns.map PyData.int) i = some (.int (ns.getD i.toNat 0)) := by
  obtain ⟨k, rfl⟩ : ∃ k : Nat, i = (k : Nat) := ⟨i.toNat, by omega⟩
  have hk : k < ns.length := by omega
  refine atI_nat ?_
  rw [List.getElem?_map, List.getD_eq_getElem?_getD]
  simp [hk]
theorem atI_strs {ys : List Str} {i : Int} (h0 : 0 ≤ i) (h1 : i < ys.length) : atI (ys.map PyData.str) i = some (.str (ys.getD i.toNat Str.empty)) := by
  obtain ⟨k, rfl⟩ : ∃ k : Nat, i = (k : Nat) := ⟨i.toNat, by omega⟩
  have hk : k < ys.length := by omega
  refine atI_nat ?_
  rw [List.getElem?_map, List.getD_eq_getElem?_getD]
  simp [hk]
theorem ixN_nn {n : Nat} {i : Int} (h0 : 0 ≤ i) (h1 : i < n) : ixN n i = some i.toNat := by
  unfold ixN
  rw [if_pos h0, if_pos h1]
end
/-! tuple(..), list(..) -/
def rTupU (K : PySem.W.Frag) : List V → Hp → VK → Prop := fun xs H Q => ∃ p ys, xs = [.ref p] ∧ ((SqL K H p ys ∧ ∀ l, H l = none → Q (.ref l) (upd H l (.tup ys))) ∨ (SqT K H p ys ∧ Q (.ref p) H))
theorem call_tupleU {X : Cx} : CallR X (.type "tuple") (rTupU X.K) := call_tuple_of
def rListU (K : PySem.W.Frag) : List V → Hp → VK → Prop := fun xs H Q => ∃ p ys, xs = [.ref p] ∧ (SqL K H p ys ∨ SqT K H p ys) ∧ ∀ l, H l = none → Q (.ref l) (upd H l (.lst ys))
theorem call_listU {X : Cx} : CallR X (.type "list") (rListU X.K) := call_list_of
theorem cd_tupL {K : PySem.W.Frag} {ds : List D} : CD K (rTupU K) [.list ds] (.tuple ds) := fun xs G H Q g hx q => by
  cases hx with
  | cons a b =>
    cases b
    cases a with
    | @lst a xs _ ha hr =>
      refine ⟨a, xs, rfl, .inl ⟨SqL.of (g.lst ha), fun l hl => ?_⟩⟩
      exact q _ _ _ (.new g hl) (.tup (SqT.of upd_same) (hr.mono (Ext.new g hl).g))
theorem cd_tupT {K : PySem.W.Frag} {ds : List D} : CD K (rTupU K) [.tuple ds] (.tuple ds) := fun xs G H Q g hx q => by
  cases hx with
  | cons a b =>
    cases b
    cases a with
    | @tup a xs _ ha hr => exact ⟨a, xs, rfl, .inr ⟨g.t ha, q _ G H (.refl g) (.tup ha hr)⟩⟩
theorem cn_listL {K : PySem.W.Frag} {ds : List D} : CN K (rListU K) [.list ds] (.list ds) := fun xs G H Q g hx q => by
  cases hx with
  | cons a b =>
    cases b
    cases a with
    | @lst a xs _ ha hr => exact ⟨a, xs, rfl, .inl (SqL.of (g.lst ha)), fun l hl => q l G _ (.fresh g hl) hl (g.none hl) (.lst upd_same hr)⟩
theorem cn_listT {K : PySem.W.Frag} {ds : List D} : CN K (rListU K) [.tuple ds] (.list ds) := fun xs G H Q g hx q => by
  cases hx with
  | cons a b =>
    cases b
    cases a with
    | @tup a xs _ ha hr => exact ⟨a, xs, rfl, .inr (g.t ha), fun l hl => q l G _ (.fresh g hl) hl (g.none hl) (.lst upd_same hr)⟩
/-! the first place where p holds, below n -/
def firstP (p : Nat → Bool) (n : Nat) : Option Nat := (List.range n).find? p
theorem firstP_some {p : Nat → Bool} {n i : Nat} (hi : i < n) (h0 : ∀ j, j < i → p j = false) (h1 : p i = true) : firstP p n = some i := by
  unfold firstP
  rw [List.find?_range_eq_some]
  exact ⟨h1, by simpa using hi, fun j hj => by rw [h0 j hj]; rfl⟩
theorem firstP_none {p : Nat → Bool} {n : Nat} (h0 : ∀ j, j < n → p j = false) : firstP p n = none := by
  unfold firstP
  rw [List.find?_eq_none]
  intro x hx
  rw [h0 x (by simpa using hx)]
  exact Bool.false_ne_true
theorem len_app (a b : Str) : (a ++ b).length = a.length + b.length := by
  show (a.cps ++ b.cps).size = a.cps.size + b.cps.size
  rw [Array.size_append]
theorem len_cut (z : Str) (lo hi : Option Int) : (cutS z lo hi).length ≤ z.length := cutS_length z lo hi
theorem len_rep (z : Str) (k : Int) : (repS z k).length = k.toNat * z.length := by
  unfold repS Str.length
  rw [List.size_toArray]
  have : ∀ m : Nat, ((List.replicate m z.cps.toList).flatten).length = m * z.cps.toList.length := fun m => by
    induction m with
    | zero => simp
    | succ m ih => rw [List.replicate_succ, List.flatten_cons, List.length_append, ih, Nat.succ_mul]; omega
  rw [this, Array.length_toList]
theorem len_one (c : Nat) : (⟨#[c]⟩ : Str).length = 1 := rfl
section
variable {P : Program} {w : World} {K : PySem.W.Frag} {mg : Str → Option Value} {base : Heap}
theorem fn_pq {x qual : Str} {params : Arguments} {body : List Stmt} {scope : Scope} {f : Addr} {fd : FuncData} {N ps : List Str} {k : Nat} {Pre : List D → Prop} {Post : List D → D → Prop} (F : FunD K x qual params body scope [] [] f fd) (S : FnScope N ps scope)
    (len : ∀ ds, Pre ds → ds.length = ps.length)
    (hb : ∀ (cdv : Value) (A : Around) (outer : List PySem.Env) (s : Shared) (H : Hp) (E : XK), Room k (A.deeper (envOfC qual scope s.heap.objs.size f cdv)) →
      ∃ t, PSs (cxOf CX0 P w K mg base N qual scope f cdv A outer s H E) body t ∧ ∀ ds, Pre ds → DL.ST K E0 t (start0 N.length ds) (fun o => ∃ d, o = .rt d ∧ Post ds d)) : FnOk P w K mg base CX0 (k + 1) f fd ps (PQ K Pre Post) := by
  refine F.ok S (fun vs H Q E h => ?_) (fun cdv A outer s H vs Q E hr h => ?_)
  · obtain ⟨G, ds, g, ha, hR, q⟩ := h
    exact ha.length.trans (len ds hR)
  · obtain ⟨t, h1, h2⟩ := hb cdv A outer s H E hr
    obtain ⟨G, ds, g, ha, hR, q⟩ := h
    exact ⟨t, h1, h2 ds hR G H G H _ _ (en_start g ha) ⟨(fun _ _ _ _ ⟨_, p, _⟩ _ => nomatch p), (fun d' v G' H' ⟨d, p, hp⟩ x hv => by cases p; exact q _ v G' H' hp x hv), (fun _ _ _ _ ⟨_, p, _⟩ _ => nomatch p), (fun _ _ _ _ ⟨_, p, _⟩ _ => nomatch p), (fun _ _ _ _ _ _ ⟨_, p, _⟩ => nomatch p)⟩⟩
end
end DL
set_option maxHeartbeats 1000000
/-! DL10: dicts by data. dkD: keys are ints and texts; dtD: keys are tuples of such. -/
namespace DL
open PySem PySem.Spec PyProof.Rows L2
section
variable {κ : Type} [DecidableEq κ]
def getG (kvs : List (κ × D)) (k : κ) : Option D := (kvs.find? fun kv => decide (kv.1 = k)).map (·.2)
def hasG (kvs : List (κ × D)) (k : κ) : Bool := (getG kvs k).isSome
def putG (kvs : List (κ × D)) (k : κ) (d : D) : List (κ × D) := if (kvs.any fun kv => decide (kv.1 = k)) = true then kvs.map (fun kv => if kv.1 = k then (kv.1, d) else kv) else kvs ++ [(k, d)]
end
def dkD (kvs : List (Key × D)) : D := .dict (kvs.map fun p => (kD p.1, p.2))
def dtD (kvs : List (List Key × D)) : D := .dict ((.none, .none) :: kvs.map fun p => (.tuple (p.1.map kD), p.2))
inductive DqV {κ : Type} (K : PySem.W.Frag) (G : Hp) : List (κ × V) → List (κ × D) → Prop
  | nil : DqV K G [] []
  | cons {k : κ} {v : V} {d : D} {es : List (κ × V)} {kvs : List (κ × D)} : Dq K G v d → DqV K G es kvs → DqV K G ((k, v) :: es) ((k, d) :: kvs)
theorem kD_inj : ∀ {a b : Key}, kD a = kD b → a = b
  | .inl i, .inl j, h => by cases h; rfl
  | .inr i, .inr j, h => by cases h; rfl
  | .inl i, .inr j, h => by cases h
  | .inr i, .inl j, h => by cases h
theorem kD_bool {k : Key} {b : Bool} (h : kD k = .bool b) : False := by cases k <;> cases h
theorem kD_none {k : Key} (h : kD k = .none) : False := by cases k <;> cases h
section
variable {K : PySem.W.Frag} {G : Hp}
theorem DqK.v : ∀ {kvs : List (Key × D)} {es : List (Key × V)} {ls : List (D × D)}, DqK K G es ls → ls = kvs.map (fun p => (kD p.1, p.2)) → DqV K G es kvs
  | [], _, _, h, e => by
    subst e
    cases h
    exact .nil
  | (k, d) :: kvs, _, _, h, e => by
    cases h with
    | nil => cases e
    | cons a b =>
      rw [List.map_cons] at e
      injection e with e1 e2
      injection e1 with e3 e4
      have := kD_inj e3
      subst this
      dsimp only at e4
      subst e4
      exact .cons a (DqK.v b e2)
theorem DqV.k : ∀ {kvs : List (Key × D)} {es : List (Key × V)}, DqV K G es kvs → DqK K G es (kvs.map fun p => (kD p.1, p.2))
  | [], _, h => by cases h; exact .nil
  | _ :: kvs, _, h => by
    cases h with
    | cons a b => exact .cons a (DqV.k b)
theorem DqV.t : ∀ {kvs : List (List Key × D)} {es : List (List Key × V)}, DqV K G es kvs → DqT K G es (kvs.map fun p => (PyData.tuple (p.1.map kD), p.2))
  | [], _, h => by cases h; exact .nil
  | _ :: kvs, _, h => by
    cases h with
    | cons a b => exact .cons a (DqV.t b)
theorem DqV.mono {κ : Type} {A B : Hp} (x : Sub A B) : ∀ {es : List (κ × V)} {kvs : List (κ × D)}, DqV K A es kvs → DqV K B es kvs
  | _, _, .nil => .nil
  | _, _, .cons a b => .cons (a.mono x) (DqV.mono x b)
theorem DqV.length {κ : Type} : ∀ {es : List (κ × V)} {kvs : List (κ × D)}, DqV K G es kvs → es.length = kvs.length
  | _, _, .nil => rfl
  | _, _, .cons _ b => congrArg Nat.succ (DqV.length b)
theorem DqV.get {κ : Type} [DecidableEq κ] {k : κ} : ∀ {es : List (κ × V)} {kvs : List (κ × D)}, DqV K G es kvs → (valV es k = none ∧ getG kvs k = none) ∨ ∃ v d, valV es k = some v ∧ getG kvs k = some d ∧ Dq K G v d
  | _, _, .nil => .inl ⟨rfl, rfl⟩
  | _, _, @DqV.cons _ _ _ k' v d es kvs a b => by
    by_cases e : k' = k
    · refine .inr ⟨v, d, valV_pos e, ?_, a⟩
      unfold getG
      rw [List.find?_cons_of_pos (by exact decide_eq_true e)]
      rfl
    · rw [valV_neg (p := (k', v)) e]
      have : getG ((k', d) :: kvs) k = getG kvs k := by
        unfold getG
        rw [List.find?_cons_of_neg (by simpa using e)]
      rw [this]
      exact DqV.get b
theorem DqV.any {κ : Type} [DecidableEq κ] {k : κ} : ∀ {es : List (κ × V)} {kvs : List (κ × D)}, DqV K G es kvs → (es.any fun kv => decide (kv.1 = k)) = kvs.any fun kv => decide (kv.1 = k)
  | _, _, .nil => rfl
  | _, _, .cons _ b => by rw [List.any_cons, List.any_cons, DqV.any b]
theorem DqV.map {κ : Type} [DecidableEq κ] {k : κ} {v : V} {d : D} (x : Dq K G v d) : ∀ {es : List (κ × V)} {kvs : List (κ × D)}, DqV K G es kvs → DqV K G (es.map fun kv => if kv.1 = k then (kv.1, v) else kv) (kvs.map fun kv => if kv.1 = k then (kv.1, d) else kv)
  | _, _, .nil => .nil
  | _, _, @DqV.cons _ _ _ k' v' d' es kvs a b => by
    rw [List.map_cons, List.map_cons]
    by_cases e : k' = k
    · rw [if_pos e, if_pos e]
      exact .cons x (DqV.map x b)
    · rw [if_neg e, if_neg e]
      exact .cons a (DqV.map x b)
theorem DqV.snoc {κ : Type} {k : κ} {v : V} {d : D} (x : Dq K G v d) : ∀ {es : List (κ × V)} {kvs : List (κ × D)}, DqV K G es kvs → DqV K G (es ++ [(k, v)]) (kvs ++ [(k, d)])
  | _, _, .nil => .cons x .nil
  | _, _, .cons a b => .cons a (DqV.snoc x b)
theorem DqV.put {κ : Type} [DecidableEq κ] {k : κ} {v : V} {d : D} {es : List (κ × V)} {kvs : List (κ × D)} (h : DqV K G es kvs) (x : Dq K G v d) : DqV K G (putK es k v) (putG kvs k d) := by
  unfold putK putG
  rw [h.any]
  split
  · exact h.map x
  · exact h.snoc x
theorem putG_len {κ : Type} [DecidableEq κ] (kvs : List (κ × D)) (k : κ) (d : D) : (putG kvs k d).length ≤ kvs.length + 1 := by
  unfold putG
  split
  · rw [List.length_map]; omega
  · rw [List.length_append]; exact Nat.le_refl _
theorem dq_dk {v : V} {kvs : List (Key × D)} (h : Dq K G v (dkD kvs)) : ∃ a es, v = .ref a ∧ Rd G a (.dK es) ∧ DqV K G es kvs := by
  unfold dkD at h
  generalize e : (kvs.map fun p => (kD p.1, p.2)) = ls at h
  cases h with
  | sta _ _ =>
    cases kvs with
    | nil => cases e
    | cons p kvs =>
      rw [List.map_cons] at e
      injection e with e1 e2
      injection e1 with e3 _
      exact (kD_bool e3).elim
  | opq _ =>
    cases kvs with
    | nil => cases e
    | cons p kvs =>
      rw [List.map_cons] at e
      injection e with e1 e2
      injection e1 with e3 _
      exact (kD_bool e3).elim
  | raw _ =>
    cases kvs with
    | nil => cases e
    | cons p kvs =>
      rw [List.map_cons] at e
      injection e with e1 e2
      injection e1 with e3 _
      exact (kD_bool e3).elim
  | dK a b => exact ⟨_, _, rfl, a, DqK.v b e.symm⟩
  | scr a =>
    cases kvs with
    | nil => cases e
    | cons p kvs =>
      rw [List.map_cons] at e
      injection e with e1 e2
      injection e1 with e3 _
      exact (kD_none e3).elim
  | dT a b =>
    cases kvs with
    | nil => cases e
    | cons p kvs =>
      rw [List.map_cons] at e
      injection e with e1 e2
      injection e1 with e3 _
      exact (kD_none e3).elim
theorem own_dk {H : Hp} {l : Addr} {kvs : List (Key × D)} (h : OwnC K G H l (dkD kvs)) : ∃ es, H l = some (.dK es) ∧ DqV K G es kvs := by
  unfold dkD at h
  generalize e : (kvs.map fun p => (kD p.1, p.2)) = ls at h
  cases h with
  | dK a b => exact ⟨_, a, DqK.v b e.symm⟩
  | dT a b =>
    cases kvs with
    | nil => cases e
    | cons p kvs =>
      rw [List.map_cons] at e
      injection e with e1 e2
      injection e1 with e3 _
      exact (kD_none e3).elim
theorem key_dq {v : V} : ∀ {k : Key}, Dq K G v (kD k) → v = kV k
  | .inl i, h => by cases h; rfl
  | .inr z, h => by cases h; rfl
theorem keys_dq : ∀ {ks : List Key} {vs : List V}, DqA K G vs (ks.map kD) → vs = ks.map kV
  | [], _, h => by cases h; rfl
  | k :: ks, _, h => by
    cases h with
    | cons a b => rw [key_dq a, keys_dq b]; rfl
end
section
variable {K : PySem.W.Frag} {Ex : XK} {ρ : List Sl} {ta tb te : TE} {tt : TT} {t u : TS} {d : D} {P : Oc → Prop}
theorem en_dnewK : EVN K tDNewK ρ (dkD []) := fun G0 H0 G H σ Q E q p hp => q p G _ (.fresh E.gh hp) hp (E.gh.none hp) (.dK upd_same .nil)
theorem en_dnewT : EVN K tDNewT ρ (dtD []) := fun G0 H0 G H σ Q E q p hp => q p G _ (.fresh E.gh hp) hp (E.gh.none hp) (.dT upd_same .nil)
theorem GH.tup {A B : Hp} (x : GH A B) {a : Addr} {xs : List V} (h : A a = some (.tup xs)) : B a = some (.tup xs) := by
  rcases x a _ h with h | ⟨d, _⟩ | d
  · exact h.1
  · cases d
  · exact d.elim
theorem st_dputK {n : Nat} {kvs : List (Key × D)} {k : Key} {dk : D} (hi : ρ[n]? = some (.ow (dkD kvs))) (hk : EV K tb ρ dk) (ek : dk = kD k) (h : EV K te ρ d) (hz : kvs.length < 16000000) (q : P (.nx (ρ.set n (.ow (dkD (putG kvs k d)))))) :
    ST K Ex (sDPut (tVar n) tb te) ρ P := fun G0 H0 G H σ D E f =>
  h G0 H0 G H σ _ E fun v G1 H1 e1 hv => by
    obtain ⟨l, h1, _, h0, h4⟩ := (E.go e1).ow n _ hi
    subst ek
    refine ⟨_, h1, hk G0 H0 G1 H1 σ _ (E.go e1) fun y G2 H2 e2 hy => ?_⟩
    obtain ⟨es, h5, h6⟩ := own_dk h4
    have e := key_dq hy
    subst e
    refine ⟨l, _, rfl, DPut.k (e2.at h0 h5) (by rw [h6.length, sizeLine_eq]; omega), f.nx _ _ _ _ q (((E.go e1).go e2).write hi h1 ?_)⟩
    exact .dK upd_same (((h6.mono e2.g).put (hv.mono e2.g)).k)
/-- x in d, a frozen one -/
theorem dget_k {G H : Hp} (g : GH G H) {a : Addr} {es : List (Key × V)} {kvs : List (Key × D)} {k : Key} (h : Rd G a (.dK es)) (r : DqV K G es kvs) : (getG kvs k = none ∧ DGet H a (kV k) none) ∨ ∃ v d, getG kvs k = some d ∧ DGet H a (kV k) (some v) ∧ Dq K G v d := by
  rcases r.get (k := k) with ⟨h1, h2⟩ | ⟨v, d, h1, h2, h3⟩
  · exact .inl ⟨h2, .inl ⟨es, k, g.rd h, rfl, h1.symm⟩⟩
  · exact .inr ⟨v, d, h2, .inl ⟨es, k, g.rd h, rfl, h1.symm⟩, h3⟩
theorem ev_inD {kvs : List (Key × D)} {k : Key} {dk : D} (hk : EV K ta ρ dk) (ek : dk = kD k) (h : EV K tb ρ (dkD kvs)) : EV K (tDIn ta tb) ρ (.bool (hasG kvs k)) := fun G0 H0 G H σ Q E q =>
  hk G0 H0 G H σ _ E fun y G1 H1 e1 hy => h G0 H0 G1 H1 σ _ (E.go e1) fun x G2 H2 e2 hx => by
    subst ek
    obtain ⟨a, es, rfl, h1, h2⟩ := dq_dk hx
    have e := key_dq hy
    subst e
    unfold hasG at q
    rcases dget_k e2.gh h1 h2 (k := k) with ⟨h3, h4⟩ | ⟨v, d, h3, h4, h5⟩
    · exact ⟨a, _, rfl, h4, q _ G2 H2 (e1.trans e2) (by rw [h3]; exact .bl _)⟩
    · exact ⟨a, _, rfl, h4, q _ G2 H2 (e1.trans e2) (by rw [h3]; exact .bl _)⟩
theorem ev_ninD {kvs : List (Key × D)} {k : Key} {dk : D} (hk : EV K ta ρ dk) (ek : dk = kD k) (h : EV K tb ρ (dkD kvs)) : EV K (tDNotIn ta tb) ρ (.bool (!hasG kvs k)) := fun G0 H0 G H σ Q E q =>
  hk G0 H0 G H σ _ E fun y G1 H1 e1 hy => h G0 H0 G1 H1 σ _ (E.go e1) fun x G2 H2 e2 hx => by
    subst ek
    obtain ⟨a, es, rfl, h1, h2⟩ := dq_dk hx
    have e := key_dq hy
    subst e
    unfold hasG at q
    rcases dget_k e2.gh h1 h2 (k := k) with ⟨h3, h4⟩ | ⟨v, d, h3, h4, h5⟩
    · exact ⟨a, _, rfl, h4, q _ G2 H2 (e1.trans e2) (by rw [h3]; exact .bl _)⟩
    · exact ⟨a, _, rfl, h4, q _ G2 H2 (e1.trans e2) (by rw [h3]; exact .bl _)⟩
/-- d[x], a frozen one -/
theorem ev_getD {kvs : List (Key × D)} {k : Key} {dk : D} (h : EV K ta ρ (dkD kvs)) (hk : EV K tb ρ dk) (ek : dk = kD k) (e : getG kvs k = some d) : EV K (tDGet ta tb) ρ d := fun G0 H0 G H σ Q E q =>
  h G0 H0 G H σ _ E fun x G1 H1 e1 hx => hk G0 H0 G1 H1 σ _ (E.go e1) fun y G2 H2 e2 hy => by
    subst ek
    obtain ⟨a, es, rfl, h1, h2⟩ := dq_dk (hx.mono e2.g)
    have ez := key_dq hy
    subst ez
    rcases dget_k e2.gh h1 h2 (k := k) with ⟨h3, h4⟩ | ⟨v, d', h3, h4, h5⟩
    · rw [e] at h3; cases h3
    · rw [e] at h3
      cases h3
      exact ⟨a, v, rfl, h4, q _ G2 H2 (e1.trans e2) h5⟩
/-- what a dict comprehension gives -/
def dcD : Nat → (Nat → Bool) → (Nat → Key) → (Nat → D) → List (Key × D)
  | 0, _, _, _ => []
  | n + 1, b, k, f => if b n = true then putG (dcD n b k f) (k n) (f n) else dcD n b k f
theorem dcD_len (b : Nat → Bool) (k : Nat → Key) (f : Nat → D) : ∀ n, (dcD n b k f).length ≤ n
  | 0 => Nat.le_refl _
  | n + 1 => by
    unfold dcD
    have := dcD_len b k f n
    split
    · exact Nat.le_trans (putG_len _ _ _) (Nat.succ_le_succ this)
    · omega
end
end DL
set_option maxHeartbeats 1000000
/-! DL11: the order of texts and of pairs of texts; sorted. -/
namespace DL
open PySem PySem.Spec PyProof.Rows L2
/-! ### orders -/
def ltS (a b : Str) : Bool := decide (a.cps.toList < b.cps.toList)
theorem str_ext {a b : Str} (h : a.cps.toList = b.cps.toList) : a = b := by
  cases a
  cases b
  exact congrArg Str.mk (Array.toList_inj.mp h)
theorem ltS_irr (a : Str) : ltS a a = false := decide_eq_false (List.lt_irrefl _)
theorem ltS_tr {a b c : Str} (h : ltS a b = true) (k : ltS b c = true) : ltS a c = true := decide_eq_true (List.lt_trans (of_decide_eq_true h) (of_decide_eq_true k))
theorem ltS_eq {a b : Str} (h : ltS a b = false) (k : ltS b a = false) : a = b := by
  refine str_ext (List.le_antisymm ?_ ?_)
  · exact List.not_lt.mp (of_decide_eq_false k)
  · exact List.not_lt.mp (of_decide_eq_false h)
/-- of pairs: by the first, then by the second -/
def ltQ (p q : Str × Str) : Bool := if p.1 = q.1 then ltS p.2 q.2 else ltS p.1 q.1
section
variable {α : Type} {lt : α → α → Bool}
/-- a strict total order -/
structure Sto (lt : α → α → Bool) : Prop where
  irr : ∀ a, lt a a = false
  tr : ∀ {a b c}, lt a b = true → lt b c = true → lt a c = true
  eq : ∀ {a b}, lt a b = false → lt b a = false → a = b
theorem Sto.as (O : Sto lt) {a b : α} (h : lt a b = true) : lt b a = false := by
  cases q : lt b a with
  | false => rfl
  | true =>
    have := O.tr h q
    rw [O.irr] at this
    cases this
theorem Sto.tr' (O : Sto lt) {x y z : α} (h : lt y x = false) (k : lt z y = false) : lt z x = false := by
  cases q : lt z x with
  | false => rfl
  | true =>
    cases a : lt x y with
    | true =>
      have := O.tr q a
      rw [k] at this
      cases this
    | false =>
      have e := O.eq a h
      subst e
      rw [q] at k
      cases k
theorem Sto.swo_of {β : Type} (O : Sto lt) (f : β → α) : SrtO.Swo fun x y => lt (f x) (f y) := ⟨fun _ _ h => O.as h, fun _ _ _ h k => O.tr' h k⟩
def srt (lt : α → α → Bool) (l : List α) : List α := l.mergeSort fun x y => !lt y x
theorem srt_perm (l : List α) : (srt lt l).Perm l := List.mergeSort_perm _ _
theorem srt_pw (O : Sto lt) (l : List α) : (srt lt l).Pairwise fun x y => lt y x = false := by
  have := List.pairwise_mergeSort (le := fun x y => !lt y x) (fun a b c h k => by
    rw [Bool.not_eq_true'] at *
    exact O.tr' h k) (fun a b => by
    cases q : lt b a with
    | false => rfl
    | true =>
      rw [O.as q]
      rfl) l
  exact this.imp fun h => by simpa using h
theorem srt_uniq (O : Sto lt) {l m : List α} (hp : l.Perm m) (hs : l.Pairwise fun x y => lt y x = false) : l = srt lt m := by
  refine List.Perm.eq_of_pairwise (le := fun x y => lt y x = false) (fun a b _ _ h k => O.eq k h) hs (srt_pw O m) (hp.trans (srt_perm m).symm)
theorem srt_len (l : List α) : (srt lt l).length = l.length := (srt_perm l).length_eq
end
theorem stoS : Sto ltS := ⟨ltS_irr, ltS_tr, ltS_eq⟩
end DL
set_option maxHeartbeats 1000000
/-! DL12: sorted(..) by data; comparisons of pairs of texts; a dict comprehension; words for the walk. -/
namespace DL
open PySem PySem.Spec PyProof.Rows L2
/-! ### sorted of a list of texts -/
theorem rising_pw : ∀ (l : List Str) (p : Str), risingS p l = true → (p :: l).Pairwise fun x y => ltS y x = false
  | [], p, _ => List.pairwise_singleton _ _
  | x :: r, p, h => by
    have h : (!ltCps x.cps.toList p.cps.toList && risingS x r) = true := h
    rw [Bool.and_eq_true] at h
    have ih := rising_pw r x h.2
    have h1 : ltS x p = false := by
      have := h.1
      rw [ltCps_eq] at this
      simpa [ltS] using this
    refine List.pairwise_cons.mpr ⟨fun y hy => ?_, ih⟩
    rcases List.mem_cons.mp hy with rfl | hy
    · exact h1
    · exact stoS.tr' h1 ((List.pairwise_cons.mp ih).1 y hy)
theorem sortedS_pw : ∀ {l : List Str}, sortedS l = true → l.Pairwise fun x y => ltS y x = false
  | [], _ => List.Pairwise.nil
  | x :: r, h => rising_pw r x h
section
variable {K : PySem.W.Frag}
theorem cn_sortS {zs : List Str} (hl : zs.length < 64) : CN K (rSortedS K) [.list (zs.map PyData.str)] (.list ((srt ltS zs).map PyData.str)) := fun xs G H Q g hx q => by
  cases hx with
  | cons a b =>
    cases b
    cases a with
    | @lst a xs _ ha hr =>
      have e := map_str_dq hr
      subst e
      refine ⟨a, zs, rfl, SqL.of (g.lst ha), hl, fun ys p hp hs hn => ?_⟩
      have e := srt_uniq stoS hp (sortedS_pw hs)
      subst e
      refine q p G _ (.fresh g hn) hn (g.none hn) (.lst upd_same ?_)
      clear hs hp hr ha
      induction (srt ltS zs) with
      | nil => exact .nil
      | cons z l ih => exact .cons (.str z) ih
/-! ### pairs of texts in the heap -/
/-- v is the pair (x, y) -/
def IsPS (h : Heap) (v : Value) (p : Str × Str) : Prop := ∃ a o t u n, v = .ref a ∧ h.get? a = some o ∧ o.cls = .type "tuple" ∧ o.data = .seq #[.str p.1 t, .str p.2 u] n
theorem IsPS.keeps {h h' : Heap} {v : Value} {p : Str × Str} (x : IsPS h v p) (k : ∀ b o, h.get? b = some o → o.cls = .type "tuple" → h'.get? b = some o) : IsPS h' v p := by
  obtain ⟨a, o, t, u, n, e, ho, hc, hd⟩ := x
  exact ⟨a, o, t, u, n, e, k a o ho hc, hc, hd⟩
end
end DL
set_option maxHeartbeats 1000000
/-! DL13: sorted(dict), comparisons of pairs of texts, dict comprehensions, str(int), xs[::-1]. -/
namespace DL
open PySem PySem.Spec PyProof.Rows L2
def pqD (p : Str × Str) : D := .tuple [.str p.1, .str p.2]
section
variable {K : PySem.W.Frag}
/-! ### pairs of texts are compared -/
def rLtQ (K : PySem.W.Frag) : R2 := fun x y H Q => ∃ (a b : Addr) (p q : Str × Str), x = .ref a ∧ y = .ref b ∧ SqT K H a [.str p.1, .str p.2] ∧ SqT K H b [.str q.1, .str q.2] ∧ Q (.bl (ltQ p q)) H
def rGeQ (K : PySem.W.Frag) : R2 := fun x y H Q => ∃ (a b : Addr) (p q : Str × Str), x = .ref a ∧ y = .ref b ∧ SqT K H a [.str p.1, .str p.2] ∧ SqT K H b [.str q.1, .str q.2] ∧ Q (.bl (!ltQ p q)) H
end
section
variable {K : PySem.W.Frag} {Ex : XK} {ρ : List Sl} {ta tb te tk tv : TE} {tt : TT} {t u : TS} {d d1 d2 : D} {P : Oc → Prop} {r r' : R2}
theorem ps_sq {G H : Hp} (g : GH G H) {x : V} {a b : Str} (h : Dq K G x (.tuple [.str a, .str b])) : ∃ l, x = .ref l ∧ SqT K H l [.str a, .str b] := by
  cases h with
  | @tup l xs _ ha hr =>
    cases hr with
    | cons h1 h2 => cases h2 with
      | cons h2 h3 =>
        cases h1
        cases h2
        cases h3
        exact ⟨l, rfl, g.t ha⟩
theorem od_ltQ {a b c e : Str} : OD K (rLtQ K) (.tuple [.str a, .str b]) (.tuple [.str c, .str e]) (.bool (ltQ (a, b) (c, e))) := fun x y G H Q g hx hy q => by
  obtain ⟨l, rfl, h1⟩ := ps_sq g hx
  obtain ⟨m, rfl, h2⟩ := ps_sq g hy
  exact ⟨l, m, (a, b), (c, e), rfl, rfl, h1, h2, q _ G H (.refl g) (.bl _)⟩
theorem od_geQ {a b c e : Str} : OD K (rGeQ K) (.tuple [.str a, .str b]) (.tuple [.str c, .str e]) (.bool (!ltQ (a, b) (c, e))) := fun x y G H Q g hx hy q => by
  obtain ⟨l, rfl, h1⟩ := ps_sq g hx
  obtain ⟨m, rfl, h2⟩ := ps_sq g hy
  exact ⟨l, m, (a, b), (c, e), rfl, rfl, h1, h2, q _ G H (.refl g) (.bl _)⟩
/-- xs[::-1] -/
theorem en_revL {ds : List D} (h : EV K te ρ (.list ds)) : EVN K (tRevL K te) ρ (.list ds.reverse) := fun G0 H0 G H σ Q E q =>
  h G0 H0 G H σ _ E fun v G1 H1 e1 hv => by
    cases hv with
    | @lst a xs _ ha hr =>
      refine ⟨a, xs, rfl, SqL.of (e1.gh.lst ha), fun p hp => ?_⟩
      refine q p G1 _ (e1.trans (.fresh e1.gh hp)) ?_ (e1.gh.none hp) (.lst upd_same hr.rev)
      exact e1.gone hp
/-- str(i) -/
def strI (i : Int) : Str := (toString i : String)
def rStrI : List V → Hp → VK → Prop := fun xs H Q => ∃ i, xs = [.int i] ∧ i.natAbs.log2 < 1920 ∧ Q (.str (toString i)) H
theorem call_strI {X : Cx} : CallR X (.type "str") rStrI := call_str_int
theorem cd_strI {i : Int} (h : i.natAbs.log2 < 1920) : CD K rStrI [.int i] (.str (strI i)) := fun xs G H Q g hx q => by
  cases hx with
  | cons a b =>
    cases b
    cases a
    exact ⟨i, rfl, h, q _ G H (.refl g) (.str _)⟩
/-- a dict comprehension -/
theorem dc_it {J : It} {n : Nat} {Gd : Hp → Prop} {Y : Nat → Hp → V → Hp → Prop} (w : Walk J n Gd Y) {g : TG} {vs : List Nat} {σ : L2.St} {H1 : Hp} {D : Addr} {Qd : Hp → Prop} (Pv : Nat → Hp → Prop) (h0 : Pv 0 (upd H1 D (.dK []))) (hG : ∀ i H, i ≤ n → Pv i H → Gd H)
    (hs : ∀ i x H H', i < n → Pv i H → Y i H x H' → g x (wipe σ vs) H' fun σ2 H2 => wipe σ2 vs = wipe σ vs ∧ tt σ2 H2 fun b H3 =>
      if b = true then tk σ2 H3 fun y H4 => tv σ2 H4 fun z H5 => ∃ kvs k, y = kV k ∧ H5 D = some (.dK kvs) ∧ kvs.length < sizeLine ∧ Pv (i + 1) (upd H5 D (.dK (putK kvs k z))) else Pv (i + 1) H3) (hd : ∀ H, Pv n H → Qd H) :
    ∃ W : Nat → Nat → Hp → Prop, (∃ m, W 0 m (upd H1 D (.dK []))) ∧ ∀ i m H, W i m H →
      (J.stop i H ∧ Qd H) ∨ (J.go i H ∧ ∃ Nx : Hp → Prop, (∀ H', Nx H' → ∃ m', m' < m ∧ W (i + 1) m' H') ∧ ∀ x H', J.yld i H x H' → g x (wipe σ vs) H' fun σ2 H2 => wipe σ2 vs = wipe σ vs ∧ tt σ2 H2 fun b H3 =>
        if b = true then tk σ2 H3 fun y H4 => tv σ2 H4 fun z H5 => ∃ kvs k, y = kV k ∧ H5 D = some (.dK kvs) ∧ kvs.length < sizeLine ∧ Nx (upd H5 D (.dK (putK kvs k z))) else Nx H3) := by
  refine ⟨fun i m H => m = n - i ∧ i ≤ n ∧ Pv i H, ⟨n, rfl, Nat.zero_le _, h0⟩, ?_⟩
  rintro i m H ⟨rfl, hi, p⟩
  by_cases hlt : i < n
  · exact .inr ⟨w.goes i H hlt (hG i H hi p), Pv (i + 1), fun H' p' => ⟨n - (i + 1), by omega, rfl, hlt, p'⟩, fun x H' y => hs i x H H' hlt p (w.yields i H x H' hlt (hG i H hi p) y)⟩
  · have e : i = n := by omega
    subst e
    exact .inl ⟨w.stops H (hG _ H hi p), hd H p⟩
theorem en_dc {wi : TI} {g : TG} {vs : List Nat} {n : Nat} {item : Nat → D} {b : Nat → Bool} {k : Nat → Key} {f : Nat → D} (hi : EI K wi ρ n item) (hn : n ≤ 16000000)
    (hs : ∀ i, i < n → ∃ ρ2 ts, GT K g (wipeS ρ vs) (item i) ρ2 ts ∧ (∀ t ∈ ts, t ∈ vs) ∧ ET K tt ρ2 (b i) ∧ (b i = true → EV K tk ρ2 (kD (k i)) ∧ EV K tv ρ2 (f i))) :
    EVN K (tDc wi g tt tk tv vs) ρ (dkD (dcD n b k f)) := fun G0 H0 G H σ Q E q =>
  hi G0 H0 G H σ _ E fun J G1 H1 Gd Y x w hG hY Dl hD => by
    have E1 := E.go x
    have hH : H Dl = none := by
      exact x.gone hD
    have hG1 : G1 Dl = none := x.gh.none hD
    refine dc_it w (fun i H' => ∃ G' es, Ext G1 H1 G' H' ∧ G' Dl = none ∧ H' Dl = some (.dK es) ∧ DqV K G' es (dcD i b k f)) ⟨G1, [], .fresh x.gh hD, hG1, upd_same, .nil⟩ (fun i H' _ ⟨G', vl, e, _⟩ => hG G' H' e.gg e.gh) (fun i y H' H3 hlt ⟨G', es, e, n1, h1, r1⟩ hy => ?_)
      (fun H' ⟨G', es, e, n1, h1, r1⟩ => q Dl G' H' (x.trans e) hH n1 (.dK h1 r1.k))
    obtain ⟨G3, x3, hdq⟩ := hY i G' H' y H3 hlt e.gg e.gh hy
    obtain ⟨ρ2, ts, hg, hts, ht, he⟩ := hs i hlt
    have E3 : En K G0 H0 G3 H3 (L2.wipe σ vs) (wipeS ρ vs) := ((E1.go e).go x3).wipe vs
    have n3 : G3 Dl = none := x3.own _ _ h1 rfl n1
    refine hg G0 H0 G3 H3 _ y _ E3 hdq fun σ2 E2 hl hk => ⟨wipe_eq (by rw [hl, wipe_length]) hk hts, ?_⟩
    refine ht G0 H0 G3 H3 σ2 _ E2 fun G4 H4 x4 => ?_
    have h4 : H4 Dl = some (.dK es) := x4.at n3 (x3.at n1 h1)
    have n4 : G4 Dl = none := x4.own _ _ (x3.at n1 h1) rfl n3
    have r4 : DqV K G4 es (dcD i b k f) := (r1.mono x3.g).mono x4.g
    have e4 : Ext G1 H1 G4 H4 := (e.trans x3).trans x4
    cases hb : b i with
    | false =>
      rw [if_neg Bool.false_ne_true]
      refine ⟨G4, es, e4, n4, h4, ?_⟩
      unfold dcD
      rw [if_neg (by rw [hb]; exact Bool.false_ne_true)]
      exact r4
    | true =>
      rw [if_pos rfl]
      refine (he hb).1 G0 H0 G4 H4 σ2 _ (E2.go x4) fun u G5 H5 x5 hu => (he hb).2 G0 H0 G5 H5 σ2 _ ((E2.go x4).go x5) fun z G6 H6 x6 hz => ?_
      have x56 := x5.trans x6
      have h5 := x56.at n4 h4
      have n5 := x56.own _ _ h4 rfl n4
      have hlen := dcD_len b k f i
      have hl2 := r4.length
      refine ⟨es, k i, key_dq hu, h5, by rw [hl2, sizeLine_eq]; omega, G6, putK es (k i) z, ?_, n5, upd_same, ?_⟩
      · have e5 := e4.trans x56
        refine ⟨e5.gg, fun a o ha => ?_, fun a o ha => ?_, e5.own⟩
        · rw [upd_ne (ne_of_none ha hD)]; exact e5.hh a o ha
        · have ne : a ≠ Dl := ne_of_none ha n5
          exact (e5.gh a o ha).eq (upd_ne ne)
      · have hb' : dcD (i + 1) b k f = putG (dcD i b k f) (k i) (f i) := by
          show (if b i = true then putG (dcD i b k f) (k i) (f i) else dcD i b k f) = _
          rw [if_pos hb]
        rw [hb']
        exact (r4.mono x56.g).put hz
end
end DL
set_option maxHeartbeats 1000000
/-! DL14: x = {k: v for ..} of a local name. -/
namespace DL
open PySem PySem.Spec PyProof.Rows L2
section
variable {K : PySem.W.Frag} {ρ : List Sl} {ta tb : TE}
theorem ev_inDS {kvs : List (Key × D)} {x : Str} (hk : EV K ta ρ (.str x)) (h : EV K tb ρ (dkD kvs)) : EV K (tDIn ta tb) ρ (.bool (hasG kvs (.inr x))) := ev_inD hk rfl h
theorem ev_ninDS {kvs : List (Key × D)} {x : Str} (hk : EV K ta ρ (.str x)) (h : EV K tb ρ (dkD kvs)) : EV K (tDNotIn ta tb) ρ (.bool (!hasG kvs (.inr x))) := ev_ninD hk rfl h
/-- the first place below n at which f tells a word -/
def firstO {α : Type} (f : Nat → Option α) : Nat → Option (Nat × α)
  | 0 => none
  | n + 1 => match firstO f n with
    | some r => some r
    | none => (f n).map fun w => (n, w)
theorem firstO_none {α : Type} {f : Nat → Option α} : ∀ {n : Nat}, (∀ j, j < n → f j = none) → firstO f n = none
  | 0, _ => rfl
  | n + 1, h => by
    unfold firstO
    rw [firstO_none fun j hj => h j (by omega), h n (by omega)]
    rfl
theorem firstO_some {α : Type} {f : Nat → Option α} {i : Nat} {w : α} : ∀ {n : Nat}, i < n → (∀ j, j < i → f j = none) → f i = some w → firstO f n = some (i, w)
  | 0, h, _, _ => by omega
  | n + 1, h, h0, h1 => by
    unfold firstO
    by_cases e : i = n
    · subst e
      rw [firstO_none h0, h1]
      rfl
    · rw [firstO_some (n := n) (by omega) h0 h1]
end
end DL
set_option maxHeartbeats 1000000
/-! DL15: a dict of owned lists. -/
namespace DL
open PySem PySem.Spec PyProof.Rows L2
def getL : List (Key × List D) → Key → Option (List D)
  | [], _ => none
  | (k', ds) :: r, k => if k' = k then some ds else getL r k
section
variable {K : PySem.W.Frag} {G H : Hp}
theorem NeL.get {k : Key} {ds : List D} : ∀ {es : List (Key × V)} {as : List Addr} {kls : List (Key × List D)}, NeL K G H es as kls → getL kls k = some ds → ∃ a vs, valV es k = some (.ref a) ∧ a ∈ as ∧ H a = some (.lst vs) ∧ DqA K G vs ds
  | _, _, _, .nil, e => by cases e
  | _, _, _, @NeL.cons _ _ _ k' a vs ds' es as kls h r t, e => by
    unfold getL at e
    by_cases q : k' = k
    · rw [if_pos q] at e
      cases e
      exact ⟨a, vs, valV_pos q, List.mem_cons_self .., h, r⟩
    · rw [if_neg q] at e
      obtain ⟨b, us, h1, h2, h3, h4⟩ := NeL.get t e
      exact ⟨b, us, by rw [valV_neg (p := (k', V.ref a)) q]; exact h1, List.mem_cons_of_mem _ h2, h3, h4⟩
end
section
variable {K : PySem.W.Frag} {G0 H0 G H : Hp} {σ : L2.St} {ρ : List Sl} {Ex : XK} {ta tb te : TE} {d : D} {P : Oc → Prop}
theorem NeL.frz {G' : Hp} (g : Sub G G') : ∀ {es : List (Key × V)} {as : List Addr} {kls : List (Key × List D)}, NeL K G H es as kls → (∀ a ∈ as, G' a = H a) → DqV K G' es (kls.map fun p => (p.1, .list p.2))
  | _, _, _, .nil, _ => .nil
  | _, _, _, .cons h r t, e => .cons (.lst ((e _ (List.mem_cons_self ..)).trans h) (r.mono g)) (NeL.frz g t fun a ha => e a (List.mem_cons_of_mem _ ha))
/-! ### laying one -/
theorem NeL.ext {G' H' : Hp} (x : Ext G H G' H') {es : List (Key × V)} {as : List Addr} {kls : List (Key × List D)} (h : NeL K G H es as kls) (hG : ∀ a ∈ as, G a = none) : NeL K G' H' es as kls := h.go x.g fun a ha => by
  obtain ⟨vs, e⟩ := h.there a ha
  exact (x.at (hG a ha) e).trans e.symm
theorem NeL.none {k : Key} : ∀ {es : List (Key × V)} {as : List Addr} {kls : List (Key × List D)}, NeL K G H es as kls → getL kls k = none → valV es k = none
  | _, _, _, .nil, _ => rfl
  | _, _, _, @NeL.cons _ _ _ k' a vs ds es as kls h r t, e => by
    unfold getL at e
    by_cases q : k' = k
    · rw [if_pos q] at e
      cases e
    · rw [if_neg q] at e
      rw [valV_neg (p := (k', V.ref a)) q]
      exact NeL.none t e
theorem NeL.snoc {k : Key} {a : Addr} {vs : List V} {ds : List D} (h : H a = some (.lst vs)) (r : DqA K G vs ds) : ∀ {es : List (Key × V)} {as : List Addr} {kls : List (Key × List D)}, NeL K G H es as kls → NeL K G H (es ++ [(k, .ref a)]) (as ++ [a]) (kls ++ [(k, ds)])
  | _, _, _, .nil => .cons h r .nil
  | _, _, _, .cons h' r' t => .cons h' r' (NeL.snoc h r t)
theorem NeL.len : ∀ {es : List (Key × V)} {as : List Addr} {kls : List (Key × List D)}, NeL K G H es as kls → es.length = kls.length
  | _, _, _, .nil => rfl
  | _, _, _, .cons _ _ t => congrArg Nat.succ (NeL.len t)
end
end DL
set_option maxHeartbeats 1000000
/-! DL16: d.items() of a local dict of lists, locked; list.pop(); such a dict returned. -/
namespace DL
open PySem PySem.Spec PyProof.Rows L2
section
variable {K : PySem.W.Frag} {G0 H0 G H : Hp} {σ : L2.St} {ρ : List Sl} {Ex : XK} {ta tb te : TE} {tt : TT} {tu : TS} {d : D} {P : Oc → Prop}
theorem DqV.at {κ : Type} {z : κ × D} : ∀ {es : List (κ × V)} {kvs : List (κ × D)} {i : Nat}, DqV K G es kvs → i < kvs.length → ∃ k v, es[i]? = some (k, v) ∧ k = (kvs.getD i z).1 ∧ Dq K G v (kvs.getD i z).2
  | _, _, _, .nil, h => absurd h (Nat.not_lt_zero _)
  | _, _, 0, .cons a b, h => ⟨_, _, rfl, rfl, a⟩
  | _, _, i + 1, .cons a b, h => by
    obtain ⟨k, v, h1, h2, h3⟩ := DqV.at (z := z) (i := i) b (by simpa using h)
    exact ⟨k, v, by rw [List.getElem?_cons_succ]; exact h1, by rw [List.getD_cons_succ]; exact h2, by rw [List.getD_cons_succ]; exact h3⟩
theorem DqA.snoc_inv : ∀ {ds : List D} {us : List V} {d : D}, DqA K G us (ds ++ [d]) → ∃ vs v, us = vs ++ [v] ∧ DqA K G vs ds ∧ Dq K G v d
  | [], _, _, h => by
    cases h with
    | cons a b =>
      cases b
      exact ⟨[], _, rfl, .nil, a⟩
  | _ :: ds, _, d, h => by
    cases h with
    | cons a b =>
      obtain ⟨vs, v, rfl, r1, r2⟩ := DqA.snoc_inv (ds := ds) b
      exact ⟨_ :: vs, v, rfl, .cons a r1, r2⟩
end
end DL
set_option maxHeartbeats 1000000
/-! DL17: lists of texts and of pairs as data, picks by remainder. -/
namespace DL
open PySem PySem.Spec PyProof.Rows L2
theorem eqv_str (a b : Str) : PyData.eqv (.str a) (.str b) = decide (a = b) := by
  by_cases h : a = b
  · subst h
    simp [PyData.eqv]
  · simp [PyData.eqv, h]
theorem map_set {ms : List Int} {j : Nat} {v : Int} : (ms.map PyData.int).set j (.int v) = (ms.set j v).map PyData.int := (List.map_set ..).symm
theorem ch_at {z : Str} {i : Int} (h0 : 0 ≤ i) (h1 : i < z.cps.toList.length) : atI z.cps.toList i = some (z.cps.toList.getD i.toNat 0) := atI_nn (α := Nat) 0 h0 h1
theorem inD_str {z : Str} {ns : List Str} : inD (.str z) (ns.map PyData.str) = decide (z ∈ ns) := by
  unfold inD
  rw [List.any_map, Bool.eq_iff_iff, List.any_eq_true, decide_eq_true_eq]
  constructor
  · rintro ⟨x, hx, e⟩
    have e : PyData.eqv (.str x) (.str z) = true := e
    rw [eqv_str, decide_eq_true_eq] at e
    rw [← e]
    exact hx
  · intro h
    refine ⟨z, h, ?_⟩
    show PyData.eqv (.str z) (.str z) = true
    rw [eqv_str]
    exact decide_eq_true rfl
theorem getD_str {zs : List Str} {i : Nat} (hi : i < zs.length) : (zs.map PyData.str).getD i .none = .str (zs.getD i Str.empty) := by
  rw [List.getD_eq_getElem?_getD, List.getD_eq_getElem?_getD, List.getElem?_map, List.getElem?_eq_getElem hi]
  rfl
theorem getD_mem {α : Type} {zs : List α} {i : Nat} {z : α} (hi : i < zs.length) : zs.getD i z ∈ zs := by
  rw [List.getD_eq_getElem?_getD, List.getElem?_eq_getElem hi]
  exact List.getElem_mem hi
theorem getD_map {qs : List (Str × Str)} {i : Nat} (hi : i < qs.length) : (qs.map pqD).getD i .none = pqD (qs.getD i (Str.empty, Str.empty)) := by
  rw [List.getD_eq_getElem?_getD, List.getD_eq_getElem?_getD, List.getElem?_map, List.getElem?_eq_getElem hi]
  rfl
theorem app_list (a b : Str) : (a ++ b).cps.toList = a.cps.toList ++ b.cps.toList := by
  show (a.cps ++ b.cps).toList = _
  rw [Array.toList_append]
theorem strs_flat (zs : List Str) : (zs.map PyData.str).all flatD = true := by
  rw [List.all_map]
  exact List.all_eq_true.mpr fun _ _ => rfl
/-! ### dicts of lists of texts -/
section
variable {K : PySem.W.Frag} {ρ : List Sl} {Ex : XK} {ta tb te : TE} {tt : TT} {u : TS} {P : Oc → Prop} {keys : List Str} {f : Str → List Str} {a v : Str}
/-- a dict that says True of each of its texts -/
def bS (ys : List Str) : List (Key × D) := ys.map fun y => (.inr y, .bool true)
theorem has_bS {ys : List Str} {y : Str} : hasG (bS ys) (.inr y) = decide (y ∈ ys) := by
  unfold hasG getG bS
  rw [Option.isSome_map, Bool.eq_iff_iff, List.find?_isSome, decide_eq_true_eq]
  constructor
  · rintro ⟨x, hx, e⟩
    obtain ⟨z, hz, rfl⟩ := List.mem_map.mp hx
    rw [← Sum.inr.inj (of_decide_eq_true e)]
    exact hz
  · exact fun h => ⟨_, List.mem_map.mpr ⟨y, h, rfl⟩, decide_eq_true rfl⟩
theorem put_bS {ys : List Str} {y : Str} (h : y ∉ ys) : putG (bS ys) (.inr y) (.bool true) = bS (ys ++ [y]) := by
  have : hasG (bS ys) (.inr y) = false := by rw [has_bS]; exact decide_eq_false h
  unfold putG
  rw [if_neg]
  · unfold bS
    rw [List.map_append]
    rfl
  · rw [List.any_eq_true]
    rintro ⟨x, hx, e⟩
    unfold bS at hx
    obtain ⟨z, hz, rfl⟩ := List.mem_map.mp hx
    exact h (by rw [← Sum.inr.inj (of_decide_eq_true e)]; exact hz)
end
/-! ### walking lists of texts, of pairs -/
section
variable {K : PySem.W.Frag} {ρ : List Sl} {te : TE}
theorem ei_listS {zs : List Str} (h : EV K te ρ (.list (zs.map PyData.str))) : EI K (iSeqU K te) ρ zs.length (fun i => .str (zs.getD i Str.empty)) := by
  have e := ei_list h
  rw [List.length_map] at e
  exact ei_mono e fun i hi => getD_str hi
end
/-! ### plain lists -/
theorem nodup_le {α : Type} [DecidableEq α] : ∀ {l m : List α}, l.Nodup → (∀ x ∈ l, x ∈ m) → l.length ≤ m.length
  | [], _, _, _ => Nat.zero_le _
  | a :: l, m, nd, h => by
    obtain ⟨n1, n2⟩ := List.nodup_cons.mp nd
    have ha := h a (List.mem_cons_self ..)
    have := nodup_le (l := l) (m := m.erase a) n2 fun x hx => (List.mem_erase_of_ne fun e => n1 (by rw [← e]; exact hx)).mpr (h x (List.mem_cons_of_mem _ hx))
    rw [List.length_erase_of_mem ha] at this
    have h1 : 0 < m.length := List.length_pos_of_mem ha
    rw [List.length_cons]
    omega
theorem mem_srt {α : Type} {lt : α → α → Bool} {l : List α} {x : α} : x ∈ srt lt l ↔ x ∈ l := (srt_perm l).mem_iff
theorem lc_filterG {α : Type} {p : α → Bool} {h : α → D} (z : α) (rs : List α) : ∀ n, n ≤ rs.length → lcD n (fun i => p (rs.getD i z)) (fun i => h (rs.getD i z)) = ((rs.take n).filter p).map h
  | 0, _ => rfl
  | n + 1, hn => by
    unfold lcD
    rw [lc_filterG z rs n (by omega), List.take_succ, List.getElem?_eq_getElem (by omega), List.filter_append, List.map_append]
    have e1 : rs.getD n z = rs[n] := by rw [List.getD_eq_getElem?_getD, List.getElem?_eq_getElem (by omega)]; rfl
    show (if p (rs.getD n z) = true then _ ++ [h (rs.getD n z)] else _) = _
    rw [e1]
    show _ = _ ++ (([rs[n]] : List α).filter p).map h
    cases q : p rs[n] with
    | true =>
      rw [if_pos rfl, List.filter_cons_of_pos q]
      rfl
    | false =>
      rw [if_neg Bool.false_ne_true, List.filter_cons_of_neg (by rw [q]; exact Bool.false_ne_true)]
      show _ = _ ++ []
      rw [List.append_nil]
theorem lc_filterA {α : Type} {p : α → Bool} {h : α → D} (z : α) (rs : List α) : lcD rs.length (fun i => p (rs.getD i z)) (fun i => h (rs.getD i z)) = (rs.filter p).map h := by
  rw [lc_filterG z rs _ (Nat.le_refl _), List.take_length]
end DL
set_option maxHeartbeats 1000000
/-! DL18: in, not in of an owned dict. -/
namespace DL
open PySem PySem.Spec PyProof.Rows L2
end DL
set_option maxHeartbeats 1000000
/-! DL19: values that are told by a predicate (EVX ..): what a def answers that changes a list it was handed. -/
namespace DL
open PySem PySem.Spec PyProof.Rows L2
section
variable (K : PySem.W.Frag)
def EVX (te : TE) (ρ : List Sl) (Pd : D → Prop) : Prop := ∀ (G0 H0 G H : Hp) (σ : L2.St) (Q : VK), En K G0 H0 G H σ ρ → (∀ d v G' H', Pd d → Ext G H G' H' → Dq K G' v d → Q v H') → te σ H Q
def EVNX (te : TE) (ρ : List Sl) (Pd : D → Prop) : Prop := ∀ (G0 H0 G H : Hp) (σ : L2.St) (Q : VK), En K G0 H0 G H σ ρ → (∀ d l G' H', Pd d → Ext G H G' H' → H l = none → G' l = none → OwnC K G' H' l d → Q (.ref l) H') → te σ H Q
def EAX (ta : TA) (ρ : List Sl) (Pl : List D → Prop) : Prop := ∀ (G0 H0 G H : Hp) (σ : L2.St) (Q : List V → Hp → Prop), En K G0 H0 G H σ ρ → (∀ ds vs G' H', Pl ds → Ext G H G' H' → DqA K G' vs ds → Q vs H') → ta σ H Q
def ETX (tt : TT) (ρ : List Sl) (Pb : Bool → Prop) : Prop := ∀ (G0 H0 G H : Hp) (σ : L2.St) (Q : Bool → Hp → Prop), En K G0 H0 G H σ ρ → (∀ b G' H', Pb b → Ext G H G' H' → Q b H') → tt σ H Q
def EIX (wi : TI) (ρ : List Sl) (Pi : Nat → (Nat → D) → Prop) : Prop := ∀ (G0 H0 G H : Hp) (σ : L2.St) (R : It → Hp → Prop), En K G0 H0 G H σ ρ →
  (∀ n item J G' H' Gd Y, Pi n item → Ext G H G' H' → Walk J n Gd Y → (∀ G2 H2, (∀ a o, G' a = some o → G2 a = some o) → GH G2 H2 → Gd H2) →
    (∀ i G2 H2 x H3, i < n → (∀ a o, G' a = some o → G2 a = some o) → GH G2 H2 → Y i H2 x H3 → ∃ G3, Ext G2 H2 G3 H3 ∧ Dq K G3 x (item i)) → R J H') → wi σ H R
end
section
variable {K : PySem.W.Frag} {ρ : List Sl} {Ex : XK} {ta tb te : TE} {tt tu : TT} {t u : TS} {d : D} {P : Oc → Prop} {Pd Pa Pc : D → Prop} {Pl Pm : List D → Prop} {Pb Pe : Bool → Prop}
theorem evx_of (h : EV K te ρ d) (p : Pd d) : EVX K te ρ Pd := fun G0 H0 G H σ Q E q => h G0 H0 G H σ Q E fun v G' H' => q d v G' H' p
theorem evx_mono (h : EVX K te ρ Pa) (k : ∀ d, Pa d → Pd d) : EVX K te ρ Pd := fun G0 H0 G H σ Q E q => h G0 H0 G H σ Q E fun d v G' H' p => q d v G' H' (k d p)
theorem evx_N (h : EVNX K te ρ Pd) : EVX K te ρ Pd := fun G0 H0 G H σ Q E q => h G0 H0 G H σ Q E fun d l G' H' p x hH hG ho => by
  obtain ⟨G'', x', hd⟩ := own_frz x hH hG ho
  exact q d _ _ _ p x' hd
theorem evnx_of (h : EVN K te ρ d) (p : Pd d) : EVNX K te ρ Pd := fun G0 H0 G H σ Q E q => h G0 H0 G H σ Q E fun l G' H' => q d l G' H' p
theorem eax_of {t : TA} {ds : List D} (h : EA K t ρ ds) (p : Pl ds) : EAX K t ρ Pl := fun G0 H0 G H σ Q E q => h G0 H0 G H σ Q E fun vs G' H' => q ds vs G' H' p
theorem etx_of {b : Bool} (h : ET K tt ρ b) (p : Pb b) : ETX K tt ρ Pb := fun G0 H0 G H σ Q E q => h G0 H0 G H σ Q E fun G' H' => q b G' H' p
theorem eax_nil (p : Pl []) : EAX K tNil ρ Pl := eax_of ea_nil p
theorem eax_cons {tr : TA} (h : EVX K ta ρ Pa) (hr : EAX K tr ρ Pl) (k : ∀ d ds, Pa d → Pl ds → Pm (d :: ds)) : EAX K (tCons ta tr) ρ Pm := fun G0 H0 G H σ Q E q =>
  h G0 H0 G H σ _ E fun d x G1 H1 p e1 h1 => hr G0 H0 G1 H1 σ _ (E.go e1) fun ds xs G2 H2 p2 e2 h2 => q _ _ G2 H2 (k d ds p p2) (e1.trans e2) (.cons (h1.mono e2.g) h2)
theorem eax_one (h : EVX K ta ρ Pa) (k : ∀ d, Pa d → Pm [d]) : EAX K (tCons ta tNil) ρ Pm := eax_cons (Pl := fun ds => ds = []) h (eax_nil rfl) fun d ds p e => e ▸ k d p
theorem evx_op {r : R2} (ha : EVX K ta ρ Pa) (hb : EVX K tb ρ Pc) (ho : ∀ a b, Pa a → Pc b → ∃ d, OD K r a b d ∧ Pd d) : EVX K (tOp r ta tb) ρ Pd := fun G0 H0 G H σ Q E q =>
  ha G0 H0 G H σ _ E fun a x G1 H1 p1 e1 h1 => hb G0 H0 G1 H1 σ _ (E.go e1) fun b y G2 H2 p2 e2 h2 => by
    obtain ⟨d, hd, pd⟩ := ho a b p1 p2
    exact hd x y G2 H2 Q e2.gh (h1.mono e2.g) h2 fun v G3 H3 e3 h3 => q d v G3 H3 pd ((e1.trans e2).trans e3) h3
theorem evnx_op {r : R2} (ha : EVX K ta ρ Pa) (hb : EVX K tb ρ Pc) (ho : ∀ a b, Pa a → Pc b → ∃ d, ON K r a b d ∧ Pd d) : EVNX K (tOp r ta tb) ρ Pd := fun G0 H0 G H σ Q E q =>
  ha G0 H0 G H σ _ E fun a x G1 H1 p1 e1 h1 => hb G0 H0 G1 H1 σ _ (E.go e1) fun b y G2 H2 p2 e2 h2 => by
    obtain ⟨d, hd, pd⟩ := ho a b p1 p2
    exact hd x y G2 H2 Q e2.gh (h1.mono e2.g) h2 fun l G3 H3 e3 hH hG h3 => q d l G3 H3 pd ((e1.trans e2).trans e3) (e1.gone (e2.gone hH)) hG h3
theorem evx_cb {r : List V → Hp → VK → Prop} {t : TA} (h : EAX K t ρ Pl) (hc : ∀ ds, Pl ds → ∃ d, CD K r ds d ∧ Pd d) : EVX K (tCB r t) ρ Pd := fun G0 H0 G H σ Q E q =>
  h G0 H0 G H σ _ E fun ds xs G1 H1 p e1 h1 => by
    obtain ⟨d, hd, pd⟩ := hc ds p
    exact hd xs G1 H1 Q e1.gh h1 fun v G2 H2 e2 h2 => q d v G2 H2 pd (e1.trans e2) h2
theorem evx_tup {t : TA} (h : EAX K t ρ Pl) (hl : ∀ ds, Pl ds → ds.length ≤ sizeLine ∧ Pd (.tuple ds)) : EVX K (tTup t) ρ Pd := fun G0 H0 G H σ Q E q =>
  h G0 H0 G H σ _ E fun ds xs G1 H1 p e1 h1 => ⟨by rw [h1.length]; exact (hl ds p).1, fun a hp => by
    have x := Ext.new (o := .tup xs) e1.gh hp
    exact q _ _ _ _ (hl ds p).2 (e1.trans x) (.tup (SqT.of upd_same) (h1.mono x.g))⟩
theorem evnx_lst {t : TA} (h : EAX K t ρ Pl) (hl : ∀ ds, Pl ds → ds.length ≤ sizeLine ∧ Pd (.list ds)) : EVNX K (tLst t) ρ Pd := fun G0 H0 G H σ Q E q =>
  h G0 H0 G H σ _ E fun ds xs G1 H1 p e1 h1 => ⟨by rw [h1.length]; exact (hl ds p).1, fun a hp => by
    have x := Ext.fresh (o := .lst xs) e1.gh hp
    exact q _ _ _ _ (hl ds p).2 (e1.trans x) (e1.gone hp) (e1.gh.none hp) (.lst upd_same h1)⟩
theorem evx_callQ {Pre : List D → Prop} {Post : List D → D → Prop} {Ey : XK} {t : TA} (h : EAX K t ρ Pl) (hr : ∀ ds, Pl ds → Pre ds ∧ ∀ d, Post ds d → Pd d) : EVX K (tCall (PQ K Pre Post) [] Ey t) ρ Pd := fun G0 H0 G H σ Q E q =>
  h G0 H0 G H σ _ E fun ds vs G1 H1 p e1 h1 => by
    rw [List.append_nil]
    exact ⟨G1, ds, e1.gh, h1, (hr ds p).1, fun d v G2 H2 hd x hv => q d v G2 H2 ((hr ds p).2 d hd) (e1.trans x) hv⟩
/-! tests -/
theorem etx_test (h : EVX K te ρ Pd) (k : ∀ d, Pd d → ∃ b, d = .bool b ∧ Pb b) : ETX K (tTest te) ρ Pb := fun G0 H0 G H σ Q E q =>
  h G0 H0 G H σ _ E fun d v G1 H1 p e1 h1 => by
    obtain ⟨b, rfl, pb⟩ := k d p
    cases h1
    exact ⟨b, rfl, q b G1 H1 pb e1⟩
theorem etx_and (h : ETX K tt ρ Pb) (h2 : Pb true → ETX K tu ρ Pe) {Pf : Bool → Prop} (k1 : Pb false → Pf false) (k2 : ∀ b, Pb true → Pe b → Pf b) : ETX K (tAnd tt tu) ρ Pf := fun G0 H0 G H σ Q E q => h G0 H0 G H σ _ E fun a G1 H1 p e1 => by
  cases a with
  | true => exact h2 p G0 H0 G1 H1 σ Q (E.go e1) fun b G2 H2 p2 e2 => q b G2 H2 (k2 b p p2) (e1.trans e2)
  | false => exact q false G1 H1 (k1 p) e1
theorem evx_if (h : ETX K tt ρ Pb) (h1 : Pb true → EVX K ta ρ Pd) (h2 : Pb false → EVX K tb ρ Pd) : EVX K (tIf tt ta tb) ρ Pd := fun G0 H0 G H σ Q E q => h G0 H0 G H σ _ E fun b G1 H1 p e1 => by
  cases b with
  | true => exact h1 p G0 H0 G1 H1 σ Q (E.go e1) fun d v G2 H2 p2 e2 => q d v G2 H2 p2 (e1.trans e2)
  | false => exact h2 p G0 H0 G1 H1 σ Q (E.go e1) fun d v G2 H2 p2 e2 => q d v G2 H2 p2 (e1.trans e2)
/-! statements -/
theorem st_asgV {i : Nat} (h : EVX K te ρ Pd) (q : ∀ d, Pd d → P (.nx (ρ.set i (.fr d)))) : ST K Ex (tAsg te (gName i)) ρ P := fun G0 H0 G H σ D E f =>
  h G0 H0 G H σ _ E fun d v G' H' p x hd => f.nx _ _ G' H' (q d p) ((E.go x).setF i hd)
theorem q_asgV {i : Nat} (h : EVX K te ρ Pd) (q : ∀ d, Pd d → ST K Ex u (ρ.set i (.fr d)) P) : ST K Ex (tSeq (tAsg te (gName i)) u) ρ P := st_seq (st_asgV h q)
theorem st_asgNV {i : Nat} (h : EVNX K te ρ Pd) (q : ∀ d, Pd d → P (.nx (ρ.set i (.ow d)))) : ST K Ex (tAsg te (gName i)) ρ P := fun G0 H0 G H σ D E f =>
  h G0 H0 G H σ _ E fun d l G' H' p x hH hG ho => f.nx _ _ G' H' (q d p) (E.setN i x hH hG ho)
theorem q_asgNV {i : Nat} (h : EVNX K te ρ Pd) (q : ∀ d, Pd d → ST K Ex u (ρ.set i (.ow d)) P) : ST K Ex (tSeq (tAsg te (gName i)) u) ρ P := st_seq (st_asgNV h q)
theorem st_retV (h : EVX K te ρ Pd) (q : ∀ d, Pd d → P (.rt d)) : ST K Ex (tRet te) ρ P := fun G0 H0 G H σ D E f =>
  h G0 H0 G H σ _ E fun d v G' H' p x hd => f.rt d v G' H' (q d p) (E.go x).ext hd
theorem st_ifV (h : ETX K tt ρ Pb) (h1 : Pb true → ST K Ex t ρ P) (h2 : Pb false → ST K Ex u ρ P) : ST K Ex (tIfS tt t u) ρ P := fun G0 H0 G H σ D E f =>
  h G0 H0 G H σ _ E fun b G' H' p x => by
    cases b with
    | true => exact h1 p G0 H0 G' H' σ D (E.go x) f
    | false => exact h2 p G0 H0 G' H' σ D (E.go x) f
theorem q_whenV (h : ETX K tt ρ Pb) (h1 : Pb true → ST K Ex t ρ (seqP K Ex u P)) (h2 : Pb false → ST K Ex u ρ P) : ST K Ex (tSeq (tIfS tt t tNext) u) ρ P := st_seq (st_ifV h h1 fun hb => st_next (h2 hb))
theorem st_appendV {n : Nat} {ds : List D} (hi : ρ[n]? = some (.ow (.list ds))) (h : EVX K te ρ Pd) (hz : ds.length < 16000000) (q : ∀ d, Pd d → P (.nx (ρ.set n (.ow (.list (ds ++ [d])))))) :
    ST K Ex (tDrop (tBM K "list" rAppend (tVar n) (tCons te tNil))) ρ P := fun G0 H0 G H σ D E f => by
  obtain ⟨l, vs, h1, h2, h3, h0⟩ := own_lookG E hi
  refine ⟨_, h1, .inl ⟨rfl, vs, SqL.of h2⟩, h G0 H0 G H σ _ E fun d v G1 H1 p e1 hv => ?_⟩
  exact ⟨l, vs, v, rfl, rfl, e1.at h0 h2, by rw [h3.length, sizeLine_eq]; omega, f.nx _ _ _ _ (q d p) ((E.go e1).write hi h1 (.lst upd_same ((h3.mono e1.g).append (.one hv))))⟩
/-! loops -/
theorem eix_rng1 {t : TA} (h : EAX K t ρ Pl) {Pi : Nat → (Nat → D) → Prop} (k : ∀ ds, Pl ds → ∃ n : Int, ds = [.int n] ∧ -(2 ^ 62) ≤ n ∧ n < 2 ^ 62 ∧ Pi n.toNat (fun i => .int (i : Nat))) : EIX K (iRng1 t) ρ Pi := fun G0 H0 G H σ R E q =>
  h G0 H0 G H σ _ E fun ds vs G' H' p x hd => by
    obtain ⟨n, rfl, h1, h2, pi⟩ := k ds p
    cases hd with
    | cons a b =>
      cases b
      cases a
      refine ⟨n, rfl, h1, h2, q _ _ _ G' H' _ _ pi x walk_range (fun _ _ _ _ => trivial) fun i G2 H2 y H3 _ _ g hy => ?_⟩
      obtain ⟨rfl, rfl⟩ := hy
      refine ⟨G2, .refl g, ?_⟩
      show Dq K G2 (.int (0 + (i : Nat))) (.int (i : Nat))
      rw [Int.zero_add]
      exact .int _
theorem st_forV {wi : TI} {g : TG} {Pi : Nat → (Nat → D) → Prop} (hi : EIX K wi ρ Pi)
    (hI : ∀ n item, Pi n item → ∃ I : Nat → List Sl → Prop, I 0 ρ ∧ (∀ i ρ1, i < n → I i ρ1 → ∃ ρ2 ts, GT K g ρ1 (item i) ρ2 ts ∧ ST K Ex t ρ2 (loopP (I (i + 1)) P)) ∧ ∀ ρ1, I n ρ1 → P (.nx ρ1)) : ST K Ex (tFor wi g t) ρ P := fun G0 H0 G H σ D E f =>
  hi G0 H0 G H σ _ E fun n item J G1 H1 Gd Y p x w hG hY => by
    obtain ⟨I, h0, hs, hd⟩ := hI n item p
    have E1 := E.go x
    refine for_it w (fun i σ' H' => ∃ G' ρ', En K G1 H0 G' H' σ' ρ' ∧ I i ρ') ⟨G1, ρ, E1.re, h0⟩ (fun i σ' H' _ ⟨G', ρ', E', _⟩ => hG G' H' E'.ext.gg E'.gh) (fun i y σ' H' H3 hi ⟨G', ρ', E', p⟩ hy => ?_) (fun σ' H' ⟨G', ρ', E', p⟩ => f.nx ρ' σ' G' H' (hd ρ' p) (E'.back E1.ext))
    obtain ⟨G3, x3, hdq⟩ := hY i G' H' y H3 hi E'.ext.gg E'.gh hy
    obtain ⟨ρ2, ts, hg, hb⟩ := hs i ρ' hi p
    exact hg G1 H0 G3 H3 σ' y _ (E'.go x3) hdq fun σ2 E2 _ _ => hb G1 H0 G3 H3 σ2 _ E2 ⟨fun ρ4 σ4 G4 H4 p4 E4 => ⟨G4, ρ4, E4, p4⟩,
      fun d v G4 H4 p4 x4 hd4 => f.rt d v G4 H4 p4 (E1.ext.back x4) hd4, fun ρ4 σ4 G4 H4 p4 E4 => f.nx ρ4 σ4 G4 H4 p4 (E4.back E1.ext), fun ρ4 σ4 G4 H4 p4 E4 => ⟨G4, ρ4, E4, p4⟩,
      fun C fl dd fs G4 H4 p4 x4 h1 h2 => f.ex C fl dd fs G4 H4 p4 (E1.ext.back x4) h1 h2⟩
end
end DL
set_option maxHeartbeats 1000000
/-! DL20: a list [int, list of ints, int, int] that defs change (stD), lists of ints that defs change (opD); abs, max, min; sorted lists of ints. -/
namespace DL
open PySem PySem.Spec PyProof.Rows L2
theorem GH.only {H : Hp} (h : Only H) : GH H H := GH.refl fun a u e => by
  rcases h a with z | ⟨o, xs, z⟩
  · rw [z] at e
    cases e
  · rw [z] at e
    cases e
    rfl
theorem b_abs : bootBuiltins "abs" = some (.builtin "abs") := by decide +kernel
theorem b_max : bootBuiltins "max" = some (.builtin "max") := by decide +kernel
theorem b_min : bootBuiltins "min" = some (.builtin "min") := by decide +kernel
def rAbs : List V → Hp → VK → Prop := fun xs H Q => ∃ i, xs = [.int i] ∧ Q (.int (if i < 0 then -i else i)) H
def rMax2 : List V → Hp → VK → Prop := fun xs H Q => ∃ i j, xs = [.int i, .int j] ∧ Q (.int (if j > i then j else i)) H
def rMin2 : List V → Hp → VK → Prop := fun xs H Q => ∃ i j, xs = [.int i, .int j] ∧ Q (.int (if j < i then j else i)) H
theorem call_absI {X : Cx} : CallR X (.builtin "abs") rAbs := call_abs
theorem call_maxI {X : Cx} (hc : X.calm = true) : CallR X (.builtin "max") rMax2 := call_max2 hc
theorem call_minI {X : Cx} (hc : X.calm = true) : CallR X (.builtin "min") rMin2 := call_min2 hc
section
variable {K : PySem.W.Frag}
theorem cd_abs {i : Int} : CD K rAbs [.int i] (.int (if i < 0 then -i else i)) := fun xs G H Q g hx q => by
  cases hx with
  | cons a b => cases a; cases b; exact ⟨i, rfl, q _ G H (.refl g) (.int _)⟩
theorem cd_max {i j : Int} : CD K rMax2 [.int i, .int j] (.int (max i j)) := fun xs G H Q g hx q => by
  cases hx with
  | cons a b =>
    cases a
    cases b with
    | cons a b =>
      cases a; cases b
      have e : (if j > i then j else i) = max i j := by split <;> omega
      exact ⟨i, j, rfl, by rw [e]; exact q _ G H (.refl g) (.int _)⟩
theorem cd_min {i j : Int} : CD K rMin2 [.int i, .int j] (.int (min i j)) := fun xs G H Q g hx q => by
  cases hx with
  | cons a b =>
    cases a
    cases b with
    | cons a b =>
      cases a; cases b
      have e : (if j < i then j else i) = min i j := by split <;> omega
      exact ⟨i, j, rfl, by rw [e]; exact q _ G H (.refl g) (.int _)⟩
theorem ints_dq {G : Hp} : ∀ {ns : List Int} {vs : List V}, DqA K G vs (ns.map PyData.int) → vs = ns.map V.int
  | [], _, h => by cases h; rfl
  | n :: ns, _, h => by
    cases h with
    | cons a b => cases a; rw [ints_dq b]; rfl
theorem dq_ints {G : Hp} : ∀ ns : List Int, DqA K G (ns.map V.int) (ns.map PyData.int)
  | [] => .nil
  | n :: ns => .cons (.int n) (dq_ints ns)
end
section
variable {K : PySem.W.Frag} {ρ : List Sl} {Ex : XK} {ta tb te : TE} {tt : TT} {u : TS} {d : D} {P : Oc → Prop} {Pd : D → Prop} {Pl : List D → Prop}
/-- sorted of a list of ints -/
theorem evnx_sortI {t : TA} (h : EAX K t ρ Pl) (k : ∀ ds, Pl ds → ∃ ns : List Int, ds = [.list (ns.map PyData.int)] ∧ ns.length < 64 ∧ ∀ ms : List Int, ms.Perm ns → ms.Pairwise (· ≤ ·) → Pd (.list (ms.map PyData.int))) : EVNX K (tCB (rSorted K) t) ρ Pd := fun G0 H0 G H σ Q E q =>
  h G0 H0 G H σ _ E fun ds vs G1 H1 p e1 h1 => by
    obtain ⟨ns, rfl, hl, pd⟩ := k ds p
    cases h1 with
    | cons a b =>
      cases b
      cases a with
      | @lst a xs _ ha hr =>
        have := ints_dq hr
        subst this
        exact ⟨a, ns, rfl, SqL.of (e1.gh.lst ha), hl, fun ms p hp hw hn => q _ p G1 _ (pd ms hp hw) (e1.trans (.fresh e1.gh hn)) (e1.gone hn) (e1.gh.none hn) (.lst upd_same (dq_ints ms))⟩
/-! ### marks -/
abbrev stD : D := .dict [(.bool true, .none)]
abbrev rwD (a : Addr) : D := .dict [(.bool true, .int ((a : Nat) : Int))]
theorem st_inv {G : Hp} {v : V} (h : Dq K G v stD) : ∃ l r, v = .ref l ∧ G l = some (.own r) ∧ G r = some (.rng 0 0) := by
  replace h : Dq K G v (.dict [(.bool true, .none)]) := h
  generalize e : [(PyData.bool true, PyData.none)] = ls at h
  cases h with
  | dK a b =>
    cases b with
    | nil => cases e
    | cons a b =>
      injection e with e1 _
      injection e1 with e1 _
      exact (kD_bool e1.symm).elim
  | dT a b => injection e with e1 _; injection e1 with e1 _; cases e1
  | scr a => injection e with e1 _; injection e1 with e1 _; cases e1
  | sta a b => exact ⟨_, _, rfl, a, b⟩
  | opq a => injection e with e1 _; injection e1 with e1 _; cases e1
  | raw a => injection e with e1 _; injection e1 with _ e1; cases e1
theorem mk_at {G H : Hp} (g : GH G H) {a : Addr} {u : HO} (h : G a = some u) (hm : isMk u = true) : stH u H a := by
  rcases g a u h with ⟨_, z⟩ | ⟨d, _⟩ | z
  · rw [hm] at z
    cases z
  · cases u <;> first | (cases d; done) | (cases hm; done)
  · exact z
theorem st_at {G H : Hp} (g : GH G H) {l r : Addr} (h : G l = some (.own r)) (k : G r = some (.rng 0 0)) : ∃ (x y z : Int) (ns : List Int), H l = some (.lst [.int x, .ref r, .int y, .int z]) ∧ H r = some (.lst (ns.map V.int)) := by
  obtain ⟨x, y, z, e⟩ := mk_at g h rfl
  obtain ⟨ns, e2, _⟩ := mk_at g k rfl
  exact ⟨x, y, z, ns, e, e2⟩
theorem Ext.wr {G H : Hp} {a : Addr} {u o : HO} (g : GH G H) (hm : G a = some u) (mk : isMk u = true) (h : stH u (upd H a o) a) : Ext G H G (upd H a o) := by
  refine ⟨fun _ _ z => z, fun b w e => ?_, fun b w e => ?_, fun _ _ _ _ n => n⟩
  · by_cases hb : b = a
    · exact .inr ⟨u, by rw [hb]; exact hm, mk⟩
    · exact .inl (by rw [upd_ne hb]; exact e)
  · by_cases hb : b = a
    · subst hb
      rw [hm] at e
      cases e
      exact .inr (.inr h)
    · exact (g b w e).eq (upd_ne hb)
/-- s[0], s[2], s[3] -/
theorem evx_stI {k : Int} (h : EV K ta ρ stD) (hb : EV K tb ρ (.int k)) (hk : k = 0 ∨ k = 2 ∨ k = 3) (p : ∀ i : Int, Pd (.int i)) : EVX K (tOp (rIx K) ta tb) ρ Pd := fun G0 H0 G H σ Q E q =>
  h G0 H0 G H σ _ E fun v G1 H1 e1 h1 => hb G0 H0 G1 H1 σ _ (E.go e1) fun w G2 H2 e2 h2 => by
    cases h2
    obtain ⟨l, r, rfl, a1, a2⟩ := st_inv (h1.mono e2.g)
    obtain ⟨x, y, z, ns, b1, b2⟩ := st_at e2.gh a1 a2
    refine .inl ⟨l, _, k, .int (if k = 0 then x else if k = 2 then y else z), rfl, rfl, SqL.of b1, ?_, q _ _ _ _ (p _) (e1.trans e2) (.int _)⟩
    rcases hk with rfl | rfl | rfl <;> rfl
/-- if s[0] == 0 and len(s[1]) > 0: s[0] = s[1].pop(0) -/
theorem st_stPop {n : Nat} (hi : ρ[n]? = some (.fr stD)) (q : P (.nx ρ)) :
    ST K Ex (tIfS (tAnd (tTest (tOp (rEqU K) (tOp (rIx K) (tVar n) (tC (.int 0))) (tC (.int 0)))) (tTest (tOp rGtU (tCB (rLen K) (tCons (tOp (rIx K) (tVar n) (tC (.int 1))) tNil)) (tC (.int 0))))) (tAsg (tBM K "list" rPopAt (tOp (rIx K) (tVar n) (tC (.int 1))) (tCons (tC (.int 0)) tNil)) (gSub (tVar n) (tC (.int 0)) rSetL)) tNext) ρ P := fun G0 H0 G H σ D E f => by
  obtain ⟨v, h1, h2⟩ := E.fr n _ hi
  obtain ⟨l, r, rfl, a1, a2⟩ := st_inv h2
  obtain ⟨x, y, z, ns, b1, b2⟩ := st_at E.gh a1 a2
  have hlr : l ≠ r := fun e => by
    rw [e, a2] at a1
    cases a1
  -- the test: s[0] == 0
  refine ⟨_, h1, .inl ⟨l, _, 0, .int x, rfl, rfl, SqL.of b1, rfl, .inl ⟨rfl, decide (x = 0), congrArg V.bl (by rw [dec_int, Bool.eq_iff_iff]; simp), ?_⟩⟩⟩
  by_cases hx : x = 0
  · rw [decide_eq_true hx]
    dsimp only
    rw [if_pos rfl]
    refine ⟨_, h1, .inl ⟨l, _, 1, .ref r, rfl, rfl, SqL.of b1, rfl, _, _, rfl, .inl ⟨_, SqL.of b2, rfl⟩, .inl ⟨_, _, rfl, rfl, _, rfl, ?_⟩⟩⟩
    dsimp only
    by_cases hn : (0 : Int) < ((ns.map V.int).length : Nat)
    · rw [if_pos (decide_eq_true hn)]
      cases ns with
      | nil => exact absurd hn (by decide)
      | cons m ms =>
        refine ⟨_, h1, .inl ⟨l, _, 1, .ref r, rfl, rfl, SqL.of b1, rfl, .inl ⟨rfl, _, SqL.of b2⟩, ?_⟩⟩
        refine ⟨r, _, 0, 0, .int m, rfl, rfl, b2, by decide, by decide, by simp [seqIndex?], rfl, ?_⟩
        have x1 : Ext G H G (upd H r (.lst ((V.int m :: ms.map V.int).eraseIdx 0))) := Ext.wr E.gh a2 rfl ⟨ms, upd_same, fun z => by cases z⟩
        have E1 := E.go x1
        refine ⟨_, h1, l, _, 0, 0, rfl, rfl, (upd_ne hlr).trans b1, rfl, ?_⟩
        have x2 : Ext G _ G (upd (upd H r (.lst ((V.int m :: ms.map V.int).eraseIdx 0))) l (.lst ([V.int x, .ref r, .int y, .int z].set 0 (.int m)))) := Ext.wr E1.gh a1 rfl ⟨m, y, z, upd_same⟩
        exact f.nx ρ σ G _ q (E1.go x2)
    · rw [if_neg (by rw [decide_eq_true_eq]; exact hn)]
      exact f.nx ρ σ G H q E
  · rw [decide_eq_false hx]
    simp only [Bool.false_eq_true, if_false]
    exact f.nx ρ σ G H q E
/-- s[k] = e -/
theorem st_stSet {n : Nat} {k : Int} (hi : ρ[n]? = some (.fr stD)) (hk : k = 0 ∨ k = 2 ∨ k = 3) (h : EVX K te ρ Pd) (hd : ∀ d, Pd d → ∃ i : Int, d = .int i) (q : P (.nx ρ)) : ST K Ex (tAsg te (gSub (tVar n) (tC (.int k)) rSetL)) ρ P := fun G0 H0 G H σ D E f =>
  h G0 H0 G H σ _ E fun d v G1 H1 p e1 hv => by
    obtain ⟨i, rfl⟩ := hd d p
    cases hv
    have E1 := E.go e1
    obtain ⟨v, h1, h2⟩ := E1.fr n _ hi
    obtain ⟨l, r, rfl, a1, a2⟩ := st_inv h2
    obtain ⟨x, y, z, ns, b1, b2⟩ := st_at E1.gh a1 a2
    refine ⟨_, h1, l, _, k, k.toNat, rfl, rfl, b1, by rcases hk with rfl | rfl | rfl <;> rfl, f.nx ρ σ G1 _ q (E1.go (Ext.wr E1.gh a1 rfl ?_))⟩
    rcases hk with rfl | rfl | rfl
    · exact ⟨i, y, z, upd_same⟩
    · exact ⟨x, i, z, upd_same⟩
    · exact ⟨x, y, i, upd_same⟩
end
end DL
set_option maxHeartbeats 1000000
/-! DL21: such lists made, asked, lengthened. -/
namespace DL
open PySem PySem.Spec PyProof.Rows L2
def rGetN (K : PySem.W.Frag) : V → V → Hp → VK → Prop := fun x y H Q => ∃ p xs, ∃ i : Nat, ∃ v, x = .ref p ∧ y = .int (i : Int) ∧ SqL K H p xs ∧ xs[i]? = some v ∧ Q v H
theorem get_ixN {X : Cx} : PGet X (rGetN X.K) := by
  intro pins s σ H o i ov iv Q I ro ri h
  obtain ⟨p, xs, k, v, rfl, rfl, hq, hv, q⟩ := h
  cases ro
  obtain ⟨t, rfl⟩ := ri
  obtain ⟨its, r, pl, hz⟩ := I.list hq
  obtain ⟨w, ew, rw'⟩ := r.get hv
  have hl := r.length
  have hk : k < xs.length := (List.getElem?_eq_some_iff.mp hv).1
  have hn := line63
  exact wpAny_getItem_list pl.isList (Int.natCast_nonneg k) (by omega) (by rw [Int.toNat_natCast]; simpa using ew) ⟨v, H, I, rw', q⟩
theorem inV_int {x : Int} : ∀ ns : List Int, inV (.int x) (ns.map V.int) = decide (x ∈ ns)
  | [] => rfl
  | n :: ns => by
    have ih := inV_int (x := x) ns
    unfold inV at ih ⊢
    rw [List.map_cons, List.any_cons, ih, Bool.eq_iff_iff]
    show ((n == x) || decide (x ∈ ns)) = true ↔ _
    rw [Bool.or_eq_true, decide_eq_true_eq, decide_eq_true_eq, List.mem_cons, beq_iff_eq]
    exact ⟨fun h => h.imp Eq.symm id, fun h => h.imp Eq.symm id⟩
theorem okL.len {lo : Int} {ns : List Int} (h : okL lo ns) : ns.length ≤ 5010001 := by
  obtain ⟨h0, h1, h2, h3⟩ := h
  have h4 : (ns.drop lo.toNat).length ≤ 10001 := by
    have := nodup_le (l := ns.drop lo.toNat) (m := (List.range 10001).map Int.ofNat) h2 fun x hx => by
      obtain ⟨a, b⟩ := h3 x hx
      exact List.mem_map.mpr ⟨x.toNat, List.mem_range.mpr (by omega), by show ((x.toNat : Nat) : Int) = x; omega⟩
    rw [List.length_map, List.length_range] at this
    exact this
  rw [List.length_drop] at h4
  omega
theorem okL.push {lo : Int} {ns : List Int} {x : Int} (h : okL lo ns) (hl : lo.toNat ≤ ns.length ∨ True) (hx : 0 ≤ x ∧ x ≤ 10000) (hn : x ∉ ns) : okL lo (ns ++ [x]) := by
  obtain ⟨h0, h1, h2, h3⟩ := h
  refine ⟨h0, h1, ?_, fun n hm => ?_⟩
  · rw [List.drop_append]
    refine List.nodup_append.mpr ⟨h2, (List.nodup_cons.mpr ⟨fun h => (by cases h), List.nodup_nil⟩ : [x].Nodup).sublist (List.drop_sublist _ _), fun a ha b hb e => hn ?_⟩
    have hb := List.mem_of_mem_drop hb
    rw [List.mem_singleton.mp hb] at e
    rw [← e]
    exact List.mem_of_mem_drop ha
  · rw [List.drop_append] at hm
    rcases List.mem_append.mp hm with m | m
    · exact h3 n m
    · rw [List.mem_singleton.mp (List.mem_of_mem_drop m)]
      exact hx
section
variable {K : PySem.W.Frag} {ρ : List Sl} {Ex : XK} {ta tb te tl : TE} {tt : TT} {t u : TS} {d : D} {P : Oc → Prop} {Pd : D → Prop} {Pl : List D → Prop}
theorem ev_stNew {a c s : Int} (h : EVNX K tl ρ fun d => ∃ ns : List Int, d = .list (ns.map PyData.int)) (hb : EV K tb ρ (.int s)) : EV K (tLst (tCons (tC (.int a)) (tCons tl (tCons tb (tCons (tC (.int c)) tNil))))) ρ stD := fun G0 H0 G H σ Q E q =>
  h G0 H0 G H σ _ E fun d r G1 H1 p e1 hr hrG ho => by
    obtain ⟨ns, rfl⟩ := p
    cases ho with
    | @lst us _ hl hq =>
      have := ints_dq hq
      subst this
      refine hb G0 H0 G1 H1 σ _ (E.go e1) fun v G2 H2 e2 h2 => ?_
      cases h2
      refine ⟨by show 4 ≤ sizeLine; rw [sizeLine_eq]; decide, fun p hp => ?_⟩
      have hl2 := e2.at hrG hl
      have hrG2 := e2.own _ _ hl rfl hrG
      have hpr : r ≠ p := fun z => by rw [z, hp] at hl2; cases hl2
      have e12 := e1.trans e2
      have hpG : G2 p = none := e2.gh.none hp
      let G3 : Hp := upd (upd G2 r (.rng 0 0)) p (.own r)
      have g3r : G3 r = some (.rng 0 0) := (upd_ne hpr).trans upd_same
      have x : Ext G H G3 (upd H2 p (.lst [.int a, .ref r, .int s, .int c])) := by
        refine ⟨fun b w z => ?_, fun b w z => ?_, fun b w z => ?_, fun b w z t n => ?_⟩
        · have z2 := e12.gg b w z
          show upd (upd G2 r (.rng 0 0)) p (.own r) b = _
          rw [upd_ne (ne_of_none z2 hpG), upd_ne (ne_of_none z2 hrG2)]
          exact z2
        · rw [upd_ne (ne_of_none z (e12.gone hp))]
          exact e12.hh b w z
        · by_cases hbp : b = p
          · subst hbp
            have : G3 b = some (.own r) := upd_same
            rw [this] at z
            cases z
            exact .inr (.inr ⟨a, s, c, upd_same⟩)
          · have z2 : upd G2 r (.rng 0 0) b = some w := (upd_ne hbp).symm.trans z
            by_cases hbr : b = r
            · subst hbr
              rw [upd_same] at z2
              cases z2
              exact .inr (.inr ⟨ns, (upd_ne hbp).trans hl2, fun z => by cases z⟩)
            · rw [upd_ne hbr] at z2
              exact (e2.gh b w z2).eq (upd_ne hbp)
        · show upd (upd G2 r (.rng 0 0)) p (.own r) b = _
          rw [upd_ne (ne_of_none z (e12.gone hp)), upd_ne (ne_of_none z hr)]
          exact e12.own b w z t n
      exact q _ _ _ x (.sta upd_same g3r)
/-- s[3] += e -/
theorem st_stAug {n : Nat} {i : Int} (hi : ρ[n]? = some (.fr stD)) (q : P (.nx ρ)) : ST K Ex (tAugS (tVar n) (tC (.int 3)) (tC (.int i)) (rGetN K) rIAddU rSetL) ρ P := fun G0 H0 G H σ D E f => by
  obtain ⟨v, h1, h2⟩ := E.fr n _ hi
  obtain ⟨l, r, rfl, a1, a2⟩ := st_inv h2
  obtain ⟨x, y, z, ns, b1, b2⟩ := st_at E.gh a1 a2
  refine ⟨_, h1, l, _, 3, .int z, rfl, rfl, SqL.of b1, rfl, .inl ⟨z, i, rfl, rfl, l, _, 3, 3, rfl, rfl, b1, rfl, f.nx ρ σ G _ q (E.go (Ext.wr E.gh a1 rfl ⟨x, y, z + i, upd_same⟩))⟩⟩
end
end DL
set_option maxHeartbeats 1000000
/-! DL22: sorted of a list of pairs of texts, of any length; d[x], x a pair of texts; zip; dict displays. -/
namespace DL
open PySem PySem.Spec PyProof.Rows L2
theorem IsPS.inj {h : Heap} {v : Value} {p q : Str × Str} (x : IsPS h v p) (y : IsPS h v q) : p = q := by
  obtain ⟨a, o, t, u, n, rfl, ho, _, hd⟩ := x
  obtain ⟨b, o', t', u', n', e, ho', _, hd'⟩ := y
  cases e
  rw [ho] at ho'
  cases ho'
  rw [hd] at hd'
  injection hd' with e _
  have e := congrArg Array.toList e
  injection e with e1 e2
  injection e2 with e2 _
  injection e1 with e1 _
  injection e2 with e2 _
  exact Prod.ext e1 e2
theorem ref_vals : ∀ {as : List Addr} {us : List Value}, Vals (as.map V.ref) us → us = as.map Value.ref
  | [], _, h => by cases h; rfl
  | a :: as, _, h => by
    cases h with
    | cons x r =>
      cases x
      rw [ref_vals r]
      rfl
def adV : Value → Addr
  | .ref a => a
  | _ => 0
end DL
set_option maxHeartbeats 1000000
/-! DL23: d[x], x a pair of texts; zip of tuples; dict displays; list(d) walked, d a dict with keys that are pairs. -/
namespace DL
open PySem PySem.Spec PyProof.Rows L2 RZ
end DL
set_option maxHeartbeats 1000000
/-! DL24: defs that answer a new list that the caller may change; boxes.append(rest.pop(i)). -/
namespace DL
open PySem PySem.Spec PyProof.Rows L2
/-- what a def answers: a new list | dict, told by a word about it -/
def PN (K : PySem.W.Frag) (Pre : List D → Prop) (Post : List D → D → Prop) : Sp := fun vs H Q _ => ∃ G ds, GH G H ∧ DqA K G vs ds ∧ Pre ds ∧ ∀ d l G' H', Post ds d → Ext G H G' H' → H l = none → G' l = none → OwnC K G' H' l d → Q (.ref l) H'
/-- a body that ends with the return of an own value -/
def STN (K : PySem.W.Frag) (t : TS) (ρ : List Sl) (Post : D → Prop) : Prop := ∀ (G0 H0 G H : Hp) (σ : L2.St) (Dn : Ends), En K G0 H0 G H σ ρ → (∀ d l G' H', Post d → Ext G0 H0 G' H' → H0 l = none → G' l = none → OwnC K G' H' l d → Dn.rt (.ref l) H') → t Dn σ H
section
variable {K : PySem.W.Frag} {ρ : List Sl} {Ex : XK} {ta tb te : TE} {t u : TS} {d : D} {P : Oc → Prop} {Pd : D → Prop} {Post : D → Prop}
theorem stn_seq (h : ST K Ex t ρ (fun o => ∃ ρ', o = .nx ρ' ∧ STN K u ρ' Post)) : STN K (tSeq t u) ρ Post := fun G0 H0 G H σ Dn E q =>
  h G0 H0 G H σ _ E ⟨(fun _ σ' G' H' ⟨ρ'', e, s⟩ E' => by cases e; exact s G0 H0 G' H' σ' Dn E' q), (fun _ _ _ _ ⟨_, e, _⟩ _ => nomatch e), (fun _ _ _ _ ⟨_, e, _⟩ _ => nomatch e), (fun _ _ _ _ ⟨_, e, _⟩ _ => nomatch e), (fun _ _ _ _ _ _ ⟨_, e, _⟩ => nomatch e)⟩
theorem stn_ret {n : Nat} (hi : ρ[n]? = some (.ow d)) (p : Post d) : STN K (tRet (tVar n)) ρ Post := fun G0 H0 G H σ Dn E q => by
  obtain ⟨l, h1, h2, h3, h4⟩ := E.ow n d hi
  exact ⟨_, h1, q d l G H p E.ext h2 h3 h4⟩
theorem evnx_callN {Pre : List D → Prop} {Po : List D → D → Prop} {Ey : XK} {t : TA} {ds : List D} (h : EA K t ρ ds) (hp : Pre ds) : EVNX K (tCall (PN K Pre Po) [] Ey t) ρ (Po ds) := fun G0 H0 G H σ Q E q =>
  h G0 H0 G H σ _ E fun vs G1 H1 e1 h1 => by
    rw [List.append_nil]
    exact ⟨G1, ds, e1.gh, h1, hp, fun d l G2 H2 hd x hH hG ho => q d l G2 H2 hd (e1.trans x) (e1.gone hH) hG ho⟩
theorem dqa_erase {G : Hp} {us : List V} {es : List D} (h : DqA K G us es) (i : Nat) : DqA K G (us.eraseIdx i) (es.eraseIdx i) := by
  rw [List.eraseIdx_eq_take_drop_succ, List.eraseIdx_eq_take_drop_succ]
  exact (h.take i).append (h.drop (i + 1))
/-- ps.append(qs.pop(i)) -/
theorem st_appPop {p q : Nat} {ds es : List D} (hp : ρ[p]? = some (.ow (.list ds))) (hq : ρ[q]? = some (.ow (.list es))) (hpq : q ≠ p) (h : EVX K te ρ Pd) (hz : ds.length < 16000000) (he : es.length ≤ 16000000)
    (k : ∀ d, Pd d → ∃ i : Nat, d = .int (i : Int) ∧ i < es.length ∧ ∀ e, es[i]? = some e → P (.nx ((ρ.set q (.ow (.list (es.eraseIdx i)))).set p (.ow (.list (ds ++ [e])))))) :
    ST K Ex (tDrop (tBM K "list" rAppend (tVar p) (tCons (tBM K "list" rPopAt (tVar q) (tCons te tNil)) tNil))) ρ P := fun G0 H0 G H σ D E f => by
  obtain ⟨l, vs, h1, h2, h3, h0⟩ := own_lookG E hp
  obtain ⟨m, us, g1, g2, g3, g0⟩ := own_lookG E hq
  have hlm : l ≠ m := fun z => hpq (E.dis q p _ _ l hq hp (z ▸ g1) h1)
  refine ⟨_, h1, .inl ⟨rfl, vs, SqL.of h2⟩, _, g1, .inl ⟨rfl, us, SqL.of g2⟩, h G0 H0 G H σ _ E fun d w G1 H1 pd e1 hw => ?_⟩
  obtain ⟨i, rfl, hi, kk⟩ := k d pd
  cases hw
  have hi' : i < us.length := by rw [g3.length]; exact hi
  obtain ⟨e, he1, he2⟩ := (g3.mono e1.g).got (List.getElem?_eq_getElem hi')
  refine ⟨m, us, i, i, us[i], rfl, rfl, e1.at g0 g2, by omega, by rw [g3.length] at hi'; omega, (ixN_seq ((ixN_nn (by omega) (by omega)).trans (congrArg some (Int.toNat_natCast i)))).1, List.getElem?_eq_getElem hi', ?_⟩
  have E1 := (E.go e1).write hq g1 (o := .lst (us.eraseIdx i)) (d' := .list (es.eraseIdx i)) (.lst upd_same (dqa_erase (g3.mono e1.g) i))
  have hp' : (ρ.set q (.ow (.list (es.eraseIdx i))))[p]? = some (.ow (.list ds)) := by rw [List.getElem?_set_ne hpq]; exact hp
  exact ⟨l, vs, us[i], rfl, rfl, (upd_ne hlm).trans (e1.at h0 h2), by rw [h3.length, sizeLine_eq]; omega, f.nx _ _ _ _ (kk e he1) (E1.write hp' h1 (.lst upd_same ((h3.mono e1.g).append (.one he2))))⟩
end
section
variable {P : Program} {w : World} {K : PySem.W.Frag} {mg : Str → Option Value} {base : Heap}
theorem fn_pn {x qual : Str} {params : Arguments} {body : List Stmt} {scope : Scope} {f : Addr} {fd : FuncData} {N ps : List Str} {k : Nat} {Pre : List D → Prop} {Post : List D → D → Prop} (F : FunD K x qual params body scope [] [] f fd) (S : FnScope N ps scope)
    (len : ∀ ds, Pre ds → ds.length = ps.length)
    (hb : ∀ (cdv : Value) (A : Around) (outer : List PySem.Env) (s : Shared) (H : Hp) (E : XK), Room k (A.deeper (envOfC qual scope s.heap.objs.size f cdv)) →
      ∃ t, PSs (cxOf CX0 P w K mg base N qual scope f cdv A outer s H E) body t ∧ ∀ ds, Pre ds → STN K t (start0 N.length ds) (Post ds)) : FnOk P w K mg base CX0 (k + 1) f fd ps (PN K Pre Post) := by
  refine F.ok S (fun vs H Q E h => ?_) (fun cdv A outer s H vs Q E hr h => ?_)
  · obtain ⟨G, ds, g, ha, hR, q⟩ := h
    exact ha.length.trans (len ds hR)
  · obtain ⟨t, h1, h2⟩ := hb cdv A outer s H E hr
    obtain ⟨G, ds, g, ha, hR, q⟩ := h
    exact ⟨t, h1, h2 ds hR G H G H _ _ (en_start g ha) q⟩
end
end DL
set_option maxHeartbeats 1000000
/-! DL25: counting points: a dict whose keys are pairs of ints, d[p] = d.get(p, 0) + 1; any, sum of lists. -/
namespace DL
open PySem PySem.Spec PyProof.Rows L2
def cnt (ps : List ((Int × Int) × Int)) (k : Int × Int) : Int := ((ps.find? fun p => decide (p.1 = k)).map (·.2)).getD 0
end DL
set_option maxHeartbeats 1000000
/-! DL26: any, sum of lists; the values of a dict with tuple keys; for k in list(d), d a dict with tuple keys, with a return within; d[k], k a tuple. -/
namespace DL
open PySem PySem.Spec PyProof.Rows L2
end DL
set_option maxHeartbeats 1000000
/-! DL27: d.values() of a dict whose keys are tuples. -/
namespace DL
open PySem PySem.Spec PyProof.Rows L2
end DL
set_option maxHeartbeats 1000000
/-! DL28: return any([.. for x in d.values()]). -/
namespace DL
open PySem PySem.Spec PyProof.Rows L2
end DL
set_option maxHeartbeats 1000000
/-! DL29: a < b < c < d. -/
namespace DL
open PySem PySem.Spec PyProof.Rows L2
end DL
set_option maxHeartbeats 1000000
/-! DL30: a def that is lent two lists of ints and puts more into them. -/
namespace DL
open PySem PySem.Spec PyProof.Rows L2
theorem rw_inv {K : PySem.W.Frag} {G : Hp} {v : V} {l : Addr} (h : Dq K G v (rwD l)) : v = .ref l := by
  replace h : Dq K G v (.dict [(.bool true, .int ((l : Nat) : Int))]) := h
  generalize e : [(PyData.bool true, PyData.int ((l : Nat) : Int))] = ls at h
  cases h with
  | dK a b =>
    cases b with
    | nil => cases e
    | cons a b =>
      injection e with e1 _
      injection e1 with e1 _
      exact (kD_bool e1.symm).elim
  | dT a b => injection e with e1 _; injection e1 with e1 _; cases e1
  | scr a => injection e with e1 _; injection e1 with e1 _; cases e1
  | sta a b => injection e with e1 _; injection e1 with _ e1; cases e1
  | opq a => injection e with e1 _; injection e1 with e1 _; cases e1
  | raw a =>
    injection e with e1 _
    injection e1 with _ e1
    injection e1 with e1
    have e1 := Int.ofNat.inj e1
    subst e1
    rfl
/-- as Ext, but for what stands at a, b -/
structure ExtL (G H G' H' : Hp) (a b : Addr) (ns ms : List Int) : Prop where
  gg : ∀ c o, G c = some o → G' c = some o
  hh : ∀ c o, c ≠ a → c ≠ b → H c = some o → H' c = some o ∨ mkd G c
  gh : GH G' H'
  own : ∀ c o, c ≠ a → c ≠ b → H c = some o → noTup o = true → G c = none → G' c = none
  ga : G' a = none
  gb : G' b = none
  la : H' a = some (.lst (ns.map V.int))
  lb : H' b = some (.lst (ms.map V.int))
theorem ExtL.of {G H G' H' : Hp} {a b : Addr} {ns ms : List Int} (x : Ext G H G' H') (ga : G a = none) (gb : G b = none) (la : H a = some (.lst (ns.map V.int))) (lb : H b = some (.lst (ms.map V.int))) : ExtL G H G' H' a b ns ms :=
  ⟨x.gg, fun c o _ _ => x.hh c o, x.gh, fun c o _ _ => x.own c o, x.own a _ la rfl ga, x.own b _ lb rfl gb, x.at ga la, x.at gb lb⟩
def PM (K : PySem.W.Frag) (Pre : List D → List Int → List Int → Prop) (Post : List D → List Int → List Int → D → List Int → List Int → Prop) : Sp := fun vs H Q _ => ∃ G ds us a b ns ms, GH G H ∧ DqA K G us ds ∧ vs = us ++ [.ref a, .ref b] ∧ H a = some (.lst (ns.map V.int)) ∧ H b = some (.lst (ms.map V.int)) ∧ a ≠ b ∧ G a = none ∧ G b = none ∧ Pre ds ns ms ∧
  ∀ d v G' H' ns' ms', Post ds ns ms d ns' ms' → ExtL G H G' H' a b ns' ms' → Dq K G' v d → Q v H'
section
variable (K : PySem.W.Frag)
/-- a body that is lent the lists at a and b -/
def STM (t : TS) (ρ : List Sl) (a b : Addr) (ns ms : List Int) (Post : D → List Int → List Int → Prop) : Prop := ∀ (G0 H0 G H : Hp) (σ : L2.St) (Dn : Ends), En K G0 H0 G H σ ρ → a ≠ b → H0 a = some (.lst (ns.map V.int)) → H0 b = some (.lst (ms.map V.int)) → G0 a = none → G0 b = none →
  (∀ d v G' H' ns' ms', Post d ns' ms' → ExtL G0 H0 G' H' a b ns' ms' → Dq K G' v d → Dn.rt v H') → t Dn σ H
def ETM (tt : TT) (ρ : List Sl) (a b : Addr) (ns ms : List Int) (k : Bool) : Prop := ∀ (G0 H0 G H : Hp) (σ : L2.St) (Q : Bool → Hp → Prop), En K G0 H0 G H σ ρ → H0 a = some (.lst (ns.map V.int)) → H0 b = some (.lst (ms.map V.int)) → G0 a = none → G0 b = none →
  (∀ G' H', Ext G H G' H' → Q k H') → tt σ H Q
end
section
variable {K : PySem.W.Frag} {ρ : List Sl} {Ex : XK} {ta tb te : TE} {tt tu : TT} {t u : TS} {d : D} {P : Oc → Prop} {a b : Addr} {ns ms : List Int} {Post : D → List Int → List Int → Prop}
theorem stm_st (h : ST K Ex t ρ (fun o => ∃ d, o = .rt d ∧ Post d ns ms)) : STM K t ρ a b ns ms Post := fun G0 H0 G H σ Dn E _ la lb ga gb q =>
  h G0 H0 G H σ _ E ⟨(fun _ _ _ _ ⟨_, e, _⟩ _ => nomatch e), (fun _ v G' H' ⟨d', e, p⟩ x hv => by cases e; exact q _ v G' H' ns ms p (.of x ga gb la lb) hv), (fun _ _ _ _ ⟨_, e, _⟩ _ => nomatch e), (fun _ _ _ _ ⟨_, e, _⟩ _ => nomatch e), (fun _ _ _ _ _ _ ⟨_, e, _⟩ => nomatch e)⟩
theorem stm_seq (h : ST K Ex t ρ (fun o => (∃ ρ', o = .nx ρ' ∧ STM K u ρ' a b ns ms Post) ∨ ∃ d, o = .rt d ∧ Post d ns ms)) : STM K (tSeq t u) ρ a b ns ms Post := fun G0 H0 G H σ Dn E ab la lb ga gb q =>
  h G0 H0 G H σ _ E ⟨(fun _ σ' G' H' p E' => by
      rcases p with ⟨ρ'', e, s⟩ | ⟨_, e, _⟩
      · cases e
        exact s G0 H0 G' H' σ' Dn E' ab la lb ga gb q
      · cases e), (fun _ v G' H' p x hv => by
      rcases p with ⟨_, e, _⟩ | ⟨d', e, p⟩
      · cases e
      · cases e
        exact q _ v G' H' ns ms p (.of x ga gb la lb) hv), (fun _ _ _ _ p _ => by rcases p with ⟨_, e, _⟩ | ⟨_, e, _⟩ <;> cases e), (fun _ _ _ _ p _ => by rcases p with ⟨_, e, _⟩ | ⟨_, e, _⟩ <;> cases e), (fun _ _ _ _ _ _ p => by rcases p with ⟨_, e, _⟩ | ⟨_, e, _⟩ <;> cases e)⟩
theorem etm_in {p : Nat} {i : Int} (h : EV K te ρ (.int i)) (hp : ρ[p]? = some (.fr (rwD a))) : ETM K (tTest (tOp (rInU K) te (tVar p))) ρ a b ns ms (decide (i ∈ ns)) := fun G0 H0 G H σ Q E la lb ga gb q =>
  h G0 H0 G H σ _ E fun v G1 H1 e1 h1 => by
    cases h1
    obtain ⟨w, x1, x2⟩ := (E.go e1).fr p _ hp
    have := rw_inv x2
    subst this
    have hl : H1 a = some (.lst (ns.map V.int)) := (E.ext.trans e1).at ga la
    refine ⟨_, x1, .inl ⟨a, _, rfl, .inl (SqL.of hl), rfl, by rw [List.all_map]; exact List.all_eq_true.mpr fun _ _ => rfl, _, rfl, ?_⟩⟩
    rw [inV_int]
    exact q G1 H1 e1
theorem etm_inB {p : Nat} {i : Int} (h : EV K te ρ (.int i)) (hp : ρ[p]? = some (.fr (rwD b))) : ETM K (tTest (tOp (rInU K) te (tVar p))) ρ a b ns ms (decide (i ∈ ms)) := fun G0 H0 G H σ Q E la lb ga gb q => etm_in (a := b) (b := a) (ns := ms) (ms := ns) h hp G0 H0 G H σ Q E lb la gb ga q
theorem etm_or {k1 k2 : Bool} (h1 : ETM K tt ρ a b ns ms k1) (h2 : ETM K tu ρ a b ns ms k2) : ETM K (tOr tt tu) ρ a b ns ms (k1 || k2) := fun G0 H0 G H σ Q E la lb ga gb q => h1 G0 H0 G H σ _ E la lb ga gb fun G1 H1 e1 => by
  cases k1 with
  | true => exact q G1 H1 e1
  | false => exact h2 G0 H0 G1 H1 σ Q (E.go e1) la lb ga gb fun G2 H2 e2 => q G2 H2 (e1.trans e2)
theorem stm_when {k : Bool} (h : ETM K tt ρ a b ns ms k) (h1 : k = true → STM K t ρ a b ns ms Post) (h2 : k = false → STM K u ρ a b ns ms Post) : STM K (tSeq (tIfS tt t tNext) u) ρ a b ns ms Post := fun G0 H0 G H σ Dn E ab la lb ga gb q =>
  h G0 H0 G H σ _ E la lb ga gb fun G1 H1 e1 => by
    cases k with
    | true => exact h1 rfl G0 H0 G1 H1 σ _ (E.go e1) ab la lb ga gb q
    | false => exact h2 rfl G0 H0 G1 H1 σ Dn (E.go e1) ab la lb ga gb q
/-- a thing that no slot knows is changed: a new start -/
theorem En.poke {G0 H0 G H : Hp} {σ : L2.St} (E : En K G0 H0 G H σ ρ) {c : Addr} {o0 o : HO} (h0 : H0 c = some o0) (hG : G c = none) : En K G (upd H0 c o) G (upd H c o) σ ρ := by
  have ne : ∀ x, H0 x = none → x ≠ c := fun x z e => by rw [e, h0] at z; cases z
  have gh : GH G (upd H c o) := fun x u r => (E.gh x u r).eq (upd_ne fun e => by rw [e, hG] at r; cases r)
  refine ⟨E.len, ⟨fun _ _ z => z, fun x o' e => ?_, gh, fun _ _ _ _ z => z⟩, E.fr, fun j e q => ?_, E.ex, E.dis, fun j kls q => ?_, E.ned⟩
  · by_cases hx : x = c
    · subst hx
      rw [upd_same] at e ⊢
      exact .inl e
    · rw [upd_ne hx] at e ⊢
      exact (E.ext.hh x o' e).imp id (mkd.mono E.ext.gg)
  · obtain ⟨l, a1, a2, a3, a4⟩ := E.ow j e q
    exact ⟨l, a1, by rw [upd_ne (ne l a2)]; exact a2, a3, a4.ext (Sub.refl G) (upd_ne (ne l a2))⟩
  · obtain ⟨l, as, a1, a2, a3⟩ := E.ne j kls q
    exact ⟨l, as, a1, a2.go (Sub.refl G) fun x hx => upd_ne (ne x (a3 x hx).1), fun x hx => ⟨by rw [upd_ne (ne x (a3 x hx).1)]; exact (a3 x hx).1, (a3 x hx).2⟩⟩
theorem ExtL.back {G0 H0 G H G' H' : Hp} {ns' ms' : List Int} {o : HO} {c : Addr} (x : Ext G0 H0 G H) (hc : c = a ∨ c = b) (y : ExtL G (upd H0 c o) G' H' a b ns' ms') : ExtL G0 H0 G' H' a b ns' ms' := by
  have nc : ∀ z, z ≠ a → z ≠ b → z ≠ c := fun z h1 h2 e => by rcases hc with h | h <;> rw [h] at e <;> contradiction
  refine ⟨fun z o h => y.gg z o (x.gg z o h), fun z o' h1 h2 h => ?_, y.gh, fun z o' h1 h2 h t n => ?_, y.ga, y.gb, y.la, y.lb⟩
  · exact (y.hh z o' h1 h2 (by rw [upd_ne (nc z h1 h2)]; exact h)).imp id (x.mark h)
  · exact y.own z o' h1 h2 (by rw [upd_ne (nc z h1 h2)]; exact h) t (x.own z o' h t n)
theorem stm_app {p : Nat} {i : Int} (h : EV K te ρ (.int i)) (hp : ρ[p]? = some (.fr (rwD a))) (hz : ns.length < 16000000) (q : STM K u ρ a b (ns ++ [i]) ms Post) :
    STM K (tSeq (tDrop (tBM K "list" rAppend (tVar p) (tCons te tNil))) u) ρ a b ns ms Post := fun G0 H0 G H σ Dn E ab la lb ga gb k => by
  obtain ⟨w, x1, x2⟩ := E.fr p _ hp
  have := rw_inv x2
  subst this
  refine ⟨_, x1, .inl ⟨rfl, _, SqL.of (E.ext.at ga la)⟩, h G0 H0 G H σ _ E fun v G1 H1 e1 h1 => ?_⟩
  cases h1
  have E1 := E.go e1
  have hl : H1 a = some (.lst (ns.map V.int)) := E1.ext.at ga la
  have ga1 : G1 a = none := E1.ext.own a _ la rfl ga
  have gb1 : G1 b = none := E1.ext.own b _ lb rfl gb
  refine ⟨a, _, _, rfl, rfl, hl, by rw [List.length_map, sizeLine_eq]; omega, ?_⟩
  rw [show ns.map V.int ++ [V.int i] = (ns ++ [i]).map V.int by rw [List.map_append]; rfl]
  exact q G1 _ G1 _ σ Dn (E1.poke la ga1) ab upd_same ((upd_ne ab.symm).trans lb) ga1 gb1 fun d v G' H' ns' ms' pp y hv => k d v G' H' ns' ms' pp (y.back E1.ext (.inl rfl)) hv
theorem ExtL.swap {G H G' H' : Hp} (y : ExtL G H G' H' a b ns ms) : ExtL G H G' H' b a ms ns := ⟨y.gg, fun c o h1 h2 => y.hh c o h2 h1, y.gh, fun c o h1 h2 => y.own c o h2 h1, y.gb, y.ga, y.lb, y.la⟩
theorem STM.swap (h : STM K t ρ b a ms ns fun d x y => Post d y x) : STM K t ρ a b ns ms Post := fun G0 H0 G H σ Dn E ab la lb ga gb q => h G0 H0 G H σ Dn E ab.symm lb la gb ga fun d v G' H' ns' ms' p y hv => q d v G' H' ms' ns' p y.swap hv
theorem stm_appB {p : Nat} {i : Int} (h : EV K te ρ (.int i)) (hp : ρ[p]? = some (.fr (rwD b))) (hz : ms.length < 16000000) (q : STM K u ρ a b ns (ms ++ [i]) Post) :
    STM K (tSeq (tDrop (tBM K "list" rAppend (tVar p) (tCons te tNil))) u) ρ a b ns ms Post := STM.swap (stm_app h hp hz (STM.swap q))
/-- the caller lends two own lists -/
theorem q_asgM {Pre : List D → List Int → List Int → Prop} {Po : List D → List Int → List Int → D → List Int → List Int → Prop} {Ey : XK} {p q i : Nat} {d0 d1 : D} (hp : ρ[p]? = some (.ow (.list (ns.map PyData.int)))) (hq : ρ[q]? = some (.ow (.list (ms.map PyData.int)))) (hpq : p ≠ q) (h0 : EV K ta ρ d0) (h1 : EV K tb ρ d1) (pre : Pre [d0, d1] ns ms)
    (k : ∀ d ns' ms', Po [d0, d1] ns ms d ns' ms' → ST K Ex u (((ρ.set p (.ow (.list (ns'.map PyData.int)))).set q (.ow (.list (ms'.map PyData.int)))).set i (.fr d)) P) :
    ST K Ex (tSeq (tAsg (tCall (PM K Pre Po) [] Ey (tCons ta (tCons tb (tCons (tVar p) (tCons (tVar q) tNil))))) (gName i)) u) ρ P :=
  st_seq fun G0 H0 G H σ D E f => h0 G0 H0 G H σ _ E fun v0 G1 H1 e1 g1 => h1 G0 H0 G1 H1 σ _ (E.go e1) fun v1 G2 H2 e2 g2 => by
    have E2 := (E.go e1).go e2
    obtain ⟨a, a1, a2, a3, a4⟩ := E2.ow p _ hp
    obtain ⟨b, b1, b2, b3, b4⟩ := E2.ow q _ hq
    have hab : a ≠ b := fun z => hpq (E2.dis p q _ _ a hp hq a1 (z ▸ b1))
    cases a4 with
    | @lst us _ a5 a6 =>
    cases b4 with
    | @lst ws _ b5 b6 =>
    have := ints_dq a6
    subst this
    have := ints_dq b6
    subst this
    refine ⟨_, a1, _, b1, ?_⟩
    show PM K Pre Po ([v0, v1, .ref a, .ref b] ++ []) H2 _ Ey
    rw [List.append_nil]
    refine ⟨G2, [d0, d1], [v0, v1], a, b, ns, ms, E2.gh, .cons (g1.mono e2.g) (.cons g2 .nil), rfl, a5, b5, hab, a3, b3, pre, fun d v G' H' ns' ms' pp x hv => ?_⟩
    have E3 := E2.write (o := .lst (ns'.map V.int)) (d' := .list (ns'.map PyData.int)) hp a1 (.lst upd_same (dq_ints ns'))
    have hq' : (ρ.set p (.ow (.list (ns'.map PyData.int))))[q]? = some (.ow (.list (ms.map PyData.int))) := by rw [List.getElem?_set_ne hpq]; exact hq
    have E4 := E3.write (o := .lst (ms'.map V.int)) (d' := .list (ms'.map PyData.int)) hq' b1 (.lst upd_same (dq_ints ms'))
    have X : Ext G2 (upd (upd H2 a (.lst (ns'.map V.int))) b (.lst (ms'.map V.int))) G' H' := by
      refine ⟨x.gg, fun c o e => ?_, x.gh, fun c o e t n => ?_⟩
      · by_cases hb : c = b
        · subst hb
          rw [upd_same] at e
          rw [← e]
          exact .inl x.lb
        · rw [upd_ne hb] at e
          by_cases ha : c = a
          · subst ha
            rw [upd_same] at e
            rw [← e]
            exact .inl x.la
          · rw [upd_ne ha] at e
            exact x.hh c o ha hb e
      · by_cases hb : c = b
        · subst hb; exact x.gb
        · rw [upd_ne hb] at e
          by_cases ha : c = a
          · subst ha; exact x.ga
          · rw [upd_ne ha] at e
            exact x.own c o ha hb e t n
    exact f.nx _ _ G' H' (k d ns' ms' pp) ((E4.go X).setF i hv)
end
section
variable {P : Program} {w : World} {K : PySem.W.Frag} {mg : Str → Option Value} {base : Heap}
theorem fn_pm {x qual : Str} {params : Arguments} {body : List Stmt} {scope : Scope} {f : Addr} {fd : FuncData} {N ps : List Str} {k : Nat} {Pre : List D → List Int → List Int → Prop} {Post : List D → List Int → List Int → D → List Int → List Int → Prop} (F : FunD K x qual params body scope [] [] f fd) (S : FnScope N ps scope)
    (len : ∀ ds ns ms, Pre ds ns ms → ds.length + 2 = ps.length)
    (hb : ∀ (cdv : Value) (A : Around) (outer : List PySem.Env) (s : Shared) (H : Hp) (E : XK), Room k (A.deeper (envOfC qual scope s.heap.objs.size f cdv)) →
      ∃ t, PSs (cxOf CX0 P w K mg base N qual scope f cdv A outer s H E) body t ∧ ∀ ds ns ms, Pre ds ns ms → ∀ a b, STM K t (start0 N.length (ds ++ [rwD a, rwD b])) a b ns ms (Post ds ns ms)) : FnOk P w K mg base CX0 (k + 1) f fd ps (PM K Pre Post) := by
  refine F.ok S (fun vs H Q E h => ?_) (fun cdv A outer s H vs Q E hr h => ?_)
  · obtain ⟨G, ds, us, a, b, ns, ms, g, ha, rfl, la, lb, ab, ga, gb, hR, q⟩ := h
    rw [List.length_append, ha.length]
    exact len ds ns ms hR
  · obtain ⟨t, h1, h2⟩ := hb cdv A outer s H E hr
    obtain ⟨G, ds, us, a, b, ns, ms, g, ha, rfl, la, lb, ab, ga, gb, hR, q⟩ := h
    exact ⟨t, h1, h2 ds ns ms hR a b G H G H _ _ (en_start g (ha.append (.cons (.raw a) (.cons (.raw b) .nil)))) ab la lb ga gb q⟩
end
end DL
set_option maxHeartbeats 2000000
/-! DL31: raising with a known context (L2N), parallel assignments within an except suite. -/
namespace DL
open PySem PySem.Spec PyProof.Rows L2
section
variable {prog : Program} {w : World} {A : Around} {E : Value → Shared → Prop} {s : Shared}
theorem next_tuple_end_hot {it t x1 : Addr} {i : Nat} {items} {Q : Option Value → Shared → Prop} (hot : HotX.HotAt A x1 s.heap) (hne1 : x1 ≠ it)
    (hit : IsTupIter s.heap it t i) (ht : IsTup s.heap t items) (hx : items[i]? = none)
    (hQ : ∀ h', Heap.ExtBut it s.heap h' → Q none { s with heap := h' }) : wpAny (model prog w) A (pyNext (.ref it)) Q E s := by
  obtain ⟨o, ho, hc, hd⟩ := id hit
  obtain ⟨ol, hol, _, nl, hdl⟩ := ht
  obtain ⟨hh, o1, vs1, h1, d1, c1⟩ := hot
  unfold pyNext
  refine wpAny_bind (wpAny_attempt (wpAny_callSpecial?_slot (name := Str.ofString "__next__") hit.typeIs slot_tupleiter_next
    (wpAny_call_entry slot_tupleiter_next hit.typeIs entry_tupleiter_next ?_ (args_tupleiter_next _))))
  show wpAny _ _ (field (.ref it) 0 >>= _) _ _ s
  refine wpAny_bind (wpAny_field ho hd (x := .ref t) rfl ?_)
  show wpAny _ _ (if (Value.ref t == Value.none) = true then _ else _) _ _ s
  rw [if_neg (show ¬ ((Value.ref t == Value.none) = true) from Bool.false_ne_true)]
  show wpAny _ _ (field (.ref it) 1 >>= _) _ _ s
  refine wpAny_bind (wpAny_field ho hd (x := .int i 0) rfl ?_)
  show wpAny _ _ (seqItems? (.ref t) >>= _) _ _ s
  refine wpAny_bind (wpAny_seqItems hol hdl ?_)
  simp only [Int.toNat_natCast, hx]
  refine wpAny_bind (wpAny_rule (wpAny_bind (wpAny_setField ho hd (by simp) ?_)))
  show wpAny _ _ (newExc (.type "StopIteration") [] >>= _) _ _ _
  refine wpAny_bind ?_
  simp only [newExc, newTuple]
  refine wpAny_bind (wpAny_newObj_type ?_ (by size_fits))
  refine wpAny_bind (m := firstArgMember _ _) (wpAny_of_eq (a := Value.none) (by first | rfl | (simp only [firstArgMember]; rfl)) ?_)
  refine wpAny_newObj_type ?_ (by size_fits)
  have g1 := (Heap.get?_update_other (h := s.heap) (Obj.mapFields (·.setIfInBounds 0 Value.none)) (a := it) (b := x1) ?_).trans h1
  · refine HotX.raiseNew_hot ⟨hh, o1, vs1, Heap.get?_push_of_some _ (Heap.get?_push_of_some _ g1), d1, c1⟩ (Nat.ne_of_lt (Heap.lt_size (Heap.get?_push_of_some _ g1))) (Heap.get?_push_size _ rfl) rfl (by first | (simp; done) | (simp; omega) | (simp only [Array.size_append]; simp; omega)) ?_
    refine wpAny_bind (wpAny_isInstance (T := "StopIteration") (b := true) ⟨_, Heap.get?_update_self _ (Heap.get?_push_size _ rfl) rfl, rfl⟩ isSubtype_stop ?_)
    refine wpAny_pure (hQ _ fun b o hb e => ?_)
    have e1 := (Heap.get?_update_other (h := s.heap) (Obj.mapFields (·.setIfInBounds 0 Value.none)) (a := it) (b := b) (Ne.symm hb)).trans e
    rw [Heap.get?_update_other _ _ (Nat.ne_of_gt (Heap.lt_size (Heap.get?_push_of_some _ e1)))]
    exact Heap.get?_push_of_some _ (Heap.get?_push_of_some _ e1)
  · exact Ne.symm hne1
theorem unpackItems_tuple_hot {t x1 : Addr} {items : Array Value} {Q : List Value → Shared → Prop} (hot : HotX.HotAt A x1 s.heap) (ht : IsTup s.heap t items)
    (hQ : ∀ h', Heap.ExtBut s.heap.objs.size s.heap h' → Q items.toList { s with heap := h' }) : wpAny (model prog w) A (unpackItems (.ref t) items.size none) Q E s := by
  have hlt : t ≠ s.heap.objs.size := by obtain ⟨o, ho, _⟩ := ht; exact Nat.ne_of_lt (Heap.lt_size ho)
  obtain ⟨hh, o1, vs1, h1, d1, c1⟩ := hot
  have hx1 : x1 ≠ s.heap.objs.size := Nat.ne_of_lt (Heap.lt_size h1)
  unfold unpackItems
  refine wpAny_bind ?_
  · unfold notIterableAtAll
    refine wpAny_bind (wpAny_specialOf ht.typeIs slot_tuple_iter.lookup ?_)
    refine wpAny_pure ?_
    simp only [Bool.false_eq_true, if_false]
    refine wpAny_bind (wpAny_holding (iter_tuple ht ?_))
    refine wpAny_bind (wpAny_holding (draw_tuple hlt items.size 0 _ _ ⟨_, Heap.get?_push_size _ rfl, rfl, rfl⟩ (ht.push _) (by omega) fun h₁ hit₁ hs₁ => ?_))
    have hall : List.take items.size (List.drop 0 items.toList) = items.toList := by
      rw [List.drop_zero]; exact List.take_of_length_le (by simp)
    rw [hall]
    rw [if_neg (by simp)]
    have ht₁ : IsTup h₁ t items := (ht.push _).extBut hs₁.extBut hlt
    have g1 : h₁.get? x1 = some o1 := hs₁.extBut x1 o1 hx1 (Heap.get?_push_of_some _ h1)
    refine wpAny_bind (wpAny_holding (next_tuple_end_hot ⟨hh, o1, vs1, g1, d1, c1⟩ hx1 hit₁ ht₁ (by simp) fun h₂ he₂ => ?_))
    simp only [Option.isSome_none, Bool.false_eq_true, if_false]
    refine wpAny_pure (hQ h₂ fun b o hb e => he₂ b o hb (hs₁.extBut b o hb (Heap.get?_push_of_some _ e)))
end
section
variable {X : Cx} {pos p : Pos}
theorem ps_parH {i j : Nat} {x y : Str} {a b : Expr} {ta : TA} {px py pt : Pos} {kt k2 pt2} (hc : L2H.HotC X) (hN : X.N.Nodup) (hi : X.N[i]? = some x) (hj : X.N[j]? = some y) (hij : i ≠ j)
    (hx : X.env.scope.names.lookup x = some .local) (hy : X.env.scope.names.lookup y = some .local) (ha : PA X [a, b] ta)
    (hw : swappedStores [.Tuple [.Name x px, .Name y py] kt pt] (.Tuple [a, b] k2 pt2) X.env = pure (some [x, y]))
    (hs : swapsWithSole [.Tuple [.Name x px, .Name y py] kt pt] (.Tuple [a, b] k2 pt2) pos.line X.env = pure false := by rfl) :
    PS X (.Assign [.Tuple [.Name x px, .Name y py] kt pt] (.Tuple [a, b] k2 pt2) pos) (tPar i j ta) := by
  refine ⟨fun pins s σ H D I h => ?_⟩
  rw [exec_Assign_arm]
  refine wpAny_bind (wpAny_standAt ?_)
  rw [hs]
  refine wpAny_bind (wpAny_pure ?_)
  rw [if_neg (by decide)]
  refine wpAny_bind (Tuple_ (thn (ha.run _ pins s σ H _ I h) fun us s1 ⟨vs, H1, I1, r1, q1⟩ => ?_))
  obtain ⟨v, w, e1, q1⟩ := q1
  subst e1
  obtain ⟨u1, u2, rfl, rv, rw'⟩ : ∃ u1 u2, us = [u1, u2] ∧ RelV v u1 ∧ RelV w u2 := by
    cases r1 with
    | cons p q =>
      cases q with
      | cons p' q' =>
        cases q'
        exact ⟨_, _, rfl, p, p'⟩
  refine wpAny_newObj_type ?_ (by show 2 ≤ sizeLine; decide)
  have I2 : Inv X pins σ H1 { s1 with heap := s1.heap.push { cls := .type "tuple", data := .seq [u1, u2].toArray } } := I1.kept (t' := s1.toks) fun b o e => Heap.get?_push_of_some _ e
  rw [hw]
  refine wpAny_bind (wpAny_pure ?_)
  show wpAny (model X.prog X.w) X.A (do rule "assign.swapped-stores"; let items ← unpackItems (.ref s1.heap.objs.size) 2 none; assignInOrder [fun v => bindName X.env y v, fun v => bindName X.env x v] items.reverse; pure Flow.next) _ _ _
  obtain ⟨x1, hot⟩ := hc.at I2
  refine wpAny_bind (wpAny_rule (wpAny_bind (unpackItems_tuple_hot (items := #[u1, u2]) hot (IsTup.new s1.heap _) fun h' hx' => ?_)))
  have I3 := I2.kept (h' := h') (t' := s1.toks) fun b o e => hx' b o (Nat.ne_of_lt (Heap.lt_size e)) e
  show wpAny _ _ (assignInOrder [fun v => bindName X.env y v, fun v => bindName X.env x v] [u2, u1] >>= fun _ => pure Flow.next) _ _ _
  refine wpAny_bind (assignInOrder_cons (wpAny_bindName (store_ok I3 hN hj (.inl hy) rw' (fun s2 I4 => ?_) (.inr hy))))
  refine assignInOrder_cons (wpAny_bindName (store_ok I4 hN hi (.inl hx) rv (fun s3 I5 => assignInOrder_nil (wpAny_pure ?_)) (.inr hx)))
  rw [List.set_comm _ _ (Ne.symm hij)] at I5
  exact ⟨_, H1, I5, q1⟩
/-- the suite's context bears the exception -/
theorem hot_suite {a : Addr} {oe : Obj} {cls : Value} {d : Option Addr} {pn : List (Addr × Obj)} (hz : L2N.Zn cls d oe) (hf : ∃ vs, oe.data = .fields vs) : L2H.HotC (X.suite a ((a, oe) :: pn)) := by
  obtain ⟨vs, hv⟩ := hf
  exact ⟨(a, oe), ⟨rfl, vs, hv, hz.2.2 vs hv⟩, List.mem_cons_self⟩
/-- C(e, ..), its context None -/
theorem pmk_oexN {X : Cx} {CX : CXT} {x : Str} {e : Expr} {es : List Expr} {ta : TA} {p pos : Pos} {C fI : Addr} {k : Nat} {fd : FuncData} {ps : List Str} {sp : Sp} (T : OexC X.K C) (iC : PySem.W.findIn X.K (.ref C) "__init__" = some (some (.ref fI))) (tI : PySem.W.typeIn X.K (.ref fI) = some (.type "function"))
    (F1 : FnOk X.prog X.w X.K X.mg X.base CX k fI fd ps sp) (hr : Room (k + 1) X.A) (hb : Binds X.K fd ps []) (hx : Passes CX X (fun _ _ _ => False)) (hg : Gl X x) (hm : X.mg x = some (.ref C)) (ha : PA X (e :: es) ta)
    (hdb : (x == ("__debug__" : Str)) = false := by decide) (he : starEach (e :: es) X.env = (false, eval e X.env) :: starEach es X.env := by rfl) (hpl : (backTo pos (starEach es X.env)).any (·.1) = false := by rfl) :
    L2N.PMk X (.Call (.Name x p) (e :: es) [] pos) (tMkO C sp [] ta) := by
  intro pins s σ H Q I h
  obtain ⟨nm, q, N, bs, bm, sn, sub, ab, col, dd, k0, k1, k2, k3, k5, hC, hbm⟩ := T.cls
  refine wpAny_Call_Name_kw (ld_glob I hg hm ?_ hdb)
  refine PySem.W.callWith_K (h₀ := X.base) I.ok.mod.kin T.kC (thn (ha.run pos pins s σ H _ I h) fun us s1 ⟨vs, H1, I1, r1, hz, q1⟩ => ⟨I1.kIn, ?_⟩) he hpl
  show wpAny _ _ (call (.ref C) us) _ _ _
  obtain ⟨hp, g, dr, tk, os⟩ := s1
  have hsz : hp.objs.size ≤ hp.objs.size + 1 := Nat.le_succ _
  have hn : H1 (hp.objs.size + 1) = none := I1.hok.fresh hsz
  have hq := q1 (hp.objs.size + 1) hn
  rw [List.append_nil] at hq
  have kk : ∀ b o, hp.get? b = some o → ((hp.push (PySem.W.kdv_tup us)).push (PySem.HandSPX.excO C hp.objs.size)).get? b = some o := fun b o e => Heap.get?_push_of_some _ (Heap.get?_push_of_some _ e)
  have hget : ((hp.push (PySem.W.kdv_tup us)).push (PySem.HandSPX.excO C hp.objs.size)).get? (hp.objs.size + 1) = some (PySem.HandSPX.excO C hp.objs.size) := by heap_get
  have I2 : Inv X pins σ (upd H1 (hp.objs.size + 1) (exo (hp.objs.size + 1) C none)) ⟨(hp.push (PySem.W.kdv_tup us)).push (PySem.HandSPX.excO C hp.objs.size), g, dr, tk, os⟩ :=
    I1.laid (t' := tk) (a := hp.objs.size + 1) (o := exo (hp.objs.size + 1) C none) (h' := (hp.push (PySem.W.kdv_tup us)).push (PySem.HandSPX.excO C hp.objs.size)) kk hsz (exo_ok hget)
  have r2 : Vals (V.ref (hp.objs.size + 1) :: vs) (Value.ref (hp.objs.size + 1) :: us) := .cons rfl r1
  have hl : (Value.ref (hp.objs.size + 1) :: us ++ []).length = ps.length := by
    have e := r2.length
    rw [F1.len _ _ _ _ hq] at e
    rw [List.append_nil]
    exact e.symm
  have hus : us.length ≤ sizeLine := by
    rw [← Paired.length r1, sizeLine_eq]
    omega
  have b2 := hb _ (Value.ref (hp.objs.size + 1) :: us) I2.kIn hl
  rw [List.append_nil] at b2
  refine wpAny_call (PySem.HandSPX.call_own F.excBase_ValueError (fun Y => PySem.HandSPX.refsVE_contains Y bm hbm) (I1.kIn _ _ hC) (PySem.W.looks_findIn I1.kIn iC) (fun self => PySem.W.bind_fn I1.kIn self tI) hus
    (codeAny_mono (F1.run _ X.stack _ _ ⟨Value.ref (hp.objs.size + 1) :: us, []⟩ (Value.ref (hp.objs.size + 1) :: us) _ _ (fun _ _ _ => False) (hr.make C us []) (I2.env0.make C us []) b2 r2 hq) fun r s' hq' => ?_))
  cases r with
  | error er => exact hx pins σ _ _ er s' I2 hq'
  | ok fl =>
    cases fl with
    | ret u =>
      obtain ⟨v, H2, os2, bare2, un2, hok2, rv, ev, d, fs, ea, ed, hd1, q2⟩ := hq'
      subst ev
      obtain ⟨h2, g2, d2, t2, os'⟩ := s'
      obtain ⟨t0, G, J, kG, ge, hoe, na⟩ := mk_end0 (d2 := d2) (t2 := t2) I1 hsz kk un2 hok2 os2 bare2 ea ed hd1
      refine ⟨rv, hp.objs.size + 1, _, _, ⟨G, g2, d2, t2, os'⟩, _, .ref C, some d, rfl, J, kG, ge, hoe, ⟨rfl, rfl, fun vs hv => ?_⟩, rfl, rfl, na, rfl, bare2, raises_own T.exC T.tyC, q2⟩
      cases hv
      rfl
    | next => exact False.elim hq'
    | brk => exact False.elim hq'
    | cont => exact False.elim hq'
theorem ps_raiseON {k j : Nat} {x : Str} {fls : List Str} {Ex : XK} {e : Expr} {es : List Expr} {t : TA} {pos2 : Pos} (O : ExOk X.prog X.w X.K X.mg X.base k x fls) (hr : Room j X.A) (hk : k + 1 ≤ j) (hc : X.calm = true) (tk : L2N.Takes X (fun cls d _ H => Ex cls d H)) (ha : PA X (e :: es) t) (hg : Gl X x := by rfl)
    (hdb : (x == ("__debug__" : Str)) = false := by decide) (he : starEach (e :: es) X.env = (false, eval e X.env) :: starEach es X.env := by rfl) (hpl : (backTo pos (starEach es X.env)).any (·.1) = false := by rfl) :
    PS X (.Raise (some (.Call (.Name x p) (e :: es) [] pos)) none pos2) (tRaiseO X.K (He.ga X.K x) fls Ex t) := by
  obtain ⟨m, ef, ⟨i1, i2⟩, fd, F, b⟩ := O
  exact L2N.ps_raise hc tk (pmk_oexN ef.oex i1 i2 F (hr.mono hk) b (fun _ _ _ _ _ _ _ h => h.elim) hg m ha hdb he hpl)
theorem pe_callDSN {k j : Nat} {x : Str} {ps : List Str} {sp : Sp} {e : Expr} {es : List Expr} {t : TA} {W : WX} (O : Okd X.prog X.w X.K X.mg X.base (L2N.CX X.prog X.w) k x ps sp) (hr : Room j X.A) (hk : k ≤ j) (tk : L2N.Takes X W) (ha : PA X (e :: es) t) (hg : Gl X x := by rfl)
    (hdb : (x == ("__debug__" : Str)) = false := by decide) (he : starEach (e :: es) X.env = (false, eval e X.env) :: starEach es X.env := by rfl) (hpl : (backTo pos (starEach es X.env)).any (·.1) = false := by rfl) :
    PE X (.Call (.Name x p) (e :: es) [] pos) (tCallS sp (WE W) t) := by
  obtain ⟨m, fd, F, b, kp⟩ := O
  exact pe_callS F (hr.mono hk) hg m kp b (fun σ => L2N.passAt tk σ) ha hdb he hpl
theorem takes0N {X : Cx} : L2N.Takes X (fun _ _ _ _ => False) := fun u s' ⟨a, B, sI, pins, σ, H, cls, d, e, I, nb, up, sky, na, os, ag, h⟩ => h.elim
end
section
variable {P : Program} {w : World} {K : PySem.W.Frag} {mg : Str → Option Value} {base : Heap}
/-- a def that may raise keeps its word, by its body's (any wish about exceptions) -/
theorem fn_pxC {CX : CXT} {x qual : Str} {params : Arguments} {body : List Stmt} {scope : Scope} {f : Addr} {fd : FuncData} {N ps : List Str} {k : Nat} {R : List D → D → Prop} {Y : List D → Addr → List (Str × D) → Prop} (F : FunD K x qual params body scope [] [] f fd) (S : FnScope N ps scope)
    (len : ∀ ds d, R ds d → ds.length = ps.length) (lenY : ∀ ds C fl, Y ds C fl → ds.length = ps.length)
    (hb : ∀ (cdv : Value) (A : Around) (outer : List PySem.Env) (s : Shared) (H : Hp) (E : XK), Room k (A.deeper (envOfC qual scope s.heap.objs.size f cdv)) →
      ∃ t, PSs (cxOf CX P w K mg base N qual scope f cdv A outer s H E) body t ∧ (∀ ds d, R ds d → DL.ST K E t (start0 N.length ds) (fun o => o = .rt d ∨ (d = .none ∧ ∃ ρ, o = .nx ρ))) ∧
        (∀ ds C fl, Y ds C fl → DL.ST K E t (start0 N.length ds) (fun o => o = .ex C fl))) : FnOk P w K mg base CX (k + 1) f fd ps (PX K R Y) := by
  refine F.ok S (fun vs H Q E h => ?_) (fun cdv A outer s H vs Q E hr h => ?_)
  · obtain ⟨G, ds, g, ha, h⟩ := h
    rcases h with ⟨d, hR, _⟩ | ⟨C, fl, hY, _⟩
    · exact ha.length.trans (len ds d hR)
    · exact ha.length.trans (lenY ds C fl hY)
  · obtain ⟨t, h1, h2, h3⟩ := hb cdv A outer s H E hr
    obtain ⟨G, ds, g, ha, h⟩ := h
    rcases h with ⟨d, hR, q⟩ | ⟨C, fl, hY, q⟩
    · refine ⟨t, h1, h2 ds d hR G H G H _ _ (en_start g ha) ⟨fun ρ' σ' G' H' p E' => ?_, fun d' v G' H' p x hv => ?_, fun ρ' σ' G' H' p E' => ?_, fun ρ' σ' G' H' p E' => ?_, fun C fl dd fs G' H' p => ?_⟩⟩
      · rcases p with p | ⟨rfl, _⟩
        · cases p
        · exact q _ G' H' E'.ext .non
      · rcases p with p | ⟨rfl, ρ, p⟩
        · cases p
          exact q v G' H' x hv
        · cases p
      · rcases p with p | ⟨_, _, p⟩ <;> cases p
      · rcases p with p | ⟨_, _, p⟩ <;> cases p
      · rcases p with p | ⟨_, _, p⟩ <;> cases p
    · exact ⟨t, h1, h3 ds C fl hY G H G H _ _ (en_start g ha) ⟨(fun _ _ _ _ p _ => nomatch p), (fun _ _ _ _ p _ => nomatch p), (fun _ _ _ _ p _ => nomatch p), (fun _ _ _ _ p _ => nomatch p), fun C' fl' dd fs G' H' p x h4 h5 => by
        cases p
        exact q dd fs G' H' x h4 h5⟩⟩
end
end DL
set_option maxHeartbeats 1000000
/-! DL32: lists and tuples of values that pass a test (AllP, LstP, OkP); parallel assignment by data. -/
namespace DL
open PySem PySem.Spec PyProof.Rows L2
def AllP (n : Nat) (p : D → Bool) : List D → Prop := fun ds => ds.length = n ∧ ds.all p = true
theorem AllP.app {n m : Nat} {p : D → Bool} {ds es : List D} (h : AllP n p ds) (k : AllP m p es) : AllP (n + m) p (ds ++ es) := ⟨by rw [List.length_append, h.1, k.1], by rw [List.all_append, h.2, k.2]; rfl⟩
theorem AllP.one {p : D → Bool} {d : D} (h : p d = true) : AllP 1 p [d] := ⟨rfl, by rw [List.all_cons, h]; rfl⟩
section
variable {K : PySem.W.Frag} {ρ : List Sl} {Ex : XK} {ta tb te : TE} {tr : TA} {t u : TS} {d d1 d2 : D} {P : Oc → Prop} {p q : D → Bool} {n m : Nat}
theorem st_par {i j : Nat} (ha : EV K ta ρ d1) (hb : EV K tb ρ d2) (q : P (.nx ((ρ.set i (.fr d1)).set j (.fr d2)))) : ST K Ex (tPar i j (tCons ta (tCons tb tNil))) ρ P := fun G0 H0 G H σ D E f =>
  ha G0 H0 G H σ _ E fun v G1 H1 e1 h1 => hb G0 H0 G1 H1 σ _ (E.go e1) fun w G2 H2 e2 h2 => ⟨v, w, rfl, f.nx _ _ G2 H2 q ((((E.go e1).go e2).setF i (h1.mono e2.g)).setF j h2)⟩
theorem st_parV {i j : Nat} {Pa Pb : D → Prop} (ha : EVX K ta ρ Pa) (hb : EVX K tb ρ Pb) (q : ∀ a b, Pa a → Pb b → P (.nx ((ρ.set i (.fr a)).set j (.fr b)))) : ST K Ex (tPar i j (tCons ta (tCons tb tNil))) ρ P := fun G0 H0 G H σ D E f =>
  ha G0 H0 G H σ _ E fun a v G1 H1 pa e1 h1 => hb G0 H0 G1 H1 σ _ (E.go e1) fun b w G2 H2 pb e2 h2 => ⟨v, w, rfl, f.nx _ _ G2 H2 (q a b pa pb) ((((E.go e1).go e2).setF i (h1.mono e2.g)).setF j h2)⟩
theorem q_parV {i j : Nat} {Pa Pb : D → Prop} (ha : EVX K ta ρ Pa) (hb : EVX K tb ρ Pb) (q : ∀ a b, Pa a → Pb b → ST K Ex u ((ρ.set i (.fr a)).set j (.fr b)) P) : ST K Ex (tSeq (tPar i j (tCons ta (tCons tb tNil))) u) ρ P := st_seq (st_parV ha hb q)
end
end DL
set_option maxHeartbeats 2000000
/-! DT1: tables of sets with any mask from whose slots the leaps lead everywhere: 7, 31, 127 (the kit's) and 511. -/
namespace DL
open PySem PySem.Spec PyProof.Rows L2
/-- the leaps lead from every slot to every slot -/
def Leads (m : Nat) : Prop := ∀ a b, a ≤ m → b ≤ m → ∃ c, c ≤ m ∧ lcgI m a c = b
/-! ### the way meets every slot -/
theorem way_in (m : Nat) (h : Int) (k : Nat) : way m h k ≤ m := by
  have a : SetTable.bits h % (m + 1) ≤ m := Nat.le_of_lt_succ (Nat.mod_lt _ (Nat.succ_pos _))
  have b := runEnd_bd a
  have c : (runAt m (SetTable.bits h % (m + 1)) (SetTable.bits h)).j + (runAt m (SetTable.bits h % (m + 1)) (SetTable.bits h)).more ≤ m := by
    dsimp only [runAt]
    omega
  have d := nth_in k _ c
  unfold way
  omega
/-! ### tables -/
/-- every hash leads to its slot, over slots that are taken -/
structure TabZ (t : SetTable) (hs : List Int) : Prop where
  up : Ris t.place.toList
  dm : t.dummies = #[]
  sz : t.place.size = hs.length
  led : Leads t.mask
  low : ∀ x ∈ t.place.toList, x ≤ t.mask
  way : ∀ (i : Nat) (h : Int) (j : Nat), hs[i]? = some h → t.place.toList[i]? = some j → ∃ k, L2.way t.mask h k = j ∧ ∀ k', k' < k → L2.way t.mask h k' ∈ t.place.toList
variable {t : SetTable} {hs : List Int}
/-- one put in at the first free slot of its way -/
theorem TabZ.put (Z : TabZ t hs) {h : Int} {K j p : Nat} (ej : j = L2.way t.mask h K) (ep : p = SetTable.below t.place j) (free : j ∉ t.place.toList) (taken : ∀ k, k < K → L2.way t.mask h k ∈ t.place.toList) :
    (t.put j).2 = p ∧ p ≤ hs.length ∧ TabZ (t.put j).1 (hs.take p ++ h :: hs.drop p) ∧ (t.put j).1.fill = hs.length + 1 := by
  have cut := (below_cut Z.up j).1
  rw [← ep] at cut
  have pl : p ≤ t.place.toList.length := by simpa using cut
  have ph : p ≤ hs.length := by rw [← Z.sz]; exact cut
  have pp : (t.put j).1.place.toList = t.place.toList.take p ++ j :: t.place.toList.drop p := by rw [ep]; exact put_place t j
  have fresh : t.place[SetTable.below t.place j]? ≠ some j := fun e => free (List.mem_of_getElem? (by rw [Array.getElem?_toList]; exact e))
  have size : (t.put j).1.place.size = hs.length + 1 := by
    have := congrArg List.length pp
    rw [len_ins _ pl, Array.length_toList, Array.length_toList, Z.sz] at this
    exact this
  have more : ∀ x, x ∈ t.place.toList → x ∈ (t.put j).1.place.toList := fun x hx => by rw [pp]; exact mem_ins.2 (.inr hx)
  refine ⟨ep.symm, ph, ?_, ?_⟩
  · constructor
    · exact ris_insert Z.up fresh
    · exact put_dm Z.dm j
    · rw [len_ins _ ph]; exact size
    · exact Z.led
    · intro x hx
      rw [pp] at hx
      rcases mem_ins.1 hx with e | e
      · rw [e, ej]; exact way_in _ _ _
      · exact Z.low x e
    · intro i g y hi hy
      rw [tins_get hs ph] at hi
      rw [pp, tins_get _ pl] at hy
      change ∃ k, L2.way t.mask g k = y ∧ ∀ k', k' < k → L2.way t.mask g k' ∈ (t.put j).1.place.toList
      have old : ∀ i0, hs[i0]? = some g → t.place.toList[i0]? = some y → ∃ k, L2.way t.mask g k = y ∧ ∀ k', k' < k → L2.way t.mask g k' ∈ (t.put j).1.place.toList := fun i0 a b => by
        obtain ⟨k, e, f⟩ := Z.way i0 g y a b
        exact ⟨k, e, fun k' hk' => more _ (f k' hk')⟩
      rcases Nat.lt_trichotomy i p with c | c | c
      · simp only [if_pos c] at hi hy
        exact old i hi hy
      · subst c
        simp only [Nat.lt_irrefl, if_false, if_true] at hi hy
        cases hi
        cases hy
        exact ⟨K, ej.symm, fun k' hk' => more _ (taken k' hk')⟩
      · simp only [if_neg (Nat.lt_asymm c), if_neg (Nat.ne_of_gt c)] at hi hy
        exact old (i - 1) hi hy
  · show (t.put j).1.place.size + (t.put j).1.dummies.size = hs.length + 1
    rw [size, put_dm Z.dm j] <;> rfl
/-! ### all laid anew -/
end DL
set_option maxHeartbeats 2000000
/-! DL33: sets of tuples of keys (ints, texts): the search, adding. The tables' theory is HandS.TupSets'; here it is used for keys whose hash is not told by the value alone. -/
namespace DL
open PySem PySem.Spec PyProof.Rows L2
abbrev ksH (P : Program) (w : World) (k : List Key) : Int := tupleKeyHash (mixKind P w) k
abbrev IsK (P : Program) (w : World) (h : Heap) (k : List Key) (a : Addr) : Prop := IsTupleKey (mixKind P w) h k a
abbrev KRow := Addr × List Key
section
variable {P : Program} {w : World} {A : Around} {E : Value → Shared → Prop} {s : Shared}
/-! ### the set -/
def ksRows (P : Program) (w : World) (L : List KRow) : List (Int × Value) := L.map fun p => (ksH P w p.2, Value.ref p.1)
/-- the masks that come -/
def MkZ (m : Nat) : Prop := m = 7 ∨ m = 31 ∨ m = 127 ∨ m = 511
structure SetK3 (P : Program) (w : World) (h : Heap) (a : Addr) (L : List KRow) (es : Array (Int × Value)) (ep : Nat) (t : SetTable) : Prop where
  ob : ∃ o, h.get? a = some o ∧ o.ExactSet ∧ o.data = .set es ep t
  rows : es.toList = ksRows P w L
  tab : TabZ t (L.map fun p => ksH P w p.2)
  mz : MkZ t.mask
  nd : (L.map (·.2)).Nodup
  tup : ∀ p ∈ L, IsK P w h p.2 p.1
  led : w.params.followText "set-order" = true ∨ t.led = true
  room : L.length * 5 < t.mask * 3
  few : L.length ≤ 306
variable {a : Addr} {L : List KRow} {es : Array (Int × Value)} {ep : Nat} {t : SetTable}
theorem rows_len (h : es.toList = ksRows P w L) : es.size = L.length := by
  have h := congrArg List.length h
  unfold ksRows at h
  rw [Array.length_toList, List.length_map] at h
  exact h
theorem fits_of (hs : t.place.size = es.size) (hd : t.dummies = #[]) (hl : es.size ≤ t.mask) : t.fits es.size = true := by
  unfold SetTable.fits SetTable.fill
  rw [hd, Bool.and_eq_true, beq_iff_eq, decide_eq_true_eq]
  show t.place.size = es.size ∧ t.place.size + 0 ≤ t.mask
  omega
theorem SetK3.psz (R : SetK3 P w s.heap a L es ep t) : t.place.size = es.size := by
  have h := R.tab.sz
  rw [List.length_map] at h
  rw [h, rows_len R.rows]
theorem SetK3.fits (R : SetK3 P w s.heap a L es ep t) : t.fits es.size = true := fits_of R.psz R.tab.dm (by
  have := R.room
  rw [rows_len R.rows]
  omega)
end
end DL
set_option maxHeartbeats 3200000
/-! DL34: sets of texts: made of a list or a tuple of texts. -/
namespace DL
open PySem PySem.Spec PyProof.Rows L2 PySem.Froz
/-- the set at a holds the texts l -/
def SS (P : Program) (w : World) (h : Heap) (a : Addr) (l : List Str) : Prop := ∃ D : SD, h.get? a = some (sObj "set" D) ∧ TxOk P w D l ∧ l.Nodup ∧ Ris D.2.2.place.toList ∧ (w.params.followText "set-order" = true ∨ D.2.2.led = true)
section
variable {P : Program} {w : World} {A : Around} {E : Value → Shared → Prop} {s : Shared}
theorem SS.at {h h' : Heap} {a : Addr} {l : List Str} (x : SS P w h a l) (k : ∀ o, h.get? a = some o → h'.get? a = some o) : SS P w h' a l := by
  obtain ⟨D, ho, r⟩ := x
  exact ⟨D, k _ ho, r⟩
/-- a text that is there already -/
theorem add_old {a : Addr} {T : String} {D : SD} {l : List Str} {k : Str} {u : Tok} {Q : Bool → Shared → Prop} (ho : s.heap.get? a = some (sObj T D)) (F : TxOk P w D l) (hk : k ∈ l) (hb : l.length < scanBound) (h : Q false s) : wpAny (model P w) A (setAddHashed a (.str k u) (hashStr w k)) Q E s := by
  obtain ⟨es, ep, t⟩ := D
  have hd : (sObj T (es, ep, t)).data = .set es ep t := rfl
  have hf : t.fits es.size = true := F.fit
  have hel : ElemsOf (strKind P w) es.toList := F.el
  have hsz : es.size = l.length := F.sz
  have hkey : (strKind P w).is k (.str k u) = true := is_str k u
  unfold setAddHashed setAddHashedIn
  refine wpAny_holding (wpAny_bind (wpAny_setState_of ho hd hf ?_))
  dsimp only
  rw [byScan_of rfl (by omega) hel]
  simp only [↓reduceIte]
  unfold setAddByScan
  refine wpAny_bind ?_
  refine wpAny_bind (wpAny_rule ?_)
  refine wpAny_bind (wpAny_setScan_of (knd := strKind P w) (k := k) hkey ho hd hf hel ?_)
  cases hr : List.findIdx? (fun e => (strKind P w).is k e.2) es.toList with
  | none =>
    obtain ⟨e, he, q⟩ := (F.mem k).mp hk
    have c := List.findIdx?_eq_none_iff.mp hr e he
    rw [q] at c
    cases c
  | some j =>
    dsimp only
    exact wpAny_pure (wpAny_pure h)
end
end DL
set_option maxHeartbeats 3200000
/-! DL35: sorted(set(xs)), len(set(xs)) of texts; sorted({pair of texts for .. in ..}). -/
namespace DL
open PySem PySem.Spec PyProof.Rows L2 PySem.Froz
/-! ### without doubles -/
def dd {α : Type} [DecidableEq α] : List α → List α
  | [] => []
  | x :: l => if x ∈ dd l then dd l else x :: dd l
section
variable {α : Type} [DecidableEq α]
theorem mem_dd {x : α} : ∀ {l : List α}, x ∈ dd l ↔ x ∈ l
  | [] => Iff.rfl
  | y :: l => by
    unfold dd
    split
    · rename_i h
      rw [mem_dd, List.mem_cons]
      exact ⟨.inr, fun z => z.elim (fun e => e ▸ mem_dd.mp h) id⟩
    · rw [List.mem_cons, List.mem_cons, mem_dd]
theorem nodup_dd : ∀ l : List α, (dd l).Nodup
  | [] => List.nodup_nil
  | y :: l => by
    unfold dd
    split
    · exact nodup_dd l
    · rename_i h
      exact List.nodup_cons.mpr ⟨h, nodup_dd l⟩
theorem dd_perm {ys l : List α} (nd : ys.Nodup) (h : ∀ x, x ∈ ys ↔ x ∈ l) : ys.Perm (dd l) := (List.perm_ext_iff_of_nodup nd (nodup_dd l)).mpr fun x => (h x).trans mem_dd.symm
theorem dd_of {l : List α} (h : l.Nodup) : dd l = l := by
  induction l with
  | nil => rfl
  | cons x l ih =>
    obtain ⟨h1, h2⟩ := List.nodup_cons.mp h
    unfold dd
    rw [ih h2, if_neg h1]
theorem dd_len (l : List α) : (dd l).length ≤ l.length := by
  induction l with
  | nil => exact Nat.le_refl _
  | cons x l ih =>
    unfold dd
    split
    · exact Nat.le_succ_of_le ih
    · exact Nat.succ_le_succ ih
end
theorem perm_of_sub {α : Type} [DecidableEq α] : ∀ {l m : List α}, l.Nodup → (∀ x ∈ l, x ∈ m) → m.length ≤ l.length → l.Perm m
  | [], m, _, _, h => by
    rw [List.length_nil] at h
    rw [List.eq_nil_of_length_eq_zero (Nat.le_zero.mp h)]
  | x :: l, m, nd, hs, h => by
    obtain ⟨h1, h2⟩ := List.nodup_cons.mp nd
    have hx : x ∈ m := hs x List.mem_cons_self
    have e := List.length_erase_of_mem hx
    rw [List.length_cons] at h
    have ih := perm_of_sub (m := m.erase x) h2 (fun y hy => (List.mem_erase_of_ne (fun (z : y = x) => h1 (z ▸ hy))).2 (hs y (List.mem_cons_of_mem _ hy))) (by omega)
    exact (ih.cons x).trans (List.perm_cons_erase hx).symm
/-! ### sets of texts as things of the heap -/
/-! ### words that name no world -/
/-- whatever follows from a wish -/
def tUp (ta : TE) : TE := fun σ H Q => ∃ Q0 : VK, ta σ H Q0 ∧ ∀ v H', Q0 v H' → Q v H'
theorem pe_up {X : Cx} {e : Expr} {ta : TE} (h : PE X e ta) : PE X e (tUp ta) := ⟨fun pins s σ H Q I ⟨Q0, h1, h2⟩ => wpAny_mono (h.run pins s σ H Q0 I h1) (fun v s' ⟨x, H', I', r, q⟩ => ⟨x, H', I', r, h2 _ _ q⟩) fun _ _ h => h⟩
/-! by data -/
section
variable {K : PySem.W.Frag} {ρ : List Sl} {ta : TE} {d : D}
theorem strs_dq {G : Hp} : ∀ zs : List Str, DqA K G (zs.map V.str) (zs.map PyData.str)
  | [] => .nil
  | z :: zs => .cons (.str z) (strs_dq zs)
/-- a new thing that nobody knows, then a new one -/
theorem Ext.two {G H : Hp} {a p : Addr} {φ : Heap → Prop} {o : HO} (g : GH G H) (ha : H a = none) (hp : H p = none) (hpa : p ≠ a) : Ext G H G (upd (upd H a (.ext φ)) p o) :=
  (Ext.fresh g ha).trans (Ext.fresh (Ext.fresh g ha).gh (by rw [upd_ne hpa]; exact hp))
end
end DL
set_option maxHeartbeats 3200000
/-! DL36: sorted({pair of texts for .. in ..}). -/
namespace DL
open PySem PySem.Spec PyProof.Rows L2
/-- the set of tuples at a, without the tuples themselves -/
def SetK0 (P : Program) (w : World) (h : Heap) (a : Addr) (L : List KRow) : Prop := ∃ (es : Array (Int × Value)) (ep : Nat) (t : SetTable), (∃ o, h.get? a = some o ∧ o.ExactSet ∧ o.data = .set es ep t) ∧ es.toList = ksRows P w L ∧ TabZ t (L.map fun p => ksH P w p.2) ∧ MkZ t.mask ∧ (L.map (·.2)).Nodup ∧
    (w.params.followText "set-order" = true ∨ t.led = true) ∧ L.length * 5 < t.mask * 3 ∧ L.length ≤ 306
section
variable {P : Program} {w : World}
theorem SetK0.full {h : Heap} {a : Addr} {L : List KRow} (R : SetK0 P w h a L) (ht : ∀ p ∈ L, IsK P w h p.2 p.1) : ∃ es ep t, SetK3 P w h a L es ep t := by
  obtain ⟨es, ep, t, h1, h2, h3, h8, h4, h5, h6, h7⟩ := R
  exact ⟨es, ep, t, h1, h2, h3, h8, h4, ht, h5, h6, h7⟩
end
end DL
set_option maxHeartbeats 3200000
/-! DL37: sorted of a set of pairs of texts; the rule by data. -/
namespace DL
open PySem PySem.Spec PyProof.Rows L2
section
variable {K : PySem.W.Frag} {ρ : List Sl} {te : TE}
def prD (q : Str × Str) : D := .tuple [.str q.1, .str q.2]
end
end DL
set_option maxHeartbeats 1000000
/-! DL38: list(d.values()) and len(d) of a plain dict; frozen and owned ones. -/
namespace DL
open PySem PySem.Spec PyProof.Rows L2
end DL
set_option maxHeartbeats 1000000
/-! DL39: defs called by keywords alone; split, startswith, endswith; a list unpacked; three stores at once. -/
namespace DL
open PySem PySem.Spec PyProof.Rows L2
/-! texts -/
def rSplitU : V → List V → Hp → VK → Prop := fun x xs H Q => ∃ a b, x = .str a ∧ xs = [.str b] ∧ (b.length == 0) = false ∧ a.length + 2 ≤ sizeLine ∧ rNewStrs (Txt.split a b) H Q
section
variable {X : Cx} {o e : Expr} {to te : TE} {apos pos : Pos}
theorem pe_splitU (ho : PE X o to) (he : PE X e te) (hs : starEach [e] X.env = [(false, eval e X.env)] := by rfl) (hbase : attributeBase o "split" X.env (eval o X.env) = eval o X.env := by rfl) (hline : (apos.endLine == pos.line) = true := by rfl) :
    PE X (.Call (.Attribute o "split" apos) [e] [] pos) (tM1 rSplitU to te) := pe_split ho he hs hbase hline
end
section
variable {K : PySem.W.Frag} {ρ : List Sl} {Ex : XK} {P : Oc → Prop} {ta tb tc te : TE} {a b : Str} {d d1 d2 d3 : D} {u : TS}
theorem en_split (h : EV K ta ρ (.str a)) (h2 : EV K tb ρ (.str b)) (hb : (b.length == 0) = false) (ha : a.length + 2 ≤ sizeLine) : EVN K (tM1 rSplitU ta tb) ρ (.list ((Txt.split a b).map PyData.str)) := fun G0 H0 G H σ Q E q =>
  h G0 H0 G H σ _ E fun v G1 H1 e1 h1 => by
    cases h1
    refine ⟨⟨a, rfl⟩, h2 G0 H0 G1 H1 σ _ (E.go e1) fun u G2 H2 e2 hu => ?_⟩
    cases hu
    refine ⟨a, b, rfl, rfl, hb, ha, fun p hp => ?_⟩
    exact q p G2 _ ((e1.trans e2).trans (.fresh e2.gh hp)) ((e1.trans e2).gone hp) (e2.gh.none hp) (.lst upd_same (strs_dq _))
theorem gt_unl {gs : TGs} {ρ' : List Sl} {ds : List D} {ts : List Nat} {n : Nat} (hn : ds.length = n) (h : GTs K gs ρ ds ρ' ts) : GT K (gUnl K n gs) ρ (.list ds) ρ' ts := fun G0 H0 G H σ v Q E hd q => by
  cases hd with
  | lst a b => exact ⟨_, _, rfl, SqL.of (E.gh.lst a), b.length.trans hn, h G0 H0 G H σ _ Q E b q⟩
end
end DL
set_option maxHeartbeats 1000000
/-! DL40: min and max of two texts, of two pairs of texts. -/
namespace DL
open PySem PySem.Spec PyProof.Rows L2 PySem.Calls
end DL
set_option maxHeartbeats 1000000
/-! DL41: an owned thing lent to an expression that gives a flat value; list(d) of a plain dict. -/
namespace DL
open PySem PySem.Spec PyProof.Rows L2
section
variable {K : PySem.W.Frag} {ρ : List Sl} {te : TE} {d e : D}
theorem flat_any {G G' : Hp} {v : V} (h : Dq K G v d) (f : flatD d = true) : Dq K G' v d := by
  cases h with
  | non => exact .non
  | bl b => exact .bl b
  | int i => exact .int i
  | str z => exact .str z
  | _ => exact absurd f Bool.false_ne_true
/-- slot n, owned, is read as a frozen one by te -/
theorem ev_lend {n : Nat} (hi : ρ[n]? = some (.ow e)) (h : EV K te (ρ.set n (.fr e)) d) (f : flatD d = true) : EV K te ρ d := fun G0 H0 G H σ Q E q => by
  obtain ⟨l, h1, h2, h3, h4⟩ := E.ow n e hi
  obtain ⟨o, ho, ht, hm⟩ := h4.there2
  have E' := E.frzAs hi h1 (.of ho hm) fun gg => h4.dq (Sub.of gg) fun u hu => by rw [upd_same]; rw [ho] at hu; exact hu
  have gg : ∀ a u, G a = some u → upd G l o a = some u := fun a u e => by rw [upd_ne (ne_of_none e h3)]; exact e
  refine h G0 H0 _ H σ Q E' fun v G2 H2 x hv => q v G H2 ⟨fun _ _ h => h, fun a u hu => ?_, fun a u hu => x.gh a u (x.gg a u (gg a u hu)), fun _ _ _ _ h => h⟩ (flat_any hv f)
  refine (x.hh a u hu).imp id fun ⟨z, hz, mz⟩ => ?_
  by_cases ea : a = l
  · subst ea
    rw [upd_same] at hz
    cases hz
    rw [hm] at mz
    cases mz
  · rw [upd_ne ea] at hz
    exact ⟨z, hz, mz⟩
end
end DL
set_option maxHeartbeats 1000000
/-! DL42: sorted of a list or a tuple of texts. -/
namespace DL
open PySem PySem.Spec PyProof.Rows L2
end DL
set_option maxHeartbeats 1000000
/-! DL43: tuple of a text. -/
namespace DL
open PySem PySem.Spec PyProof.Rows L2
end DL
set_option maxHeartbeats 1000000
/-! DL44: strip(characters), max of a list of ints, d.get(k, default) of dicts by texts. -/
namespace DL
open PySem PySem.Spec PyProof.Rows L2
section
variable {K : PySem.W.Frag} {ρ : List Sl} {ta tb : TE} {a b : Str}
/-- d.get(x, z) of an owned dict -/
theorem ev_get2O {n : Nat} {kvs : List (Key × D)} {k : Key} {dk z : D} {tz : TE} (hi : ρ[n]? = some (.ow (dkD kvs))) (hk : EV K tb ρ dk) (ek : dk = kD k) (hz : EV K tz ρ z) : EV K (tDGet2 (tVar n) tb tz) ρ ((getG kvs k).getD z) := fun G0 H0 G H σ Q E q => by
  obtain ⟨l, h1, _, h0, h4⟩ := E.ow n _ hi
  obtain ⟨es, h5, h6⟩ := own_dk h4
  refine ⟨_, h1, l, rfl, .inl ⟨es, .inl h5⟩, hk G0 H0 G H σ _ E fun y G2 H2 e2 hy => hz G0 H0 G2 H2 σ _ (E.go e2) fun w G3 H3 e3 hw => ?_⟩
  subst ek
  have ez := key_dq hy
  subst ez
  have h7 := (e2.trans e3).at h0 h5
  rcases (h6.mono (e2.trans e3).g).get (k := k) with ⟨a, b⟩ | ⟨v, d', a, b, c⟩
  · exact ⟨_, .inl ⟨es, k, .inl h7, rfl, a.symm⟩, q _ G3 H3 (e2.trans e3) (by rw [b]; exact hw)⟩
  · exact ⟨_, .inl ⟨es, k, .inl h7, rfl, a.symm⟩, q _ G3 H3 (e2.trans e3) (by rw [b]; exact c)⟩
end
end DL
set_option maxHeartbeats 1000000
/-! DL45: texts cut at a sign: lines, words; joined texts; helps for walks. -/
namespace DL
open PySem PySem.Spec PyProof.Rows L2
/-- the pieces of a list between the signs s -/
def cutAt (s : Nat) : List Nat → List (List Nat)
  | [] => [[]]
  | c :: r => if c = s then [] :: cutAt s r else match cutAt s r with
    | [] => [[c]]
    | h :: t => (c :: h) :: t
theorem cutAt_ne (s : Nat) : ∀ l, cutAt s l ≠ []
  | [] => fun h => nomatch h
  | c :: r => by
    unfold cutAt
    split
    · exact List.cons_ne_nil _ _
    · cases cutAt s r <;> exact List.cons_ne_nil _ _
theorem cutAt_hit (s : Nat) (r : List Nat) : cutAt s (s :: r) = [] :: cutAt s r := by
  conv => lhs; unfold cutAt
  rw [if_pos rfl]
theorem cutAt_miss {s c : Nat} (h : c ≠ s) {r : List Nat} {a : List Nat} {t : List (List Nat)} (e : cutAt s r = a :: t) : cutAt s (c :: r) = (c :: a) :: t := by
  conv => lhs; unfold cutAt
  rw [if_neg h, e]
theorem cutAt_free {s : Nat} : ∀ {l : List Nat}, s ∉ l → cutAt s l = [l]
  | [], _ => rfl
  | c :: r, h => cutAt_miss (fun e => h (by rw [e]; exact List.mem_cons_self)) (cutAt_free fun m => h (List.mem_cons_of_mem _ m))
theorem cutAt_app (s : Nat) (b : List Nat) : ∀ a, cutAt s (a ++ s :: b) = cutAt s a ++ cutAt s b
  | [] => cutAt_hit s b
  | c :: r => by
    have ih := cutAt_app s b r
    by_cases h : c = s
    · subst h
      rw [List.cons_append, cutAt_hit, cutAt_hit, ih, List.cons_append]
    · cases e : cutAt s r with
      | nil => exact absurd e (cutAt_ne s r)
      | cons x t =>
        rw [e, List.cons_append] at ih
        rw [List.cons_append, cutAt_miss h ih, cutAt_miss h e, List.cons_append]
theorem cutAt_mem {s : Nat} : ∀ {l p : List Nat}, p ∈ cutAt s l → s ∉ p ∧ (∀ x ∈ p, x ∈ l) ∧ p.length ≤ l.length
  | [], p, h => by
    rw [List.mem_singleton.mp h]
    exact ⟨List.not_mem_nil, fun x m => m, Nat.le_refl _⟩
  | c :: r, p, h => by
    by_cases k : c = s
    · subst k
      rw [cutAt_hit] at h
      rcases List.mem_cons.mp h with rfl | h
      · exact ⟨List.not_mem_nil, fun x m => absurd m List.not_mem_nil, Nat.zero_le _⟩
      · obtain ⟨a, b, d⟩ := cutAt_mem h
        exact ⟨a, fun x m => List.mem_cons_of_mem _ (b x m), Nat.le_succ_of_le d⟩
    · cases e : cutAt s r with
      | nil => exact absurd e (cutAt_ne s r)
      | cons x t =>
        rw [cutAt_miss k e] at h
        have at' : ∀ q ∈ x :: t, s ∉ q ∧ (∀ y ∈ q, y ∈ r) ∧ q.length ≤ r.length := fun q hq => cutAt_mem (by rw [e]; exact hq)
        rcases List.mem_cons.mp h with rfl | h
        · obtain ⟨a, b, d⟩ := at' x List.mem_cons_self
          refine ⟨fun m => ?_, fun y m => ?_, by rw [List.length_cons, List.length_cons]; omega⟩
          · rcases List.mem_cons.mp m with m | m
            · exact k m.symm
            · exact a m
          · rcases List.mem_cons.mp m with rfl | m
            · exact List.mem_cons_self
            · exact List.mem_cons_of_mem _ (b y m)
        · obtain ⟨a, b, d⟩ := at' p (List.mem_cons_of_mem _ h)
          exact ⟨a, fun y m => List.mem_cons_of_mem _ (b y m), Nat.le_succ_of_le d⟩
theorem cutAt_len (s : Nat) : ∀ l : List Nat, (cutAt s l).length ≤ l.length + 1
  | [] => Nat.le_refl _
  | c :: r => by
    have ih := cutAt_len s r
    by_cases k : c = s
    · subst k
      rw [cutAt_hit, List.length_cons, List.length_cons]
      omega
    · cases e : cutAt s r with
      | nil => exact absurd e (cutAt_ne s r)
      | cons x t =>
        rw [e, List.length_cons] at ih
        rw [cutAt_miss k e, List.length_cons, List.length_cons]
        omega
theorem cutAt_join (s : Nat) : ∀ {ps : List (List Nat)}, ps ≠ [] → (∀ p ∈ ps, s ∉ p) → cutAt s (TL.joinL [s] ps) = ps
  | [], h, _ => absurd rfl h
  | [p], _, h => cutAt_free (h p List.mem_cons_self)
  | p :: q :: r, _, h => by
    show cutAt s (p ++ ([s] ++ TL.joinL [s] (q :: r))) = _
    rw [show p ++ ([s] ++ TL.joinL [s] (q :: r)) = p ++ s :: TL.joinL [s] (q :: r) from rfl, cutAt_app, cutAt_free (h p List.mem_cons_self), cutAt_join s (List.cons_ne_nil _ _) fun x hx => h x (List.mem_cons_of_mem _ hx)]
    rfl
theorem spl_cut (s : Nat) : ∀ (l acc : List Nat) {x : List Nat} {t : List (List Nat)}, cutAt s l = x :: t → TL.spl [s] 0 acc l = (acc ++ x) :: t
  | [], acc, x, t, e => by
    cases e
    rw [TL.spl_nil, List.append_nil]
  | c :: r, acc, x, t, e => by
    have hp : TL.pre [s] (c :: r) = decide (c = s) := by
      show ([c] == [s]) = _
      by_cases k : c = s
      · subst k; simp
      · simp [k]
    by_cases k : c = s
    · subst k
      rw [cutAt_hit] at e
      cases e
      rw [TL.spl_hit (by rw [hp]; exact decide_eq_true rfl), List.append_nil]
      cases e2 : cutAt c r with
      | nil => exact absurd e2 (cutAt_ne c r)
      | cons y u => 
        have := spl_cut c r [] e2
        rw [show [c].length - 1 = 0 from rfl, this, List.nil_append]
    · cases e2 : cutAt s r with
      | nil => exact absurd e2 (cutAt_ne s r)
      | cons y u =>
        rw [cutAt_miss k e2] at e
        cases e
        rw [TL.spl_miss (by rw [hp]; exact decide_eq_false k), spl_cut s r _ e2, List.append_assoc]
        rfl
/-- the pieces of a text between the signs s -/
def mkS (l : List Nat) : Str := ⟨l.toArray⟩
theorem mkS_of (z : Str) : mkS z.cps.toList = z := TL.mk_tl z
def piecesT (s : Nat) (z : Str) : List Str := (cutAt s z.cps.toList).map mkS
theorem map_tl {l : List Str} {m : List (List Nat)} (h : l.map TL.tl = m) : l = m.map mkS := by
  subst h
  rw [List.map_map]
  conv => lhs; rw [← List.map_id l]
  exact List.map_congr_left fun z _ => (mkS_of z).symm
theorem split_pieces {z y : Str} {s : Nat} (hy : y.cps.toList = [s]) (hk : y.cps.all (· < 256) = true) : Txt.split z y = piecesT s z := by
  have h := TL.split_spl z y (by show y.cps.toList ≠ []; rw [hy]; exact List.cons_ne_nil _ _) (by
    have : Builtin.Str.strKind y = 1 := by
      unfold Builtin.Str.strKind
      rw [if_pos hk]
    rw [this]
    unfold Builtin.Str.strKind
    split
    · decide
    · split <;> decide)
  have e : TL.tl y = [s] := hy
  rw [e] at h
  cases k : cutAt s z.cps.toList with
  | nil => exact absurd k (cutAt_ne s _)
  | cons x t =>
    have h2 : TL.spl [s] 0 [] (TL.tl z) = x :: t := spl_cut s _ [] k
    rw [h2] at h
    rw [map_tl h]
    unfold piecesT
    rw [k]
theorem sp_list : (" " : Str).cps.toList = [32] := by decide +kernel
theorem nl_list : ("\n" : Str).cps.toList = [10] := by decide +kernel
theorem split_sp (z : Str) : Txt.split z " " = piecesT 32 z := split_pieces sp_list (by decide +kernel)
theorem split_nl (z : Str) : Txt.split z "\n" = piecesT 10 z := split_pieces nl_list (by decide +kernel)
theorem len_list (z : Str) : z.length = z.cps.toList.length := by
  show z.cps.size = _
  rw [Array.length_toList]
theorem pieces_len (s : Nat) (z : Str) : (piecesT s z).length ≤ z.length + 1 := by
  unfold piecesT
  rw [List.length_map, len_list]
  exact cutAt_len s _
theorem pieces_mem {s : Nat} {z p : Str} (h : p ∈ piecesT s z) : s ∉ p.cps.toList ∧ (∀ x ∈ p.cps.toList, x ∈ z.cps.toList) ∧ p.length ≤ z.length := by
  obtain ⟨l, hl, rfl⟩ := List.mem_map.mp h
  have := cutAt_mem hl
  rw [len_list, len_list]
  exact this
theorem pieces_app {s : Nat} {a b y : Str} (hy : y.cps.toList = [s]) : piecesT s (a ++ y ++ b) = piecesT s a ++ piecesT s b := by
  unfold piecesT
  rw [app_list, app_list, hy, List.append_assoc]
  show (cutAt s (a.cps.toList ++ s :: b.cps.toList)).map mkS = _
  rw [cutAt_app, List.map_append]
theorem pieces_free {s : Nat} {z : Str} (h : s ∉ z.cps.toList) : piecesT s z = [z] := by
  unfold piecesT
  rw [cutAt_free h]
  show [mkS z.cps.toList] = [z]
  rw [mkS_of]
theorem join_list (y : Str) (ps : List Str) : (Txt.join y ps).cps.toList = TL.joinL y.cps.toList (ps.map fun p => p.cps.toList) := by
  rw [TL.join_eq]
  exact TL.tl_join y ps
theorem pieces_join {s : Nat} {y : Str} {ps : List Str} (hy : y.cps.toList = [s]) (h : ps ≠ []) (hp : ∀ p ∈ ps, s ∉ p.cps.toList) : piecesT s (Txt.join y ps) = ps := by
  unfold piecesT
  rw [join_list, hy, cutAt_join s (fun e => h (List.map_eq_nil_iff.mp e)) (fun p hp' => by
    obtain ⟨q, hq, rfl⟩ := List.mem_map.mp hp'
    exact hp q hq), List.map_map]
  conv => rhs; rw [← List.map_id ps]
  exact List.map_congr_left fun z _ => mkS_of z
/-! joined texts -/
theorem joinL_len (S : List Nat) : ∀ parts : List (List Nat), (TL.joinL S parts).length ≤ (parts.map (·.length)).sum + parts.length * S.length
  | [] => Nat.zero_le _
  | [p] => by
    show p.length ≤ p.length + 0 + 1 * S.length
    omega
  | p :: q :: r => by
    have ih := joinL_len S (q :: r)
    show (p ++ (S ++ TL.joinL S (q :: r))).length ≤ _
    rw [List.length_append, List.length_append, List.map_cons, List.sum_cons, List.length_cons (a := p), Nat.add_mul]
    omega
theorem sum_le {l : List Str} {m : Nat} (h : ∀ z ∈ l, z.length ≤ m) : (l.map (·.length)).sum ≤ l.length * m := by
  induction l with
  | nil => exact Nat.zero_le _
  | cons a r ih =>
    rw [List.map_cons, List.sum_cons, List.length_cons, Nat.add_mul, Nat.one_mul, Nat.add_comm]
    exact Nat.add_le_add (ih fun z hz => h z (List.mem_cons_of_mem _ hz)) (h a List.mem_cons_self)
theorem join_len (y : Str) (ps : List Str) {m : Nat} (h : ∀ p ∈ ps, p.length ≤ m) : (Txt.join y ps).length ≤ ps.length * (m + y.length) := by
  have h1 := joinL_len y.cps.toList (ps.map fun p => p.cps.toList)
  have h2 : ((ps.map fun p => p.cps.toList).map (·.length)).sum = (ps.map (·.length)).sum := by
    rw [List.map_map]
    refine congrArg List.sum (List.map_congr_left fun z _ => ?_)
    exact (len_list z).symm
  have h3 := sum_le h
  rw [len_list, join_list]
  rw [h2, List.length_map, ← len_list] at h1
  rw [Nat.mul_add]
  omega
theorem join_fit {a : Str} {l : List Str} {m n : Nat} (h : ∀ z ∈ l, z.length ≤ m) (hl : l.length ≤ n) (ha : a.length ≤ 1) (hk : n * m + n ≤ 16777216) : (l.map (·.length)).sum + l.length * a.length ≤ 16777216 := by
  have h1 := sum_le h
  have h2 : l.length * m ≤ n * m := Nat.mul_le_mul hl (Nat.le_refl _)
  have h3 : l.length * a.length ≤ n * 1 := Nat.mul_le_mul hl ha
  omega
theorem take_one {α : Type} {ps : List α} {i : Nat} (hi : i < ps.length) (z : α) : ps.take (i + 1) = ps.take i ++ [ps.getD i z] := by
  rw [List.take_succ, List.getElem?_eq_getElem hi, List.getD_eq_getElem?_getD, List.getElem?_eq_getElem hi]
  rfl
theorem bS_len (ys : List Str) : (bS ys).length = ys.length := List.length_map _
end DL
set_option maxHeartbeats 1000000
/-! DL46: zip of a tuple with a text, of a text with a tuple. -/
namespace DL
open PySem PySem.Spec PyProof.Rows L2 RZ
def ItzTS (K : PySem.W.Frag) (a : Addr) (z : Str) : It :=
  ⟨fun i H => ∃ (xs : List V) (x : V), SqT K H a xs ∧ xs[i]? = some x ∧ i < z.cps.size,
    fun i H v H' => ∃ T x c, v = .ref T ∧ H T = none ∧ H' = upd H T (.tup [x, .str ⟨#[c]⟩]) ∧ (∀ xs, SqT K H a xs → xs[i]? = some x) ∧ z.cps[i]? = some c,
    fun i H => ∃ xs : List V, SqT K H a xs ∧ i ≤ xs.length ∧ i ≤ z.cps.size ∧ (i = xs.length ∨ i = z.cps.size)⟩
def ItzST (K : PySem.W.Frag) (z : Str) (a : Addr) : It :=
  ⟨fun i H => ∃ (xs : List V) (x : V), SqT K H a xs ∧ xs[i]? = some x ∧ i < z.cps.size,
    fun i H v H' => ∃ T x c, v = .ref T ∧ H T = none ∧ H' = upd H T (.tup [.str ⟨#[c]⟩, x]) ∧ (∀ xs, SqT K H a xs → xs[i]? = some x) ∧ z.cps[i]? = some c,
    fun i H => ∃ xs : List V, SqT K H a xs ∧ i ≤ xs.length ∧ i ≤ z.cps.size ∧ (i = xs.length ∨ i = z.cps.size)⟩
structure ZA (z TI TO i1 i2 : Addr) : Prop where
  TIz : TI ≠ z
  TOz : TO ≠ z
  TITO : TI ≠ TO
  TIi1 : TI ≠ i1
  TIi2 : TI ≠ i2
  TOi1 : TO ≠ i1
  TOi2 : TO ≠ i2
  i1z : i1 ≠ z
  i2z : i2 ≠ z
  i12 : i1 ≠ i2
theorem ZA.mk5 (n : Nat) : ZA (n + 4) (n + 2) (n + 3) n (n + 1) := by
  constructor <;> (intro e; exact absurd (show (_ : Nat) = _ from e) (by omega))
theorem tup_ne {h : Heap} {l : Addr} {its : Array Value} {b : Addr} {o : Obj} (hl : h.IsTuple l its) (hb : h.get? b = some o) (hc : o.cls ≠ .type "tuple") : b ≠ l := by
  rintro rfl
  obtain ⟨o2, h2, c2, _⟩ := hl
  rw [hb] at h2
  cases h2
  exact hc c2
theorem val_ty {a : String} (h : a ≠ "tuple") : Value.type a ≠ Value.type "tuple" := fun e => h (by injection e)
theorem strIter_ne (z : Str) : strIterType z ≠ "tuple" := by
  unfold strIterType
  split <;> decide
/-- what a zip over two iterators needs to lie apart -/
theorem ZA.sep {z TI TO i1 i2 : Addr} (Z : ZA z TI TO i1 i2) {f1 f2 : List Addr} (m1 : i1 ∈ f1) (m2 : i2 ∈ f2) (a1 : z ∉ f1) (b1 : TO ∉ f1) (c1 : i2 ∉ f1) (a2 : z ∉ f2) (b2 : TO ∉ f2) (c2 : i1 ∉ f2) : ZipSep2 z TI TO i1 i2 f1 f2 :=
  ⟨Z.TIz, Z.TOz, Z.TITO, Z.TIi1, m1, a1, b1, Z.TIi2, m2, a2, b2, c2, c1⟩
def isStI (h : Heap) (it : Addr) (z : Str) (t : Tok) (i : Nat) : Prop := h.IsStrIter it (strIterType z) z t i
theorem isStI.at {h h' : Heap} {it : Addr} {z : Str} {t : Tok} {i : Nat} (x : isStI h it z t i) (k : ∀ o, h.get? it = some o → h'.get? it = some o) : isStI h' it z t i := let ⟨o, ho, r⟩ := x; ⟨o, k o ho, r⟩
theorem turn_zipTS {P : Program} {w : World} {K : PySem.W.Frag} {elts : List Expr} {kk : Nat} {tpos : Pos} {a zz TI TO i1 i2 : Addr} {z : Str} {t : Tok} (Z : ZA zz TI TO i1 i2) :
    Turn P w K (.Tuple elts kk tpos) (ItzTS K a z) [zz, TI, TO, i1, i2] zz (fun i h => IsZip h zz TI TO .none ∧ IsTupOf2 h TI (.ref i1) (.ref i2) ∧ (∃ x y, IsTupOf2 h TO x y) ∧ h.IsTupleIter i1 a i ∧ isStI h i2 z t i ∧ TO ≠ a) where
  mem := by simp
  obj := fun i h st c hc => by
    obtain ⟨hz, hTI, ⟨x, y, hTO⟩, ⟨o1, e1, _, d1⟩, ⟨o2, e2, _, d2⟩, _⟩ := st
    have e' : c = zz ∨ c = TI ∨ c = TO ∨ c = i1 ∨ c = i2 := by simpa using hc
    rcases e' with q | q | q | q | q
    · rw [q]; exact ⟨_, hz, fun v q => nomatch q⟩
    · rw [q]; exact ⟨_, hTI, fun v q => nomatch q⟩
    · rw [q]; exact ⟨_, hTO, fun v q => nomatch q⟩
    · rw [q]; exact ⟨o1, e1, fun v q => by rw [d1] at q; cases q⟩
    · rw [q]; exact ⟨o2, e2, fun v q => by rw [d2] at q; cases q⟩
  keep := fun i h h' st k => by
    obtain ⟨hz, hTI, ⟨x, y, hTO⟩, h1, h2, hne⟩ := st
    exact ⟨k zz (by simp) _ hz, k TI (by simp) _ hTI, ⟨x, y, k TO (by simp) _ hTO⟩, h1.at fun o q => k i1 (by simp) o q, h2.at fun o q => k i2 (by simp) o q, hne⟩
  item := by
    intro X hP hw hK hc i pins s σ H E I hf st hg
    subst hP hw hK
    obtain ⟨hz, hTI, ⟨x0, y0, hTO⟩, h1, h2, hne⟩ := st
    obtain ⟨xs, x, hq, hx, hzs⟩ := hg
    obtain ⟨its, rv, p, _⟩ := I.tuple hq
    obtain ⟨u, hu, ru⟩ := rv.get hx
    have hi : i < its.toArray.size := by
      rw [List.size_toArray]
      exact (List.getElem?_eq_some_iff.mp hu).1
    have hzl : zz < s.heap.objs.size := Heap.lt_size hz
    have hta : i1 ≠ a := by
      obtain ⟨o, ho, hc', _⟩ := id h1
      exact tup_ne p ho (by rw [hc']; exact val_ty (by decide))
    have hza : zz ≠ a := tup_ne p hz (val_ty (by decide))
    have hsa : i2 ≠ a := by
      obtain ⟨o, ho, hc', _⟩ := id h2
      exact tup_ne p ho (by rw [hc']; exact val_ty (strIter_ne z))
    have hh : X.A.in1.handled = none := I.ok.hd hc
    have DT := Draws.tuple (prog := X.prog) (w := X.w) (A := X.A.in1) hh i1 a (Ne.symm hta) its.toArray
    have DS := Draws.text (prog := X.prog) (w := X.w) (A := X.A.in1) hh i2 z t
    have S : ZipSep2 zz TI TO i1 i2 [i1, a] [i2] := Z.sep (by simp) (by simp) (by simp [Z.i1z.symm, hza]) (by simp [Z.TOi1, hne]) (by simp [Z.i12.symm, hsa, hta]) (by simp [Z.i2z.symm, hza]) (by simp [Z.TOi2, hne]) (by simp [Z.i12, hsa, hta])
    refine wpAny_pyNext_zipD2_item S DT DS hz hTI hTO ⟨h1, p⟩ h2 hi hzs fun u1 u2 h' tk y1 y2 z' TO' h1' h2' hT hsz hk => ?_
    refine ⟨_, rfl, wpAny_letOwnedTupleGo_zip (s := { s with heap := h', toks := tk }) z' fun h'' z'' sb => ?_⟩
    have hT2 : h''.get? s.heap.objs.size = some { cls := .type "tuple", data := .seq #[u1, u2] } := (sb.2 _ (Nat.ne_of_gt hzl)).trans hT
    obtain ⟨c, tc, hc1, hc2⟩ := y2
    have ex : u1 = u := by
      have := y1
      rw [show its.toArray[i]? = some u from by simpa using hu] at this
      exact (Option.some.inj this).symm
    subst hc2 ex
    have new : ObjOk X.prog X.w (upd H s.heap.objs.size (.tup [x, .str ⟨#[c]⟩])) h'' s.heap.objs.size (.tup [x, .str ⟨#[c]⟩]) :=
      ⟨by show 2 ≤ sizeLine; decide, _, .cons ru (.cons ⟨_, rfl⟩ .nil), ⟨_, hT2, rfl, _, rfl⟩⟩
    have I1 : Inv X pins σ (upd H s.heap.objs.size (.tup [x, .str ⟨#[c]⟩])) { s with heap := h'', toks := tk } :=
      I.turnedNew (t' := tk) (ch := [zz, TI, TO, i1, i2]) (fun c o hb q => (sb.2 c (fun q' => hb (by simp [q']))).trans (hk c o (fun q' => hb (by simp [q'])) (fun q' => hb (by simp [q'])) (fun q' => hb (by simp [q'])) (fun q' => hb (by simp [q'])) q)) hf (Nat.le_refl _) new
    refine ⟨.ref s.heap.objs.size, _, I1, rfl, ⟨_, x, c, rfl, I.hok.fresh (Nat.le_refl _), rfl, fun l hl => by rw [I.tuple_inj hl hq]; exact hx, hc1⟩, ⟨z'', ?_, ⟨u1, .str ⟨#[c]⟩ tc, ?_⟩, ?_, ?_, hne⟩, fun c hcm => ?_⟩
    · exact (sb.2 _ Z.TIz).trans (hk _ _ Z.TIz Z.TITO Z.TIi1 Z.TIi2 hTI)
    · exact (sb.2 _ Z.TOz).trans TO'
    · exact h1'.1.at fun o q => (sb.2 _ Z.i1z).trans q
    · exact isStI.at h2' fun o q => (sb.2 _ Z.i2z).trans q
    · have hlt : c < s.heap.objs.size := by
        have e' : c = zz ∨ c = TI ∨ c = TO ∨ c = i1 ∨ c = i2 := by simpa using hcm
        rcases e' with q | q | q | q | q
        · rw [q]; exact hzl
        · rw [q]; exact Heap.lt_size hTI
        · rw [q]; exact Heap.lt_size hTO
        · rw [q]; obtain ⟨_, e1, _⟩ := h1; exact Heap.lt_size e1
        · rw [q]; obtain ⟨_, e2, _⟩ := h2; exact Heap.lt_size e2
      rw [upd_ne (Nat.ne_of_lt hlt)]
      exact (hf c hcm).1
  done := by
    intro X hP hw hK hc i pins s σ H E I hf st hg
    subst hP hw hK
    obtain ⟨hz, hTI, ⟨x0, y0, hTO⟩, h1, h2, hne⟩ := st
    obtain ⟨xs, hq, hl1, hl2, hend⟩ := hg
    obtain ⟨its, rv, p, _⟩ := I.tuple hq
    have l1 := rv.length
    have hta : i1 ≠ a := by
      obtain ⟨o, ho, hc', _⟩ := id h1
      exact tup_ne p ho (by rw [hc']; exact val_ty (by decide))
    have hza : zz ≠ a := tup_ne p hz (val_ty (by decide))
    have hsa : i2 ≠ a := by
      obtain ⟨o, ho, hc', _⟩ := id h2
      exact tup_ne p ho (by rw [hc']; exact val_ty (strIter_ne z))
    have hh : X.A.in1.handled = none := I.ok.hd hc
    have DT := Draws.tuple (prog := X.prog) (w := X.w) (A := X.A.in1) hh i1 a (Ne.symm hta) its.toArray
    have DS := Draws.text (prog := X.prog) (w := X.w) (A := X.A.in1) hh i2 z t
    have S : ZipSep2 zz TI TO i1 i2 [i1, a] [i2] := Z.sep (by simp) (by simp) (by simp [Z.i1z.symm, hza]) (by simp [Z.TOi1, hne]) (by simp [Z.i12.symm, hsa, hta]) (by simp [Z.i2z.symm, hza]) (by simp [Z.TOi2, hne]) (by simp [Z.i12, hsa, hta])
    have es : its.toArray.size = xs.length := by rw [List.size_toArray]; exact l1.symm
    exact wpAny_pyNext_zipD2_end S DT DS hz hTI hTO ⟨h1, p⟩ h2 (by rw [es]; exact hl1) hl2 (by rw [es]; exact hend) fun h' tk hk => ⟨rfl, I.turnedL (t' := tk) (ch := [zz, TI, TO, i1, i2]) (fun c o hb q =>
      hk c o (fun q' => hb (by simp [q'])) (fun q' => hb (by simp [q'])) (fun q' => hb (by simp [q'])) (fun q' => hb (by simp [q'])) q) hf⟩
  self := fun A i s Q E st h => wpAny_pyIter_zip st.1 h
theorem turn_zipST {P : Program} {w : World} {K : PySem.W.Frag} {elts : List Expr} {kk : Nat} {tpos : Pos} {a zz TI TO i1 i2 : Addr} {z : Str} {t : Tok} (Z : ZA zz TI TO i1 i2) :
    Turn P w K (.Tuple elts kk tpos) (ItzST K z a) [zz, TI, TO, i1, i2] zz (fun i h => IsZip h zz TI TO .none ∧ IsTupOf2 h TI (.ref i1) (.ref i2) ∧ (∃ x y, IsTupOf2 h TO x y) ∧ isStI h i1 z t i ∧ h.IsTupleIter i2 a i ∧ TO ≠ a) where
  mem := by simp
  obj := fun i h st c hc => by
    obtain ⟨hz, hTI, ⟨x, y, hTO⟩, ⟨o1, e1, _, d1⟩, ⟨o2, e2, _, d2⟩, _⟩ := st
    have e' : c = zz ∨ c = TI ∨ c = TO ∨ c = i1 ∨ c = i2 := by simpa using hc
    rcases e' with q | q | q | q | q
    · rw [q]; exact ⟨_, hz, fun v q => nomatch q⟩
    · rw [q]; exact ⟨_, hTI, fun v q => nomatch q⟩
    · rw [q]; exact ⟨_, hTO, fun v q => nomatch q⟩
    · rw [q]; exact ⟨o1, e1, fun v q => by rw [d1] at q; cases q⟩
    · rw [q]; exact ⟨o2, e2, fun v q => by rw [d2] at q; cases q⟩
  keep := fun i h h' st k => by
    obtain ⟨hz, hTI, ⟨x, y, hTO⟩, h1, h2, hne⟩ := st
    exact ⟨k zz (by simp) _ hz, k TI (by simp) _ hTI, ⟨x, y, k TO (by simp) _ hTO⟩, h1.at fun o q => k i1 (by simp) o q, h2.at fun o q => k i2 (by simp) o q, hne⟩
  item := by
    intro X hP hw hK hc i pins s σ H E I hf st hg
    subst hP hw hK
    obtain ⟨hz, hTI, ⟨x0, y0, hTO⟩, h1, h2, hne⟩ := st
    obtain ⟨xs, x, hq, hx, hzs⟩ := hg
    obtain ⟨its, rv, p, _⟩ := I.tuple hq
    obtain ⟨u, hu, ru⟩ := rv.get hx
    have hi : i < its.toArray.size := by
      rw [List.size_toArray]
      exact (List.getElem?_eq_some_iff.mp hu).1
    have hzl : zz < s.heap.objs.size := Heap.lt_size hz
    have hta : i2 ≠ a := by
      obtain ⟨o, ho, hc', _⟩ := id h2
      exact tup_ne p ho (by rw [hc']; exact val_ty (by decide))
    have hza : zz ≠ a := tup_ne p hz (val_ty (by decide))
    have hsa : i1 ≠ a := by
      obtain ⟨o, ho, hc', _⟩ := id h1
      exact tup_ne p ho (by rw [hc']; exact val_ty (strIter_ne z))
    have hh : X.A.in1.handled = none := I.ok.hd hc
    have DT := Draws.tuple (prog := X.prog) (w := X.w) (A := X.A.in1) hh i2 a (Ne.symm hta) its.toArray
    have DS := Draws.text (prog := X.prog) (w := X.w) (A := X.A.in1) hh i1 z t
    have S : ZipSep2 zz TI TO i1 i2 [i1] [i2, a] := Z.sep (by simp) (by simp) (by simp [Z.i1z.symm, hza]) (by simp [Z.TOi1, hne]) (by simp [Z.i12.symm, hsa, hta]) (by simp [Z.i2z.symm, hza]) (by simp [Z.TOi2, hne]) (by simp [Z.i12, hsa, hta])
    refine wpAny_pyNext_zipD2_item S DS DT hz hTI hTO h1 ⟨h2, p⟩ hzs hi fun u1 u2 h' tk y1 y2 z' TO' h1' h2' hT hsz hk => ?_
    refine ⟨_, rfl, wpAny_letOwnedTupleGo_zip (s := { s with heap := h', toks := tk }) z' fun h'' z'' sb => ?_⟩
    have hT2 : h''.get? s.heap.objs.size = some { cls := .type "tuple", data := .seq #[u1, u2] } := (sb.2 _ (Nat.ne_of_gt hzl)).trans hT
    obtain ⟨c, tc, hc1, hc2⟩ := y1
    have ex : u2 = u := by
      have := y2
      rw [show its.toArray[i]? = some u from by simpa using hu] at this
      exact (Option.some.inj this).symm
    subst hc2 ex
    have new : ObjOk X.prog X.w (upd H s.heap.objs.size (.tup [.str ⟨#[c]⟩, x])) h'' s.heap.objs.size (.tup [.str ⟨#[c]⟩, x]) :=
      ⟨by show 2 ≤ sizeLine; decide, _, .cons ⟨_, rfl⟩ (.cons ru .nil), ⟨_, hT2, rfl, _, rfl⟩⟩
    have I1 : Inv X pins σ (upd H s.heap.objs.size (.tup [.str ⟨#[c]⟩, x])) { s with heap := h'', toks := tk } :=
      I.turnedNew (t' := tk) (ch := [zz, TI, TO, i1, i2]) (fun c o hb q => (sb.2 c (fun q' => hb (by simp [q']))).trans (hk c o (fun q' => hb (by simp [q'])) (fun q' => hb (by simp [q'])) (fun q' => hb (by simp [q'])) (fun q' => hb (by simp [q'])) q)) hf (Nat.le_refl _) new
    refine ⟨.ref s.heap.objs.size, _, I1, rfl, ⟨_, x, c, rfl, I.hok.fresh (Nat.le_refl _), rfl, fun l hl => by rw [I.tuple_inj hl hq]; exact hx, hc1⟩, ⟨z'', ?_, ⟨.str ⟨#[c]⟩ tc, u2, ?_⟩, ?_, ?_, hne⟩, fun c hcm => ?_⟩
    · exact (sb.2 _ Z.TIz).trans (hk _ _ Z.TIz Z.TITO Z.TIi1 Z.TIi2 hTI)
    · exact (sb.2 _ Z.TOz).trans TO'
    · exact isStI.at h1' fun o q => (sb.2 _ Z.i1z).trans q
    · exact h2'.1.at fun o q => (sb.2 _ Z.i2z).trans q
    · have hlt : c < s.heap.objs.size := by
        have e' : c = zz ∨ c = TI ∨ c = TO ∨ c = i1 ∨ c = i2 := by simpa using hcm
        rcases e' with q | q | q | q | q
        · rw [q]; exact hzl
        · rw [q]; exact Heap.lt_size hTI
        · rw [q]; exact Heap.lt_size hTO
        · rw [q]; obtain ⟨_, e1, _⟩ := h1; exact Heap.lt_size e1
        · rw [q]; obtain ⟨_, e2, _⟩ := h2; exact Heap.lt_size e2
      rw [upd_ne (Nat.ne_of_lt hlt)]
      exact (hf c hcm).1
  done := by
    intro X hP hw hK hc i pins s σ H E I hf st hg
    subst hP hw hK
    obtain ⟨hz, hTI, ⟨x0, y0, hTO⟩, h1, h2, hne⟩ := st
    obtain ⟨xs, hq, hl1, hl2, hend⟩ := hg
    obtain ⟨its, rv, p, _⟩ := I.tuple hq
    have l1 := rv.length
    have hta : i2 ≠ a := by
      obtain ⟨o, ho, hc', _⟩ := id h2
      exact tup_ne p ho (by rw [hc']; exact val_ty (by decide))
    have hza : zz ≠ a := tup_ne p hz (val_ty (by decide))
    have hsa : i1 ≠ a := by
      obtain ⟨o, ho, hc', _⟩ := id h1
      exact tup_ne p ho (by rw [hc']; exact val_ty (strIter_ne z))
    have hh : X.A.in1.handled = none := I.ok.hd hc
    have DT := Draws.tuple (prog := X.prog) (w := X.w) (A := X.A.in1) hh i2 a (Ne.symm hta) its.toArray
    have DS := Draws.text (prog := X.prog) (w := X.w) (A := X.A.in1) hh i1 z t
    have S : ZipSep2 zz TI TO i1 i2 [i1] [i2, a] := Z.sep (by simp) (by simp) (by simp [Z.i1z.symm, hza]) (by simp [Z.TOi1, hne]) (by simp [Z.i12.symm, hsa, hta]) (by simp [Z.i2z.symm, hza]) (by simp [Z.TOi2, hne]) (by simp [Z.i12, hsa, hta])
    have es : its.toArray.size = xs.length := by rw [List.size_toArray]; exact l1.symm
    exact wpAny_pyNext_zipD2_end S DS DT hz hTI hTO h1 ⟨h2, p⟩ hl2 (by rw [es]; exact hl1) (by rw [es]; exact hend.symm) fun h' tk hk => ⟨rfl, I.turnedL (t' := tk) (ch := [zz, TI, TO, i1, i2]) (fun c o hb q =>
      hk c o (fun q' => hb (by simp [q'])) (fun q' => hb (by simp [q'])) (fun q' => hb (by simp [q'])) (fun q' => hb (by simp [q'])) q) hf⟩
  self := fun A i s Q E st h => wpAny_pyIter_zip st.1 h
def iZipTS (K : PySem.W.Frag) (ta : TA) : TI := fun σ H R => ta σ H fun vs H1 => ∃ a z xs, vs = [.ref a, .str z] ∧ SqT K H1 a xs ∧ R (ItzTS K a z) H1
theorem pi_zipTS {X : Cx} {e e2 : Expr} {ta : TA} {p pos tpos : Pos} {elts : List Expr} {kk : Nat} (hg : Gl X "zip") (hm : X.mg "zip" = none) (ha : PA X [e, e2] ta)
    (hs : starEach [e, e2] X.env = (false, eval e X.env) :: starEach [e2] X.env := by rfl) (hpl : (backTo pos (starEach [e2] X.env)).any (·.1) = false := by rfl) :
    PI X (.Tuple elts kk tpos) (.Call (.Name "zip" p) [e, e2] [] pos) (iZipTS X.K ta) := by
  refine ⟨fun pins s σ H R I h => ?_⟩
  refine Call_ (ld_blt I hg hm PyProof.Rows.boot_zip (PyProof.Rows.callWith_type1 (thn (ha.run pos pins s σ H _ I h) fun us s1 ⟨vs, H1, I1, r1, q1⟩ => ?_) hs hpl))
  obtain ⟨a, z, xs, ex, hq, q1⟩ := q1
  subst ex
  cases r1 with
  | cons r rr =>
    cases rr with
    | cons r' rr =>
      cases rr
      cases r
      obtain ⟨t, rfl⟩ := r'
      have fresh5 : ∀ c, c ∈ [s1.heap.objs.size + 4, s1.heap.objs.size + 2, s1.heap.objs.size + 3, s1.heap.objs.size, s1.heap.objs.size + 1] → FpOk X pins H1 c := fun c hcm => by
        have e' : c = s1.heap.objs.size + 4 ∨ c = s1.heap.objs.size + 2 ∨ c = s1.heap.objs.size + 3 ∨ c = s1.heap.objs.size ∨ c = s1.heap.objs.size + 1 := by simpa using hcm
        have hle : s1.heap.objs.size ≤ c := by
          rcases e' with z | z | z | z | z
          · rw [z]; exact Nat.le_add_right _ _
          · rw [z]; exact Nat.le_add_right _ _
          · rw [z]; exact Nat.le_add_right _ _
          · rw [z]; exact Nat.le_refl _
          · rw [z]; exact Nat.le_add_right _ _
        exact I1.fpOk hle (I1.hok.fresh hle)
      obtain ⟨its, rv, p, _⟩ := I1.tuple hq
      obtain ⟨o1, ho1, _⟩ := id p
      have hal := Heap.lt_size ho1
      refine zip_begins2 (begins_tuple a its.toArray) (begins_text z t) p trivial fun h' hz hTI hTO g1 g2 hsz hk => wpAny_pyIter_zip hz ?_
      have I2 : Inv X pins σ H1 { s1 with heap := h' } := I1.kept (t' := s1.toks) hk
      exact ⟨s1.heap.objs.size + 4, [s1.heap.objs.size + 4, s1.heap.objs.size + 2, s1.heap.objs.size + 3, s1.heap.objs.size, s1.heap.objs.size + 1], _, _, H1, rfl, I2, turn_zipTS (z := z) (t := t) (a := a) (ZA.mk5 s1.heap.objs.size), ⟨hz, hTI, ⟨_, _, hTO⟩, ⟨_, g1, rfl, rfl⟩, ⟨_, g2, rfl, rfl⟩, fun e => absurd (show s1.heap.objs.size + 3 = a from e) (Nat.ne_of_gt (Nat.lt_of_lt_of_le hal (Nat.le_add_right _ _)))⟩, fresh5, q1⟩
def iZipST (K : PySem.W.Frag) (ta : TA) : TI := fun σ H R => ta σ H fun vs H1 => ∃ a z xs, vs = [.str z, .ref a] ∧ SqT K H1 a xs ∧ R (ItzST K z a) H1
theorem pi_zipST {X : Cx} {e e2 : Expr} {ta : TA} {p pos tpos : Pos} {elts : List Expr} {kk : Nat} (hg : Gl X "zip") (hm : X.mg "zip" = none) (ha : PA X [e, e2] ta)
    (hs : starEach [e, e2] X.env = (false, eval e X.env) :: starEach [e2] X.env := by rfl) (hpl : (backTo pos (starEach [e2] X.env)).any (·.1) = false := by rfl) :
    PI X (.Tuple elts kk tpos) (.Call (.Name "zip" p) [e, e2] [] pos) (iZipST X.K ta) := by
  refine ⟨fun pins s σ H R I h => ?_⟩
  refine Call_ (ld_blt I hg hm PyProof.Rows.boot_zip (PyProof.Rows.callWith_type1 (thn (ha.run pos pins s σ H _ I h) fun us s1 ⟨vs, H1, I1, r1, q1⟩ => ?_) hs hpl))
  obtain ⟨a, z, xs, ex, hq, q1⟩ := q1
  subst ex
  cases r1 with
  | cons r rr =>
    cases rr with
    | cons r' rr =>
      cases rr
      cases r'
      obtain ⟨t, rfl⟩ := r
      have fresh5 : ∀ c, c ∈ [s1.heap.objs.size + 4, s1.heap.objs.size + 2, s1.heap.objs.size + 3, s1.heap.objs.size, s1.heap.objs.size + 1] → FpOk X pins H1 c := fun c hcm => by
        have e' : c = s1.heap.objs.size + 4 ∨ c = s1.heap.objs.size + 2 ∨ c = s1.heap.objs.size + 3 ∨ c = s1.heap.objs.size ∨ c = s1.heap.objs.size + 1 := by simpa using hcm
        have hle : s1.heap.objs.size ≤ c := by
          rcases e' with z | z | z | z | z
          · rw [z]; exact Nat.le_add_right _ _
          · rw [z]; exact Nat.le_add_right _ _
          · rw [z]; exact Nat.le_add_right _ _
          · rw [z]; exact Nat.le_refl _
          · rw [z]; exact Nat.le_add_right _ _
        exact I1.fpOk hle (I1.hok.fresh hle)
      obtain ⟨its, rv, p, _⟩ := I1.tuple hq
      obtain ⟨o1, ho1, _⟩ := id p
      have hal := Heap.lt_size ho1
      refine zip_begins2 (begins_text z t) (begins_tuple a its.toArray) trivial p fun h' hz hTI hTO g1 g2 hsz hk => wpAny_pyIter_zip hz ?_
      have I2 : Inv X pins σ H1 { s1 with heap := h' } := I1.kept (t' := s1.toks) hk
      exact ⟨s1.heap.objs.size + 4, [s1.heap.objs.size + 4, s1.heap.objs.size + 2, s1.heap.objs.size + 3, s1.heap.objs.size, s1.heap.objs.size + 1], _, _, H1, rfl, I2, turn_zipST (z := z) (t := t) (a := a) (ZA.mk5 s1.heap.objs.size), ⟨hz, hTI, ⟨_, _, hTO⟩, ⟨_, g1, rfl, rfl⟩, ⟨_, g2, rfl, rfl⟩, fun e => absurd (show s1.heap.objs.size + 3 = a from e) (Nat.ne_of_gt (Nat.lt_of_lt_of_le hal (Nat.le_add_right _ _)))⟩, fresh5, q1⟩
end DL
set_option maxHeartbeats 1000000
/-! DL47: sorted of a list of tuples of ints and texts, all of one shape. -/
namespace DL
open PySem PySem.Spec PyProof.Rows L2
def ltKy : Key → Key → Bool
  | .inl a, .inl b => decide (a < b)
  | .inr a, .inr b => ltS a b
  | .inl _, .inr _ => true
  | .inr _, .inl _ => false
theorem stoKy : Sto ltKy := ⟨fun a => by cases a with
    | inl i => exact decide_eq_false (Int.lt_irrefl i)
    | inr z => exact ltS_irr z,
  fun {a b c} h k => by
    cases a with
    | inl i =>
      cases c with
      | inl l =>
        cases b with
        | inl j =>
          have h := of_decide_eq_true h
          have k := of_decide_eq_true k
          exact decide_eq_true (by omega)
        | inr y => cases k
      | inr y => rfl
    | inr z =>
      cases b with
      | inl j => cases h
      | inr y =>
        cases c with
        | inl l => cases k
        | inr x => exact ltS_tr h k,
  fun {a b} h k => by
    cases a with
    | inl i =>
      cases b with
      | inl j =>
        have h := of_decide_eq_false h
        have k := of_decide_eq_false k
        rw [show i = j by omega]
      | inr y => cases h
    | inr z =>
      cases b with
      | inl j => cases k
      | inr y => rw [ltS_eq h k]⟩
def ltKs : List Key → List Key → Bool
  | [], [] => false
  | [], _ :: _ => true
  | _ :: _, [] => false
  | a :: as, b :: bs => if a = b then ltKs as bs else ltKy a b
theorem ltKs_irr : ∀ a, ltKs a a = false
  | [] => rfl
  | a :: as => by
    show (if a = a then ltKs as as else ltKy a a) = false
    rw [if_pos rfl]
    exact ltKs_irr as
theorem ltKs_tr : ∀ {a b c : List Key}, ltKs a b = true → ltKs b c = true → ltKs a c = true
  | [], b, [], h, k => by cases b <;> cases h <;> cases k
  | [], b, c :: cs, h, k => rfl
  | a :: as, [], c, h, k => by cases h
  | a :: as, b :: bs, [], h, k => by cases k
  | a :: as, b :: bs, c :: cs, h, k => by
    replace h : (if a = b then ltKs as bs else ltKy a b) = true := h
    replace k : (if b = c then ltKs bs cs else ltKy b c) = true := k
    show (if a = c then ltKs as cs else ltKy a c) = true
    by_cases e1 : a = b
    · subst e1
      rw [if_pos rfl] at h
      by_cases e2 : a = c
      · subst e2
        rw [if_pos rfl] at k ⊢
        exact ltKs_tr h k
      · rw [if_neg e2] at k ⊢
        exact k
    · rw [if_neg e1] at h
      by_cases e2 : b = c
      · subst e2
        rw [if_neg e1]
        exact h
      · rw [if_neg e2] at k
        have hk := stoKy.tr h k
        rw [if_neg (fun e => by
          subst e
          rw [stoKy.irr] at hk
          cases hk)]
        exact hk
theorem ltKs_eq : ∀ {a b : List Key}, ltKs a b = false → ltKs b a = false → a = b
  | [], [], _, _ => rfl
  | [], _ :: _, h, _ => by cases h
  | _ :: _, [], _, k => by cases k
  | a :: as, b :: bs, h, k => by
    replace h : (if a = b then ltKs as bs else ltKy a b) = false := h
    replace k : (if b = a then ltKs bs as else ltKy b a) = false := k
    by_cases e : a = b
    · subst e
      rw [if_pos rfl] at h k
      rw [ltKs_eq h k]
    · rw [if_neg e] at h
      rw [if_neg (fun z => e z.symm)] at k
      exact absurd (stoKy.eq h k) e
theorem stoKs : Sto ltKs := ⟨ltKs_irr, ltKs_tr, ltKs_eq⟩
def shp (ks : List Key) : List Bool := ks.map Sum.isLeft
/-- a key's value -/
def RK : Key → Value → Prop
  | .inl i, v => ∃ t, v = .int i t
  | .inr z, v => ∃ t, v = .str z t
theorem RK.inj {a b : Key} {v : Value} (x : RK a v) (y : RK b v) : a = b := by
  cases a with
  | inl i =>
    obtain ⟨t, rfl⟩ := x
    cases b with
    | inl j =>
      obtain ⟨u, e⟩ := y
      injection e with e
      rw [e]
    | inr z =>
      obtain ⟨u, e⟩ := y
      cases e
  | inr z =>
    obtain ⟨t, rfl⟩ := x
    cases b with
    | inl j =>
      obtain ⟨u, e⟩ := y
      cases e
    | inr y' =>
      obtain ⟨u, e⟩ := y
      injection e with e
      rw [e]
theorem RKs.inj : ∀ {as bs : List Key} {vs : List Value}, Paired RK as vs → Paired RK bs vs → as = bs
  | [], [], _, _, _ => rfl
  | [], _ :: _, _, .nil, y => by cases y
  | _ :: _, [], _, x, .nil => by cases x
  | a :: as, b :: bs, _, .cons x r, .cons y t => by rw [x.inj y, RKs.inj r t]
def IsKT (h : Heap) (v : Value) (ks : List Key) : Prop := ∃ a o vs n, v = .ref a ∧ h.get? a = some o ∧ o.cls = .type "tuple" ∧ o.data = .seq (List.toArray vs) n ∧ Paired RK ks vs
theorem IsKT.keeps {h h' : Heap} {v : Value} {p : List Key} (x : IsKT h v p) (k : ∀ b o, h.get? b = some o → o.cls = .type "tuple" → h'.get? b = some o) : IsKT h' v p := by
  obtain ⟨a, o, vs, n, e, ho, hc, hd, hr⟩ := x
  exact ⟨a, o, vs, n, e, k a o ho hc, hc, hd, hr⟩
theorem IsKT.inj {h : Heap} {v : Value} {p q : List Key} (x : IsKT h v p) (y : IsKT h v q) : p = q := by
  obtain ⟨a, o, vs, n, rfl, ho, _, hd, hr⟩ := x
  obtain ⟨b, o', us, m, e, ho', _, hd', hr'⟩ := y
  cases e
  rw [ho] at ho'
  cases ho'
  rw [hd] at hd'
  injection hd' with e _
  have e := congrArg Array.toList e
  simp at e
  subst e
  exact RKs.inj hr hr'
open Classical in
noncomputable def pkK (h : Heap) (v : Value) : List Key := if hx : ∃ p, IsKT h v p then hx.choose else []
theorem pkK_is {h : Heap} {v : Value} {p : List Key} (x : IsKT h v p) : pkK h v = p := by
  have hx : ∃ p, IsKT h v p := ⟨p, x⟩
  unfold pkK
  rw [dif_pos hx]
  exact hx.choose_spec.inj x
section
variable {prog : Program} {w : World} {A : Around} {s : Shared}
theorem kt_lex {Q : Bool → Shared → Prop} : ∀ {as bs : List Key} {ps qs : List Value} {i : Nat}, Paired RK as ps → Paired RK bs qs → shp as = shp bs → Q (ltKs as bs) s → PySem.W.KatLex prog w A true false Q (ps.zip qs) i s
  | [], [], _, _, _, .nil, .nil, _, q => PySem.W.kat_nil q
  | [], _ :: _, _, _, _, _, _, e, _ => by cases e
  | _ :: _, [], _, _, _, _, _, e, _ => by cases e
  | a :: as, b :: bs, _, _, i, .cons (b := v) x r, .cons (b := u) y t, e, q => by
    injection e with e1 e2
    show PySem.W.KatLex prog w A true false Q ((v, u) :: _) i s
    cases a with
    | inl m =>
      cases b with
      | inl n =>
        obtain ⟨t1, rfl⟩ := x
        obtain ⟨t2, rfl⟩ := y
        refine PySem.W.kat_cons (wpAny_eqBool_int ?_)
        have q' : Q (if (Sum.inl m : Key) = Sum.inl n then ltKs as bs else decide (m < n)) s := q
        refine PySem.W.kat_go (fun e' => ?_) (fun e' => ?_)
        · have := eq_of_beq e'
          subst this
          rw [if_pos rfl] at q'
          exact PySem.W.kat_yes (kt_lex r t e2 q')
        · have ne : ¬ (Sum.inl m : Key) = Sum.inl n := fun z => by
            injection z with z
            rw [z, beq_self_eq_true] at e'
            cases e'
          rw [if_neg ne] at q'
          exact PySem.W.kat_no (oneLt_any_int q')
      | inr z => cases e1
    | inr m =>
      cases b with
      | inl n => cases e1
      | inr n =>
        obtain ⟨t1, rfl⟩ := x
        obtain ⟨t2, rfl⟩ := y
        refine PySem.W.kat_cons (wpAny_eqBool_str ?_)
        have q' : Q (if (Sum.inr m : Key) = Sum.inr n then ltKs as bs else ltS m n) s := q
        refine PySem.W.kat_go (fun e' => ?_) (fun e' => ?_)
        · have := of_decide_eq_true e'
          subst this
          rw [if_pos rfl] at q'
          exact PySem.W.kat_yes (kt_lex r t e2 q')
        · have ne : ¬ (Sum.inr m : Key) = Sum.inr n := fun z => by
            injection z with z
            exact of_decide_eq_false e' z
          rw [if_neg ne] at q'
          exact PySem.W.kat_no (oneLt_any_str q')
theorem kt_cmp {vs : List Value} {k : Value → List Key} {sh : List Bool} (hp : ∀ v ∈ vs, IsKT s.heap v (k v) ∧ shp (k v) = sh) : SrtO.Cmp prog w A s (tuples' true) (fun p => p.1 ∈ vs) (SrtO.lt2 fun v u => ltKs (k v) (k u)) := by
  intro p q hm hm'
  obtain ⟨h1, s1⟩ := hp _ hm
  obtain ⟨h2, s2⟩ := hp _ hm'
  show wpAny (model prog w) A (keyLt' (tuples' true) p.1 q.1) (fun r s' => s' = s ∧ r = ltKs (k p.1) (k q.1)) (fun _ _ => False) s
  have es := s1.trans s2.symm
  generalize k p.1 = x at h1 es ⊢
  generalize k q.1 = y at h2 es ⊢
  obtain ⟨a, o, us, n, e, ho, _, hd, r1⟩ := h1
  obtain ⟨a', o', us', n', e', ho', _, hd', r2⟩ := h2
  rw [e, e']
  refine PySem.W.kat_lt ho hd ho' hd' ?_
  have l1 := Paired.length r1
  have l2 := Paired.length r2
  have l3 : x.length = y.length := by
    have := congrArg List.length es
    simpa [shp] using this
  have ef : decide ((List.toArray us).size < (List.toArray us').size) = false := decide_eq_false (by rw [List.size_toArray, List.size_toArray]; omega)
  rw [ef]
  exact kt_lex r1 r2 es ⟨rfl, rfl⟩
theorem kt_firsts {h : Heap} {sh : List Bool} {b : Bool} : ∀ {vs : List Value} {k : Value → List Key}, (∀ v ∈ vs, IsKT h v (k v) ∧ shp (k v) = b :: sh) →
    ∃ fs : List Value, PySem.W.KatTups h vs fs ∧ fs.length = vs.length ∧ ∀ f ∈ fs, ∃ ky, RK ky f ∧ ky.isLeft = b
  | [], _, _ => ⟨[], PySem.W.KatTups.nil, rfl, fun _ hm => by simp at hm⟩
  | v :: vs, k, hp => by
    obtain ⟨fs, h1, h2, h3⟩ := kt_firsts (vs := vs) (k := k) fun v' hm => hp v' (List.mem_cons_of_mem _ hm)
    obtain ⟨⟨a, o, us, n, e, ho, hc, hd, r⟩, hs⟩ := hp v (List.mem_cons_self ..)
    generalize k v = p at r hs
    cases r with
    | nil => cases hs
    | @cons x u xs us' rx rr =>
      subst e
      injection hs with hs1 hs2
      refine ⟨u :: fs, PySem.W.KatTups.cons ho hc hd rfl h1, congrArg Nat.succ h2, fun f hm => ?_⟩
      rcases List.mem_cons.mp hm with rfl | hm
      · exact ⟨x, rx, hs1⟩
      · exact h3 f hm
theorem kt_sortable {a : Addr} {vs : List Value} {k : Value → List Key} {b : Bool} {sh : List Bool} (h0 : 0 < vs.length) (hp : ∀ v ∈ vs, IsKT s.heap v (k v) ∧ shp (k v) = b :: sh) (ha : ∀ o, s.heap.get? a = some o → o.cls ≠ .type "tuple") : SrtO.SortableO prog w A s a vs fun v u => ltKs (k v) (k u) := by
  intro h' keep
  have hp' : ∀ v ∈ vs, IsKT h' v (k v) ∧ shp (k v) = b :: sh := fun v hm => ⟨(hp v hm).1.keeps fun b o e c => keep b o (fun z => by subst z; exact ha o e c) e, (hp v hm).2⟩
  obtain ⟨fs, h1, h2, h3⟩ := kt_firsts hp'
  refine ⟨tuples' true, fun Q E hq => ?_, kt_cmp hp'⟩
  cases b with
  | false =>
    refine PySem.W.kat_kind (T := .type "str") h1 (by omega) (fun f hm => ?_) (by rfl) ?_
    · obtain ⟨ky, r, e⟩ := h3 f hm
      cases ky with
      | inl i => cases e
      | inr z =>
        obtain ⟨t, rfl⟩ := r
        exact PySem.W.Looks.now
    · have e : (Value.type "str" != Value.type "tuple") = true := by first | decide +kernel | rfl | decide
      rw [e]
      exact hq
  | true =>
    refine PySem.W.kat_kind (T := .type "int") h1 (by omega) (fun f hm => ?_) (by rfl) ?_
    · obtain ⟨ky, r, e⟩ := h3 f hm
      cases ky with
      | inr z => cases e
      | inl i =>
        obtain ⟨t, rfl⟩ := r
        exact PySem.W.Looks.now
    · have e : (Value.type "int" != Value.type "tuple") = true := by first | decide +kernel | rfl | decide
      rw [e]
      exact hq
end
def PairsK (K : PySem.W.Frag) (H : Hp) (as : List Addr) (qs : List (List Key)) : Prop := Paired (fun b (q : List Key) => SqT K H b (q.map kV)) as qs
/-- sorted of a list of tuples of one shape -/
def rSortKT (K : PySem.W.Frag) : List V → Hp → VK → Prop := fun xs H Q => ∃ (a : Addr) (as : List Addr) (qs : List (List Key)) (b : Bool) (sh : List Bool), xs = [.ref a] ∧ SqL K H a (as.map V.ref) ∧ PairsK K H as qs ∧ (∀ q ∈ qs, shp q = b :: sh) ∧
  ∀ (p : Addr) (zs : List (Addr × List Key)), zs.Perm (as.zip qs) → zs.map (·.2) = srt ltKs qs → H p = none → Q (.ref p) (upd H p (.lst (zs.map fun z => V.ref z.1)))
theorem rk_vals : ∀ {ks : List Key} {us : List Value}, Vals (ks.map kV) us → Paired RK ks us
  | [], _, .nil => .nil
  | .inl i :: ks, _, .cons r t => .cons r (rk_vals t)
  | .inr z :: ks, _, .cons r t => .cons r (rk_vals t)
theorem kt_is {X : Cx} {pins : List (Addr × Obj)} {σ : L2.St} {H : Hp} {s : Shared} (I : Inv X pins σ H s) {b : Addr} {q : List Key} (h : SqT X.K H b (q.map kV)) : IsKT s.heap (.ref b) q := by
  obtain ⟨its, r, ⟨o, ho, hc, n, hd⟩, _⟩ := I.tuple h
  exact ⟨b, o, its, _, rfl, ho, hc, hd, rk_vals r⟩
theorem zip_pkK {X : Cx} {pins : List (Addr × Obj)} {σ : L2.St} {H : Hp} {s : Shared} (I : Inv X pins σ H s) : ∀ {as : List Addr} {qs : List (List Key)}, PairsK X.K H as qs → as.zip qs = as.map fun b => (b, pkK s.heap (.ref b))
  | _, _, .nil => rfl
  | _, _, .cons h t => by
    rw [List.zip_cons_cons, List.map_cons, zip_pkK I t, pkK_is (kt_is I h)]
theorem map_pkK {X : Cx} {pins : List (Addr × Obj)} {σ : L2.St} {H : Hp} {s : Shared} (I : Inv X pins σ H s) : ∀ {as : List Addr} {qs : List (List Key)}, PairsK X.K H as qs → qs = as.map fun b => pkK s.heap (.ref b)
  | _, _, .nil => rfl
  | _, _, .cons h t => by
    rw [List.map_cons, ← map_pkK I t, pkK_is (kt_is I h)]
theorem mem_pkK {X : Cx} {pins : List (Addr × Obj)} {σ : L2.St} {H : Hp} {s : Shared} (I : Inv X pins σ H s) : ∀ {as : List Addr} {qs : List (List Key)}, PairsK X.K H as qs → ∀ b ∈ as, IsKT s.heap (.ref b) (pkK s.heap (.ref b)) ∧ pkK s.heap (.ref b) ∈ qs
  | _, _, .nil, _, h => by cases h
  | _, _, .cons h t, b, m => by
    rcases List.mem_cons.mp m with rfl | m
    · have := kt_is I h
      rw [pkK_is this]
      exact ⟨this, List.mem_cons_self ..⟩
    · exact ⟨(mem_pkK I t b m).1, List.mem_cons_of_mem _ (mem_pkK I t b m).2⟩
theorem call_sortKT {X : Cx} : CallR X (.builtin "sorted") (rSortKT X.K) := by
  intro pins s σ H xs us Q I r h
  obtain ⟨a, as, qs, b0, sh, rfl, hs, hp, hsh, q⟩ := h
  obtain ⟨u, rfl, rx⟩ := r.one
  cases rx
  obtain ⟨its, rv, hl, hz⟩ := I.list hs
  have ei := ref_vals rv
  subst ei
  have hzl : (as.map Value.ref).length ≤ sizeLine := by rw [List.length_map] at hz ⊢; exact hz
  have hP : ∀ v ∈ as.map Value.ref, IsKT s.heap v (pkK s.heap v) ∧ shp (pkK s.heap v) = b0 :: sh := fun v hv => by
    obtain ⟨b, hb, rfl⟩ := List.mem_map.mp hv
    exact ⟨(mem_pkK I hp b hb).1, hsh _ (mem_pkK I hp b hb).2⟩
  refine SrtO.sorted_ord (stoKs.swo_of (pkK s.heap)) hl.isList hzl (fun h2 h₁ b hb keep => kt_sortable (s := { s with heap := h₁ }) (by omega) (fun v hv => ⟨(hP v hv).1.keeps fun c o e _ => (keep c o e).2, (hP v hv).2⟩) fun o e => ?_) fun out hs' hb' => ?_
  · have e' := e.symm.trans hb
    cases e'
    intro c
    exact absurd (Value.type.inj c) (by decide)
  · have href : ∀ v ∈ out, v = Value.ref (adV v) := fun v hv => by
      obtain ⟨b, _, rfl⟩ := List.mem_map.mp (hb'.perm.mem_iff.mp hv)
      rfl
    obtain ⟨ep, he'⟩ := PyProof.Rows.sortedAll_at s.heap (as.map Value.ref) out.toArray
    have hlen : ((out.map fun v => (adV v, pkK s.heap v)).map fun z => V.ref z.1).length ≤ sizeLine := by
      rw [List.length_map, List.length_map, hb'.perm.length_eq]
      exact hzl
    have hvals : Vals ((out.map fun v => (adV v, pkK s.heap v)).map fun z => V.ref z.1) out := by
      have e : out = (out.map adV).map Value.ref := by
        rw [List.map_map]
        exact (List.map_id out).symm.trans (List.map_congr_left fun v hv => href v hv)
      have e2 : ((out.map fun v => (adV v, pkK s.heap v)).map fun z => V.ref z.1) = (out.map adV).map V.ref := by rw [List.map_map, List.map_map]; rfl
      rw [e2]
      have := vals_refs (out.map adV)
      rw [← e] at this
      exact this
    refine ⟨.ref _, upd H (s.heap.objs.size + 1) (.lst ((out.map fun v => (adV v, pkK s.heap v)).map fun z => V.ref z.1)), I.laid (t' := s.toks) (fun _ _ => PyProof.Rows.sortedAll_old) (Nat.le_succ _) ⟨hlen, out, ep, hvals, he'⟩, rfl, q _ _ ?_ ?_ (I.hok.fresh (Nat.le_succ _))⟩
    · rw [zip_pkK I hp]
      have := hb'.perm.map fun v => (adV v, pkK s.heap v)
      rw [List.map_map] at this
      exact this
    · rw [List.map_map]
      refine srt_uniq stoKs ?_ (List.pairwise_map.mpr hs')
      have := hb'.perm.map (pkK s.heap)
      rw [List.map_map] at this
      rw [map_pkK I hp]
      exact this
def ktD (ks : List Key) : D := .tuple (ks.map kD)
section
variable {K : PySem.W.Frag}
theorem kt_sq {G H : Hp} (g : GH G H) {x : V} {ks : List Key} (h : Dq K G x (ktD ks)) : ∃ l, x = .ref l ∧ SqT K H l (ks.map kV) := by
  unfold ktD at h
  generalize e : PyData.tuple (ks.map kD) = d at h
  cases h with
  | @tup a vs ds ha hr =>
    injection e with e
    subst e
    rw [keys_dq hr] at ha
    exact ⟨a, rfl, g.t ha⟩
  | _ => cases e
theorem kq_sqt {G H : Hp} (g : GH G H) : ∀ {qs : List (List Key)} {vs : List V}, DqA K G vs (qs.map ktD) → ∃ as : List Addr, vs = as.map V.ref ∧ PairsK K H as qs ∧ ∀ z ∈ as.zip qs, Dq K G (.ref z.1) (ktD z.2)
  | [], _, h => by
    cases h
    exact ⟨[], rfl, .nil, fun z h => (by cases h)⟩
  | q :: qs, _, h => by
    cases h with
    | cons x r =>
      obtain ⟨as, rfl, hp, hz⟩ := kq_sqt g r
      obtain ⟨l, rfl, hl⟩ := kt_sq g x
      refine ⟨l :: as, rfl, .cons hl hp, fun z hz' => ?_⟩
      rw [List.zip_cons_cons] at hz'
      rcases List.mem_cons.mp hz' with rfl | m
      · exact x
      · exact hz z m
theorem dq_zk {G : Hp} : ∀ {zs : List (Addr × List Key)}, (∀ z ∈ zs, Dq K G (.ref z.1) (ktD z.2)) → DqA K G (zs.map fun z => V.ref z.1) ((zs.map (·.2)).map ktD)
  | [], _ => .nil
  | z :: zs, h => .cons (h z (List.mem_cons_self ..)) (dq_zk fun y hy => h y (List.mem_cons_of_mem _ hy))
theorem cn_sortKT {qs : List (List Key)} {b : Bool} {sh : List Bool} (hsh : ∀ q ∈ qs, shp q = b :: sh) : CN K (rSortKT K) [.list (qs.map ktD)] (.list ((srt ltKs qs).map ktD)) := fun xs G H Q g hx q => by
  cases hx with
  | cons a b =>
    cases b
    cases a with
    | @lst a vs _ ha hr =>
      obtain ⟨as, rfl, hp, hz⟩ := kq_sqt g hr
      refine ⟨a, as, qs, _, _, rfl, SqL.of (g.lst ha), hp, hsh, fun p zs hp2 he hn => ?_⟩
      refine q p G _ (.fresh g hn) hn (g.none hn) (.lst upd_same ?_)
      rw [← he]
      exact dq_zk fun z hz' => hz z (hp2.mem_iff.mp hz')
end
end DL
set_option maxHeartbeats 1000000
/-! DL48: zip of tuples with texts by data; f-strings; find, rfind, count of one sign; list.index of texts. -/
namespace DL
open PySem PySem.Spec PyProof.Rows L2 RZ
section
variable {K : PySem.W.Frag} {ρ : List Sl} {Ex : XK} {ta tb te : TE} {d : D}
theorem walk_zipTS {a : Addr} {z : Str} {xs : List V} {n : Nat} (hx : n = xs.length) (hy : n = z.cps.size) : Walk (ItzTS K a z) n (fun H => SqT K H a xs) (fun i H v H' => ∃ T x c, v = .ref T ∧ H T = none ∧ H' = upd H T (.tup [x, .str ⟨#[c]⟩]) ∧ xs[i]? = some x ∧ z.cps[i]? = some c) := by
  refine ⟨fun i H hi q => ⟨xs, xs[i]'(by omega), q, by simp [show i < xs.length by omega], by omega⟩, fun H q => ⟨xs, q, by omega, by omega, by omega⟩, fun i H v H' _ q y => ?_⟩
  obtain ⟨T, x, c, h1, h2, h3, h4, h5⟩ := y
  exact ⟨T, x, c, h1, h2, h3, h4 xs q, h5⟩
theorem walk_zipST {a : Addr} {z : Str} {xs : List V} {n : Nat} (hx : n = xs.length) (hy : n = z.cps.size) : Walk (ItzST K z a) n (fun H => SqT K H a xs) (fun i H v H' => ∃ T x c, v = .ref T ∧ H T = none ∧ H' = upd H T (.tup [.str ⟨#[c]⟩, x]) ∧ xs[i]? = some x ∧ z.cps[i]? = some c) := by
  refine ⟨fun i H hi q => ⟨xs, xs[i]'(by omega), q, by simp [show i < xs.length by omega], by omega⟩, fun H q => ⟨xs, q, by omega, by omega, by omega⟩, fun i H v H' _ q y => ?_⟩
  obtain ⟨T, x, c, h1, h2, h3, h4, h5⟩ := y
  exact ⟨T, x, c, h1, h2, h3, h4 xs q, h5⟩
theorem ei_zipTS {t : TA} {as : List D} {z : Str} (h : EA K t ρ [.tuple as, .str z]) (hl : as.length = z.cps.size) : EI K (iZipTS K t) ρ as.length (fun i => .tuple [as.getD i .none, chD z i]) := fun G0 H0 G H σ R E q =>
  h G0 H0 G H σ _ E fun vs G1 H1 e1 hv => by
    cases hv with
    | cons x r =>
    cases r with
    | cons y r =>
    cases r
    cases y
    cases x with
    | @tup a xs _ ha hxs =>
    refine ⟨a, z, xs, rfl, e1.gh.t ha, q _ G1 H1 _ _ e1 (walk_zipTS hxs.length.symm hl) (fun G2 H2 g gh => gh.t ((Sub.of g).t ha)) fun i G2 H2 v H3 hi g gh hy => ?_⟩
    obtain ⟨T, x, c, rfl, hT, rfl, h4, h5⟩ := hy
    obtain ⟨d1, e1', r1⟩ := hxs.got h4
    show ∃ G3, _ ∧ Dq K G3 _ (.tuple [as.getD i .none, chD z i])
    rw [getD_of e1', ch_of h5]
    exact new_pair gh hT (r1.mono (Sub.of g)) (.str _)
theorem ei_zipST {t : TA} {as : List D} {z : Str} (h : EA K t ρ [.str z, .tuple as]) (hl : as.length = z.cps.size) : EI K (iZipST K t) ρ as.length (fun i => .tuple [chD z i, as.getD i .none]) := fun G0 H0 G H σ R E q =>
  h G0 H0 G H σ _ E fun vs G1 H1 e1 hv => by
    cases hv with
    | cons y r =>
    cases r with
    | cons x r =>
    cases r
    cases y
    cases x with
    | @tup a xs _ ha hxs =>
    refine ⟨a, z, xs, rfl, e1.gh.t ha, q _ G1 H1 _ _ e1 (walk_zipST hxs.length.symm hl) (fun G2 H2 g gh => gh.t ((Sub.of g).t ha)) fun i G2 H2 v H3 hi g gh hy => ?_⟩
    obtain ⟨T, x, c, rfl, hT, rfl, h4, h5⟩ := hy
    obtain ⟨d1, e1', r1⟩ := hxs.got h4
    show ∃ G3, _ ∧ Dq K G3 _ (.tuple [chD z i, as.getD i .none])
    rw [getD_of e1', ch_of h5]
    exact new_pair gh hT (.str _) (r1.mono (Sub.of g))
/-! f-strings -/
theorem ev_fmtS {y : Str} (h : EV K te ρ (.str y)) (hl : y.length ≤ sizeLine) : EV K (tFmt te) ρ (.str y) := fun G0 H0 G H σ Q E q =>
  h G0 H0 G H σ _ E fun v G1 H1 e1 h1 => by
    cases h1
    exact .inl ⟨y, rfl, hl, q _ G1 H1 e1 (.str _)⟩
def tFs (ts : List TE) : TE := fun σ H Q => tJs ts Str.empty σ H fun out H1 => Q (.str out) H1
inductive EJ (K : PySem.W.Frag) (ρ : List Sl) : List TE → List Str → Prop
  | nil : EJ K ρ [] []
  | cons {t : TE} {z : Str} {ts : List TE} {zs : List Str} (h : EV K t ρ (.str z)) (r : EJ K ρ ts zs) : EJ K ρ (t :: ts) (z :: zs)
theorem ej_run {ts : List TE} {zs : List Str} (h : EJ K ρ ts zs) : ∀ {G0 H0 G H : Hp} {σ : L2.St} {acc : Str} {Q : Str → Hp → Prop}, En K G0 H0 G H σ ρ → acc.length + (zs.map (·.length)).sum ≤ sizeLine →
    (∀ G' H', Ext G H G' H' → Q (zs.foldl (· ++ ·) acc) H') → tJs ts acc σ H Q := by
  induction h with
  | nil =>
    intro G0 H0 G H σ acc Q E hl q
    exact q G H (.refl E.gh)
  | @cons t z ts zs h r ih =>
    intro G0 H0 G H σ acc Q E hl q
    rw [List.map_cons, List.sum_cons] at hl
    refine h G0 H0 G H σ _ E fun v G1 H1 e1 h1 => ?_
    cases h1
    refine ⟨z, rfl, by rw [len_app]; omega, ih (E.go e1) (by rw [len_app]; omega) fun G' H' e => q G' H' (e1.trans e)⟩
theorem ev_fs {ts : List TE} {zs : List Str} (h : EJ K ρ ts zs) (hl : (zs.map (·.length)).sum ≤ sizeLine) : EV K (tFs ts) ρ (.str (zs.foldl (· ++ ·) Str.empty)) := fun G0 H0 G H σ Q E q =>
  ej_run h E (by show 0 + _ ≤ _; omega) fun G' H' e => q _ G' H' e (.str _)
end
def rFindU : V → List V → Hp → VK → Prop := fun x xs H Q => ∃ a b, x = .str a ∧ xs = [.str b] ∧ Q (.int (Txt.find a b)) H
def rRfindU : V → List V → Hp → VK → Prop := fun x xs H Q => ∃ a b, x = .str a ∧ xs = [.str b] ∧ Q (.int (Txt.rfind a b)) H
def rCountU : V → List V → Hp → VK → Prop := fun x xs H Q => ∃ a b, x = .str a ∧ xs = [.str b] ∧ Q (.int (Txt.count a b)) H
section
variable {X : Cx} {o e : Expr} {to te : TE} {apos pos : Pos}
theorem pe_findU (ho : PE X o to) (he : PE X e te) (hs : starEach [e] X.env = [(false, eval e X.env)] := by rfl) (hbase : attributeBase o "find" X.env (eval o X.env) = eval o X.env := by rfl) (hline : (apos.endLine == pos.line) = true := by rfl) :
    PE X (.Call (.Attribute o "find" apos) [e] [] pos) (tM1 rFindU to te) := pe_m1 F.slot_str_find F.type_str_find mt_find ho he hs hbase hline
theorem pe_rfindU (ho : PE X o to) (he : PE X e te) (hs : starEach [e] X.env = [(false, eval e X.env)] := by rfl) (hbase : attributeBase o "rfind" X.env (eval o X.env) = eval o X.env := by rfl) (hline : (apos.endLine == pos.line) = true := by rfl) :
    PE X (.Call (.Attribute o "rfind" apos) [e] [] pos) (tM1 rRfindU to te) := pe_m1 F.slot_str_rfind F.type_str_rfind mt_rfind ho he hs hbase hline
theorem pe_countU (ho : PE X o to) (he : PE X e te) (hs : starEach [e] X.env = [(false, eval e X.env)] := by rfl) (hbase : attributeBase o "count" X.env (eval o X.env) = eval o X.env := by rfl) (hline : (apos.endLine == pos.line) = true := by rfl) :
    PE X (.Call (.Attribute o "count" apos) [e] [] pos) (tM1 rCountU to te) := pe_m1 F.slot_str_count F.type_str_count mt_count ho he hs hbase hline
end
section
variable {K : PySem.W.Frag} {ρ : List Sl} {ta tb te : TE} {a b : Str}
theorem ev_find (h : EV K ta ρ (.str a)) (h2 : EV K tb ρ (.str b)) : EV K (tM1 rFindU ta tb) ρ (.int (Txt.find a b)) := fun G0 H0 G H σ Q E q =>
  h G0 H0 G H σ _ E fun v G1 H1 e1 h1 => by
    cases h1
    refine ⟨⟨a, rfl⟩, h2 G0 H0 G1 H1 σ _ (E.go e1) fun u G2 H2 e2 hu => ?_⟩
    cases hu
    exact ⟨a, b, rfl, rfl, q _ G2 H2 (e1.trans e2) (.int _)⟩
theorem ev_rfind (h : EV K ta ρ (.str a)) (h2 : EV K tb ρ (.str b)) : EV K (tM1 rRfindU ta tb) ρ (.int (Txt.rfind a b)) := fun G0 H0 G H σ Q E q =>
  h G0 H0 G H σ _ E fun v G1 H1 e1 h1 => by
    cases h1
    refine ⟨⟨a, rfl⟩, h2 G0 H0 G1 H1 σ _ (E.go e1) fun u G2 H2 e2 hu => ?_⟩
    cases hu
    exact ⟨a, b, rfl, rfl, q _ G2 H2 (e1.trans e2) (.int _)⟩
theorem ev_count (h : EV K ta ρ (.str a)) (h2 : EV K tb ρ (.str b)) : EV K (tM1 rCountU ta tb) ρ (.int (Txt.count a b)) := fun G0 H0 G H σ Q E q =>
  h G0 H0 G H σ _ E fun v G1 H1 e1 h1 => by
    cases h1
    refine ⟨⟨a, rfl⟩, h2 G0 H0 G1 H1 σ _ (E.go e1) fun u G2 H2 e2 hu => ?_⟩
    cases hu
    exact ⟨a, b, rfl, rfl, q _ G2 H2 (e1.trans e2) (.int _)⟩
/-- the place of the first b -/
theorem ev_lindex {zs : List Str} {j : Nat} (h : EV K ta ρ (.list (zs.map PyData.str))) (h2 : EV K tb ρ (.str b)) (hj : j < zs.length) (hz : zs.getD j Str.empty = b) (hn : ∀ m, m < j → zs.getD m Str.empty ≠ b) :
    EV K (tBM K "list" (rIndex K) ta (tCons tb tNil)) ρ (.int (j : Nat)) := fun G0 H0 G H σ Q E q =>
  h G0 H0 G H σ _ E fun v G1 H1 e1 h1 => by
    generalize ed : PyData.list (zs.map PyData.str) = dd at h1
    cases h1 with
    | @lst l vs ds hl hr =>
      injection ed with ed
      subst ed
      have hvs := map_str_dq hr
      subst hvs
      refine ⟨.inl ⟨rfl, _, SqL.of (e1.gh.lst hl)⟩, h2 G0 H0 G1 H1 σ _ (E.go e1) fun u G2 H2 e2 hu => ?_⟩
      cases hu
      have hat : ∀ m, m < zs.length → (zs.map V.str)[m]? = some (.str (zs.getD m Str.empty)) := fun m hm => by
        rw [List.getElem?_map, List.getElem?_eq_getElem hm, List.getD_eq_getElem?_getD, List.getElem?_eq_getElem hm]
        rfl
      refine ⟨l, _, .str b, j, _, rfl, rfl, SqL.of (e2.gh.lst (e2.gg _ _ hl)), rfl, ?_, hat j hj, ?_, fun m z' hm hz' => ?_, q _ G2 H2 (e1.trans e2) (.int _)⟩
      · exact List.all_eq_true.mpr fun x hx => by
          obtain ⟨y, _, rfl⟩ := List.mem_map.mp hx
          rfl
      · rw [hz]
        show decide (b = b) = true
        exact decide_eq_true rfl
      · rw [hat m (by omega)] at hz'
        cases hz'
        show decide (_ = b) = false
        exact decide_eq_false (hn m hm)
    | _ => cases ed
end
/-! ### one sign in a text -/
def oneS (c : Nat) : Str := ⟨#[c]⟩
theorem at_one {z : Str} {c i : Nat} : StrLaws.At z (oneS c) z.length i ↔ z.cps.toList[i]? = some c := StrLaws.subAt_one z c i |>.symm |> fun h => by
  first | exact h.symm | exact h
theorem count_one (z : Str) (c : Nat) : Txt.count z (oneS c) = ((z.cps.toList.count c : Nat) : Int) := by
  have h := count_is z c
  have : ∀ l : List Nat, PyProof.Rows.cnt c l = ((l.count c : Nat) : Int) := fun l => by
    induction l with
    | nil => rfl
    | cons n r ih =>
      rw [cnt_cons, ih, List.count_cons]
      by_cases e : n = c
      · subst e
        simp
        omega
      · simp [e]
  exact h.trans (this _)
end DL
set_option maxHeartbeats 1000000
/-! DL49: len({a, b, ..}) of texts. -/
namespace DL
open PySem PySem.Spec PyProof.Rows L2 PySem.Froz
/-- the set at a holds the texts l -/
def LS (P : Program) (w : World) (h : Heap) (a : Addr) (l : List Str) : Prop := ∃ D : SD, h.get? a = some (sObj "set" D) ∧ TxOk P w D l ∧ l.Nodup
def LSO (P : Program) (w : World) (a : Addr) (l : List Str) : HO := .ext fun h => LS P w h a l
theorem lso_new {P : Program} {w : World} {H : Hp} {h : Heap} {a : Addr} {l : List Str} (R : LS P w h a l) : ObjOk P w H h a (LSO P w a l) := by
  have ⟨D, ho, r⟩ := R
  refine ⟨R, ⟨_, ho⟩, fun h1 h2 p k => ?_⟩
  have ⟨D', ho', r'⟩ := p
  exact ⟨D', k _ ho', r'⟩
/-- values of expressions one behind another -/
def tVs : List TE → L2.St → Hp → (List V → Hp → Prop) → Prop
  | [], _, H, Q => Q [] H
  | t :: ts, σ, H, Q => t σ H fun x H1 => tVs ts σ H1 fun xs H2 => Q (x :: xs) H2
section
variable {X : Cx}
theorem pj_all {pins : List (Addr × Obj)} {σ : L2.St} {es : List Expr} {ts : List TE} (h : PJ X es ts) : ∀ {s : Shared} {H : Hp} {Q : List V → Hp → Prop} {R : List Value → Shared → Prop}, Inv X pins σ H s → tVs ts σ H Q →
    (∀ vs us s1 H1, Inv X pins σ H1 s1 → Vals vs us → Q vs H1 → R us s1) → PySem.W.KdsAll (model X.prog X.w) X.A X.xe X.env es R s := by
  induction h with
  | nil =>
    intro s H Q R I q k
    exact k [] [] s H I .nil q
  | @cons e t es ts he r ih =>
    intro s H Q R I q k
    show wpAny (model X.prog X.w) X.A (eval e X.env) _ X.xe s
    refine thn (he.run pins s σ H _ I q) fun v s1 ⟨x, H1, I1, r1, q1⟩ => ?_
    exact ih I1 q1 fun vs us s2 H2 I2 r2 q2 => k (x :: vs) (v :: us) s2 H2 I2 (.cons r1 r2) q2
theorem strs_vals2 : ∀ {zs : List Str} {us : List Value}, Vals (zs.map V.str) us → Paired (fun z u => ∃ t, u = Value.str z t) zs us
  | [], _, .nil => .nil
  | z :: zs, _, .cons r t => .cons r (strs_vals2 t)
theorem fill_ls {pins : List (Addr × Obj)} {σ : L2.St} {a : Addr} {E : Value → Shared → Prop} {Q : Value → Shared → Prop} : ∀ {zs : List Str} {us : List Value} {ys : List Str} {H : Hp} {s : Shared}, Paired (fun z u => ∃ t, u = Value.str z t) zs us → Inv X pins σ H s → H a = some (LSO X.prog X.w a ys) → ys.Nodup → ys.length + zs.length < 4000 →
    (∀ ys' s', ys'.Nodup → (∀ x, x ∈ ys' ↔ x ∈ ys ∨ x ∈ zs) → Inv X pins σ (upd H a (LSO X.prog X.w a ys')) s' → Q (.ref a) s') → PySem.W.KdsFill (model X.prog X.w) X.A E false a Q us s
  | [], _, ys, H, s, .nil, I, ha, nd, hl, q => by
    refine PySem.W.kds_fill_nil rfl (q ys s nd (fun x => by simp) ?_)
    rw [show upd H a (LSO X.prog X.w a ys) = H from funext fun b => by
      by_cases hb : b = a
      · rw [hb, upd_same, ha]
      · rw [upd_ne hb]]
    exact I
  | z :: zs, _, ys, H, s, .cons ⟨t, e⟩ r, I, ha, nd, hl, q => by
    subst e
    rw [List.length_cons] at hl
    obtain ⟨D, ho, F, nd'⟩ : LS X.prog X.w s.heap a ys := (I.hok a _ ha).1
    refine PySem.W.kds_fill_cons ?_
    unfold setAdd
    refine wpAny_holding (wpAny_bind ((strKind X.prog X.w).pyHash (is_str z t) ?_))
    by_cases hk : z ∈ ys
    · refine add_old (s := { s with toks := s.toks + 1 }) ho F hk (by unfold scanBound; omega) ?_
      exact fill_ls r (I.tok _) ha nd (by omega) fun ys' s' n1 m1 I1 => q ys' s' n1 (fun x => by
        rw [m1 x, List.mem_cons]
        constructor
        · rintro (h | h)
          · exact .inl h
          · exact .inr (.inr h)
        · rintro (h | h | h)
          · exact .inl h
          · exact .inl (h ▸ hk)
          · exact .inr h) I1
    · refine add_x (s := { s with toks := s.toks + 1 }) ho F hk (by unfold scanBound; omega) ?_
      have ho2 := get_upd (h := s.heap) (sObj "set" (addTx (hashStr X.w z) (.str z t) D)) ho rfl
      have sb := Heap.SameBut.update s.heap a (fun _ => sObj "set" (addTx (hashStr X.w z) (.str z t) D))
      have R2 : LS X.prog X.w (s.heap.update a fun _ => sObj "set" (addTx (hashStr X.w z) (.str z t) D)) a (z :: ys) := ⟨_, ho2, add_ok t F, List.nodup_cons.mpr ⟨hk, nd⟩⟩
      have I2 : Inv X pins σ (upd H a (LSO X.prog X.w a (z :: ys))) { s with heap := s.heap.update a fun _ => sObj "set" (addTx (hashStr X.w z) (.str z t) D), toks := s.toks + 1 } :=
        I.write (e := a) (t' := s.toks + 1) (by rw [ha]; trivial) (.inl rfl) (fun b u hb hu => (sb.2 b hb).trans hu) ⟨_, ho2⟩ (lso_new R2)
      refine fill_ls r I2 upd_same (List.nodup_cons.mpr ⟨hk, nd⟩) (by rw [List.length_cons]; omega) fun ys' s' n1 m1 I1 => q ys' s' n1 (fun x => by
        rw [m1 x, List.mem_cons, List.mem_cons]
        constructor
        · rintro ((h | h) | h)
          · exact .inr (.inl h)
          · exact .inl h
          · exact .inr (.inr h)
        · rintro (h | h | h)
          · exact .inl (.inr h)
          · exact .inl (.inl h)
          · exact .inr h) ?_
      rw [show upd (upd H a (LSO X.prog X.w a (z :: ys))) a (LSO X.prog X.w a ys') = upd H a (LSO X.prog X.w a ys') from funext fun b => by
        by_cases hb : b = a
        · rw [hb, upd_same, upd_same]
        · rw [upd_ne hb, upd_ne hb, upd_ne hb]] at I1
      exact I1
def tDispS (P : Program) (w : World) (ts : List TE) : TE := fun σ H Q => ∀ a, H a = none → tVs ts σ (upd H a (LSO P w a [])) fun vs H2 => ∃ zs : List Str, vs = zs.map V.str ∧ zs.length ≤ 30 ∧ H2 a = some (LSO P w a []) ∧
  ∀ ys, ys.Nodup → (∀ x, x ∈ ys ↔ x ∈ zs) → Q (.ref a) (upd H2 a (LSO P w a ys))
theorem pe_dispS {es : List Expr} {ts : List TE} {pos : Pos} (hcd : PySem.W.kdsCode X.K X.env.code = true) (h : PJ X es ts) (hp : es.all PySem.W.kdsPlain = true) (hr : displayRoad 0 es = .oneByOne) (hl : es.length ≤ 30) : PE X (.Set es 0 pos) (tDispS X.prog X.w ts) := by
  refine ⟨fun pins s σ H Q I q => ?_⟩
  rw [arm_eval_Set]
  refine wpAny_bind (wpAny_standAt ?_)
  refine wpAny_bind (PySem.W.kds_main I.kIn hcd fun b => ?_)
  rw [PySem.W.kds_star es hp, List.map_map]
  refine PySem.W.kds_core (ts := (evalEach es X.env).map fun t => do let v ← t; standAt pos; pure v) (by rw [hr]; rfl) ?_ ?_ ?_ fun led => ?_
  · refine List.findIdx?_eq_none_iff.mpr fun x hx => ?_
    obtain ⟨t, _, rfl⟩ := List.mem_map.mp hx
    rfl
  · rw [List.length_map, PySem.W.kds_len]
    exact hl
  · rw [List.map_map]
    try rfl
  · refine PySem.W.kds_all pos es _ _ ?_
    have hn : H s.heap.objs.size = none := I.hok.fresh (Nat.le_refl _)
    have R0 : LS X.prog X.w (s.heap.push { cls := .type "set", dict := none, data := .set #[] 0 (.fresh 0 0 led) }) s.heap.objs.size [] := ⟨(#[], 0, .fresh 0 0 led), Heap.get?_push_size _ rfl, TxOk.nil rfl, List.nodup_nil⟩
    have I1 : Inv X pins σ (upd H s.heap.objs.size (LSO X.prog X.w s.heap.objs.size [])) { s with heap := s.heap.push { cls := .type "set", dict := none, data := .set #[] 0 (.fresh 0 0 led) } } :=
      I.laid (t' := s.toks) (fun b o e => Heap.get?_push_of_some _ e) (Nat.le_refl _) (lso_new R0)
    refine pj_all h I1 (q _ hn) fun vs us s1 H1 I2 rv ⟨zs, hv, hz, hH, q2⟩ => ?_
    subst hv
    rw [hr]
    refine fill_ls (strs_vals2 rv) I2 hH List.nodup_nil (by simp; omega) fun ys s' nd m I3 => ?_
    exact ⟨.ref _, _, I3, rfl, q2 ys nd fun x => by rw [m x]; simp⟩
/-- len of a set of texts -/
def rLenLS (P : Program) (w : World) : List V → Hp → VK → Prop := fun vs H Q => ∃ (a : Addr) (ys : List Str), vs = [V.ref a] ∧ H a = some (LSO P w a ys) ∧ ys.length < 4096 ∧ Q (.int ys.length) H
theorem cr_lenLS : CallR X (.builtin "len") (rLenLS X.prog X.w) := by
  intro pins s σ H vs us Q I r h
  obtain ⟨a, ys, rfl, ha, hl, q⟩ := h
  obtain ⟨D, ho, F, nd⟩ : LS X.prog X.w s.heap a ys := (I.hok a _ ha).1
  rw [Vals.ref1 r]
  have hsz : D.1.size = ys.length := F.sz
  refine call_len_set (es := D.1) (ep := D.2.1) (t := D.2.2) ho ⟨rfl, rfl, rfl⟩ rfl F.fit (by omega) ?_
  exact ⟨.int ys.length, H, (I.tok _).tok _, ⟨_, by rw [hsz]⟩, q⟩
/-- len({..}) -/
def tLenDisp (ts : List TE) : TE := fun σ H Q => ∀ (a : Addr) (φ : Heap → Prop), H a = none → tVs ts σ (upd H a (.ext φ)) fun vs H2 => ∃ zs : List Str, vs = zs.map V.str ∧ zs.length ≤ 30 ∧ H2 a = some (.ext φ) ∧
  ∀ (ys : List Str) (φ2 : Heap → Prop), ys.Nodup → (∀ x, x ∈ ys ↔ x ∈ zs) → Q (.int ys.length) (upd H2 a (.ext φ2))
end
inductive MonoT : List TE → Prop
  | nil : MonoT []
  | cons {t : TE} {ts : List TE} (h : ∀ σ H Q Q', t σ H Q → (∀ v H', Q v H' → Q' v H') → t σ H Q') (r : MonoT ts) : MonoT (t :: ts)
theorem tVs_mono {ts : List TE} (h : MonoT ts) : ∀ {σ : L2.St} {H : Hp} {Q Q' : List V → Hp → Prop}, tVs ts σ H Q → (∀ v H', Q v H' → Q' v H') → tVs ts σ H Q' := by
  induction h with
  | nil => exact fun q k => k _ _ q
  | cons h r ih => exact fun q k => h _ _ _ _ q fun x H1 q1 => ih q1 fun xs H2 q2 => k _ _ q2
section
variable {X : Cx} {p p1 p2 : Pos}
def ups (ts : List TE) : List TE := ts.map tUp
theorem pj_up {es : List Expr} {ts : List TE} (h : PJ X es ts) : PJ X es (ups ts) := by
  induction h with
  | nil => exact .nil
  | cons h r ih => exact .cons (pe_up h) ih
theorem ups_mono (ts : List TE) : MonoT (ups ts) := by
  induction ts with
  | nil => exact .nil
  | cons t ts ih => exact .cons (fun σ H Q Q' ⟨Q0, h, k⟩ k' => ⟨Q0, h, fun v H' q => k' _ _ (k _ _ q)⟩) ih
theorem pe_lenDisp {es : List Expr} {ts : List TE} (hm : X.mg "len" = none) (hcd : PySem.W.kdsCode X.K X.env.code = true) (h : PJ X es ts) (hp : es.all PySem.W.kdsPlain = true := by rfl) (hr : displayRoad 0 es = .oneByOne := by rfl) (hl : es.length ≤ 30 := by decide) (hg : Gl X "len" := by rfl)
    (he : starEach [Expr.Set es 0 p1] X.env = [(false, eval (.Set es 0 p1) X.env)] := by rfl) : PE X (.Call (.Name "len" p) [.Set es 0 p1] [] p2) (tLenDisp (ups ts)) := by
  have g := pe_callB (pos := p2) (p := p) (r := rLenLS X.prog X.w) cr_lenLS hg hm b_len (pa_cons (pe_up (pe_dispS (pos := p1) hcd (pj_up h) hp hr hl)) pa_nil he) (by decide) (by decide) he rfl
  refine ⟨fun pins s σ H Q I hq => g.run pins s σ H Q I ⟨fun v H' => ∃ a ys, v = V.ref a ∧ H' a = some (LSO X.prog X.w a ys) ∧ ys.length < 4096 ∧ Q (.int ys.length) H', fun a ha => ?_, ?_⟩⟩
  · refine tVs_mono (ups_mono ts) (hq a _ ha) ?_
    rintro vs H2 ⟨zs, rfl, hz, hH, q⟩
    refine ⟨zs, rfl, hz, hH, fun ys nd m => ⟨a, ys, rfl, upd_same, ?_, q ys _ nd m⟩⟩
    have := dd_perm nd m
    have := this.length_eq
    have := dd_len zs
    omega
  · rintro v H1 ⟨a, ys, rfl, ha, hl, q⟩
    exact ⟨a, ys, rfl, ha, hl, q⟩
end
section
variable {K : PySem.W.Frag} {ρ : List Sl}
theorem ej_vs {ts : List TE} {zs : List Str} (h : EJ K ρ ts zs) : ∀ {G0 H0 G H : Hp} {σ : L2.St} {Q : List V → Hp → Prop}, En K G0 H0 G H σ ρ →
    (∀ G' H', Ext G H G' H' → Q (zs.map V.str) H') → tVs (ups ts) σ H Q := by
  induction h with
  | nil =>
    intro G0 H0 G H σ Q E q
    exact q G H (.refl E.gh)
  | @cons t z ts zs h r ih =>
    intro G0 H0 G H σ Q E q
    refine ⟨_, h G0 H0 G H σ _ E fun v G1 H1 e1 h1 => ?_, fun v H' q => q⟩
    cases h1
    exact ih (E.go e1) fun G' H' e => q G' H' (e1.trans e)
theorem ev_lenDisp {ts : List TE} {zs : List Str} (h : EJ K ρ ts zs) (hz : zs.length ≤ 30) : EV K (tLenDisp (ups ts)) ρ (.int (dd zs).length) := fun G0 H0 G H σ Q E q a φ ha => by
  have x : Ext G H G (upd H a (.ext φ)) := Ext.fresh E.gh ha
  have hG := E.gh.none ha
  refine ej_vs h (E.go x) fun G' H' e => ⟨zs, rfl, hz, e.at hG upd_same, fun ys φ2 nd m => ?_⟩
  rw [(dd_perm nd m).length_eq]
  have hG' := e.own _ _ (upd_same (H := H) (a := a) (o := .ext φ)) rfl hG
  refine q _ G' _ ⟨e.gg, fun b o z => ?_, fun b o z => ?_, fun b o z t n => ?_⟩ (.int _)
  · have ne : b ≠ a := ne_of_none z ha
    rw [upd_ne ne]
    exact e.hh b o (by rw [upd_ne ne]; exact z)
  · exact (e.gh b o z).eq (upd_ne (ne_of_none z hG'))
  · exact e.own b o (by rw [upd_ne (ne_of_none z ha)]; exact z) t n
end
end DL
set_option maxHeartbeats 1000000
/-! DL50: try: f(..) / except C as n; a def whose text holds a set display. -/
namespace DL
open PySem PySem.Spec PyProof.Rows L2
/-- try: f(..) / except C as n: suite -/
def tTryE (K : PySem.W.Frag) (c : Value) (i : Nat) (ts : Addr → Value → Option Addr → TS) (sp : Sp) (t : TA) : TS := fun D σ H => tDrop (tCallS sp (WE (wAs K c i ts (fun _ _ _ _ => False) D)) t) D σ H
section
variable {K : PySem.W.Frag} {Ex : XK} {ρ : List Sl} {P : Oc → Prop}
theorem st_tryE {R : List D → D → Prop} {Y : List D → Addr → List (Str × D) → Prop} {t : TA} {ds : List D} {i : Nat} {c : Value} {ts : Addr → Value → Option Addr → TS} (h : EA K t ρ ds)
    (hr : (∃ d, R ds d ∧ P (.nx ρ)) ∨
      (∃ C fl, Y ds C fl ∧ PySem.W.exmOne K (.ref C) c = some true ∧ ∀ a dd, ST K E0 (ts a (.ref C) (some dd)) (ρ.set i (Sl.ex a dd fl)) (suiP i P))) :
    ST K Ex (tTryE K c i ts (PX K R Y) t) ρ P := fun G0 H0 G H σ D E f =>
  h G0 H0 G H σ _ E fun vs G1 H1 e1 h1 => by
    have E1 := E.go e1
    rcases hr with ⟨d, hd, q⟩ | ⟨C, fl, hY, he, q⟩
    · exact ⟨G1, ds, e1.gh, h1, .inl ⟨d, hd, fun v G2 H2 x hv => f.nx _ _ G2 H2 q (E1.go x)⟩⟩
    · refine ⟨G1, ds, e1.gh, h1, .inr ⟨C, fl, hY, fun dd fs G2 H2 x hx hf => ⟨true, he, fun _ a ha => ?_, fun z => nomatch z⟩⟩⟩
      exact q a dd G0 H0 G2 H2 _ _ ((E1.go x).setE i hx hf) ⟨fun ρ' σ' G' H' p E' => f.nx _ _ G' H' p (E'.setX i none), fun d v G' H' p x hd => f.rt d v G' H' p x hd,
        fun ρ' σ' G' H' p E' => f.bk _ _ G' H' p (E'.setX i none), fun ρ' σ' G' H' p E' => f.ct _ _ G' H' p (E'.setX i none), fun C fl dd fs G' H' p => p.elim⟩
theorem ev_callX0 {R : List D → D → Prop} {Y : List D → Addr → List (Str × D) → Prop} {t : TA} {ds : List D} {d : D} {W : L2.St → XK} (h : EA K t ρ ds) (hr : R ds d) : EV K (tCallS (PX K R Y) W t) ρ d := fun G0 H0 G H σ Q E q =>
  h G0 H0 G H σ _ E fun vs G1 H1 e1 h1 => ⟨G1, ds, e1.gh, h1, .inl ⟨d, hr, fun v G2 H2 x hv => q v G2 H2 (e1.trans x) hv⟩⟩
end
section
variable {P : Program} {w : World} {K : PySem.W.Frag} {mg : Str → Option Value} {base : Heap}
theorem fnd_okc {x qual : Str} {params : Arguments} {body : List Stmt} {scope : Scope} {f : Addr} {fd : FuncData} {CX : CXT} {N ps : List Str} {k : Nat} {sp : Sp} (F : FunD K x qual params body scope [] [] f fd) (S : FnScope N ps scope) (len : ∀ vs H Q E, sp vs H Q E → vs.length = ps.length)
    (hbody : ∀ (cdv : Value) (A : Around) (outer : List Env) (s : Shared) (H : Hp) (vs : List V) (Q : VK) (E : XK), PySem.W.kdsCode K cdv = true → Room k (A.deeper (envOfC qual scope s.heap.objs.size f cdv)) → sp vs H Q E →
      ∃ t, PSs (cxOf CX P w K mg base N qual scope f cdv A outer s H E) body t ∧ t { nx := fun _ H' => Q .non H', rt := Q } (start N vs) H) : FnOk P w K mg base CX (k + 1) f fd ps sp := by
  obtain ⟨oc, od, dV, kV, doc, pm, an, cdv, ct, osl, rfl, lk, hcd, _, _⟩ := F.ex
  exact fn_of lk hcd S len fun A outer s H vs Q E hr hsp => hbody cdv A outer s H vs Q E (kdsCode_of hcd) hr hsp
/-- fn_pf for a def whose text holds a set display -/
theorem fn_pfc {x qual : Str} {params : Arguments} {body : List Stmt} {scope : Scope} {f : Addr} {fd : FuncData} {N ps : List Str} {k : Nat} {R : List D → D → Prop} (F : FunD K x qual params body scope [] [] f fd) (S : FnScope N ps scope)
    (len : ∀ ds d, R ds d → ds.length = ps.length)
    (hb : ∀ (cdv : Value) (A : Around) (outer : List PySem.Env) (s : Shared) (H : Hp) (E : XK), PySem.W.kdsCode K cdv = true → Room k (A.deeper (envOfC qual scope s.heap.objs.size f cdv)) →
      ∃ t, PSs (cxOf CX0 P w K mg base N qual scope f cdv A outer s H E) body t ∧ ∀ ds d, R ds d → DL.ST K E0 t (start0 N.length ds) (fun o => o = .rt d ∨ (d = .none ∧ ∃ ρ, o = .nx ρ))) : FnOk P w K mg base CX0 (k + 1) f fd ps (PF K R) := by
  refine fnd_okc F S (fun vs H Q E h => ?_) (fun cdv A outer s H vs Q E hcd hr h => ?_)
  · obtain ⟨G, ds, d, g, ha, hR, q⟩ := h
    exact ha.length.trans (len ds d hR)
  · obtain ⟨t, h1, h2⟩ := hb cdv A outer s H E hcd hr
    obtain ⟨G, ds, d, g, ha, hR, q⟩ := h
    refine ⟨t, h1, h2 ds d hR G H G H _ _ (en_start g ha) ⟨fun ρ' σ' G' H' p E' => ?_, fun d' v G' H' p x hv => ?_, fun ρ' σ' G' H' p E' => ?_, fun ρ' σ' G' H' p E' => ?_, fun C fl dd fs G' H' p => ?_⟩⟩
    · rcases p with p | ⟨rfl, _⟩
      · cases p
      · exact q _ G' H' E'.ext .non
    · rcases p with p | ⟨rfl, ρ, p⟩
      · cases p
        exact q v G' H' x hv
      · cases p
    · rcases p with p | ⟨_, _, p⟩ <;> cases p
    · rcases p with p | ⟨_, _, p⟩ <;> cases p
    · rcases p with p | ⟨_, _, p⟩ <;> cases p
end
end DL
set_option maxHeartbeats 1000000
/-! DL51: text[::-1]. -/
namespace DL
open PySem PySem.Spec PyProof.Rows L2
def revS (z : Str) : Str := mkS z.cps.toList.reverse
theorem revS_of (z : Str) (u : Tok) : Txt.sliceBy z none none (-1, u) = revS z := by
  refine str_ext ?_
  rw [step_rev_list]
  show _ = z.cps.toList.reverse
  refine List.ext_getElem (by rw [List.length_map, List.length_range, List.length_reverse, ← DL.len_list]) fun i h1 h2 => ?_
  rw [List.length_map, List.length_range] at h1
  rw [List.getElem_map, List.getElem_range, List.getElem_reverse]
  have h3 : z.length - 1 - i < z.cps.size := by
    show z.cps.size - 1 - i < z.cps.size
    have h1 : i < z.cps.size := h1
    omega
  have e : z.cps.toList.length - 1 - i = z.length - 1 - i := by rw [← DL.len_list]
  have : z.cps.toList[z.length - 1 - i]? = some (z.cps.getD (z.length - 1 - i) 0) := by
    rw [Array.getElem?_toList, Array.getD_eq_getD_getElem?, Array.getElem?_eq_getElem h3]
    rfl
  rw [← e] at this
  obtain ⟨_, h⟩ := List.getElem?_eq_some_iff.mp this
  rw [h, e]
def tRevS (te : TE) : TE := fun σ H Q => te σ H fun x H1 => ∃ z, x = .str z ∧ z.length ≤ sizeLine ∧ Q (.str (revS z)) H1
theorem pe_revS {X : Cx} {e : Expr} {te : TE} {k : Nat} {p1 p2 p3 pos : Pos} (he : PE X e te) : PE X (.Subscript e (.Slice none none (some (.UnaryOp .USub (.Constant (.int 1) k p1) p2)) p3) pos) (tRevS te) := by
  refine ⟨fun pins s σ H Q I h => ?_⟩
  refine Subscript_ (thn (he.run pins s σ H _ I h) fun v s1 ⟨x, H1, I1, r1, q1⟩ => ?_)
  obtain ⟨z, ex, hx, q⟩ := q1
  subst ex
  obtain ⟨t, rfl⟩ := r1
  have hst : PO X (some (.UnaryOp .USub (.Constant (.int 1) k p1) p2)) (tPart (tUn (rU fun i => .int (-i)) (tC (.int 1)))) := po_some (pe_un un_neg pe_int)
  refine wpAny_Slice (thn (po_none.run pins s1 σ H1 (fun o H2 => o = none ∧ H2 = H1) I1 ⟨rfl, rfl⟩) fun vl s2 ⟨l, H2, I2, pl, el, e2⟩ => ?_)
  subst el e2
  refine thn (po_none.run pins s2 σ H2 (fun o H3 => o = none ∧ H3 = H2) I2 ⟨rfl, rfl⟩) fun vu s3 ⟨u, H3, I3, pu, eu, e3⟩ => ?_
  subst eu e3
  refine thn (hst.run pins s3 σ H3 (fun o H4 => o = some (-1) ∧ H4 = H3) I3 ⟨1, rfl, -1, rfl, rfl, rfl⟩) fun vs s4 ⟨o, H4, I4, ps, eo, e4⟩ => ?_
  subst eo e4
  have I5 : Inv X pins σ H4 { s4 with heap := s4.heap.push { cls := .type "slice", data := .fields #[vl, vu, vs] } } := I4.kept (t' := s4.toks) fun b ob q => Heap.get?_push_of_some _ q
  obtain ⟨l, rfl, el⟩ := IsPart.raw pl
  obtain ⟨u, rfl, eu⟩ := IsPart.raw pu
  obtain ⟨st, rfl, es⟩ := IsPart.raw ps
  cases l with
  | some x => cases el
  | none =>
  cases u with
  | some x => cases eu
  | none =>
  cases st with
  | none => cases es
  | some x =>
  obtain ⟨j, uj⟩ := x
  have ej : j = -1 := Option.some.inj es
  subst ej
  show wpAny (model X.prog X.w) X.A (subscriptTail e (.Slice none none (some (.UnaryOp .USub (.Constant (.int 1) k p1) p2)) p3) (.str z t) (.ref s4.heap.objs.size)) (EP X pins σ Q) X.xe { s4 with heap := s4.heap.push { cls := .type "slice", data := .fields #[.none, .none, .int (-1) uj] } }
  refine tail_any (ops := [.ref s4.heap.objs.size, .str z t]) (typeIs_str _ _ _) F.slot_str_getitem.lookup ?_ (by with_unfolding_all rfl)
  refine wpAny_getItem_str_slice (l := none) (u := none) (st := some (-1, uj)) ⟨_, Heap.get?_push_size _ rfl, rfl, rfl⟩ rfl ?_
  refine post_val_or_str ⟨Nat.le_trans (Txt.sliceBy_le z _ _ (-1, uj) (by show (-1 : Int) ≠ 0; decide)) hx, fun t' c => ?_⟩
  refine ⟨.str (Txt.sliceBy z none none (-1, uj)), H4, I5.tok _, ⟨_, rfl⟩, ?_⟩
  rw [revS_of]
  exact q
section
variable {K : PySem.W.Frag} {ρ : List Sl} {te : TE}
theorem ev_revS {z : Str} (h : EV K te ρ (.str z)) (hz : z.length ≤ sizeLine) : EV K (tRevS te) ρ (.str (revS z)) := fun G0 H0 G H σ Q E q =>
  h G0 H0 G H σ _ E fun v G1 H1 e1 h1 => by
    cases h1
    exact ⟨z, rfl, hz, q _ G1 H1 e1 (.str _)⟩
end
end DL
namespace K19
open PySem L2 DL
abbrev sL : Str := "abcdefghijklmnopqrstuvwxyz"
abbrev sF : Str := "0123456789"
structure Bx where
  w : Int
  s : Int
  e : Int
  n : Int
def bxD (b : Bx) : D := .tuple [.int b.w, .int b.s, .int b.e, .int b.n]
def plD (rs : List Str) (w h : Int) (bs : List Bx) : D := .tuple [.tuple (rs.map PyData.str), .int w, .int h, .tuple (bs.map bxD)]
def zB : Bx := ⟨0, 0, 0, 0⟩
def acr (a b : Bx) : Int := min a.e b.e - max a.w b.w
def alo (a b : Bx) : Int := min a.n b.n - max a.s b.s
/-- boxes that have no inside in common -/
def Dis (a b : Bx) : Prop := acr a b ≤ 0 ∨ alo a b ≤ 0
def Pos (b : Bx) : Prop := b.w < b.e ∧ b.s < b.n
def lowC : Str := "abcdefghijklmnopqrstuvwxyz"
def numC : Str := "0123456789"
/-- a room's name: a small letter first -/
def HeadLow (z : Str) : Prop := ∃ c r, z.cps.toList = c :: r ∧ c ∈ lowC.cps.toList ∧ ∀ x ∈ r, x ∈ lowC.cps.toList ∨ x ∈ numC.cps.toList
def Name (z : Str) : Prop := HeadLow z ∧ z.length ≤ 8
structure VP (rs : List Str) (bs : List Bx) : Prop where
  len : rs.length = bs.length
  many : rs.length ≤ 40
  up : rs.Pairwise fun a b => ltS a b = true
  names : ∀ z ∈ rs, Name z
  pos : ∀ b ∈ bs, Pos b
  dis : bs.Pairwise Dis
def bA (bs : List Bx) (i : Nat) : Bx := bs.getD i zB
def area (b : Bx) : Int := (b.e - b.w) * (b.n - b.s)
def areas (bs : List Bx) : Int := (bs.map area).sum
mutual
/-- nodes of a datum -/
def nodes : D → Nat
  | .tuple ds => 1 + nodesA ds
  | _ => 1
def nodesA : List D → Nat
  | [] => 0
  | d :: ds => nodes d + nodesA ds
end
mutual
def plain : D → Bool
  | .none => true
  | .bool _ => true
  | .int _ => true
  | .str _ => true
  | .tuple ds => plainA ds
  | _ => false
def plainA : List D → Bool
  | [] => true
  | d :: ds => plain d && plainA ds
end
/-! names -/
def badAt (z : Str) (i : Nat) : Bool := !decide (z.cps.getD i 0 ∈ sL.cps.toList) && (decide ((i : Int) = 0) || !decide (z.cps.getD i 0 ∈ sF.cps.toList))
def lenOk (z : Str) : Bool := decide (1 ≤ (z.length : Int)) && decide ((z.length : Int) ≤ 8)
def optD : Option Nat → D
  | none => .none
  | some i => .int (i : Nat)
def nfS (z : Str) : D := if lenOk z = true then optD (firstP (badAt z) z.cps.size) else .int (-1)
def nameB (z : Str) : Bool := isNoneD (nfS z)
def optS : Option Str → D
  | none => .none
  | some w => .str w
def sp_name_fault (K : PySem.W.Frag) : Sp := PF K fun ds d => ∃ z : Str, ds = [.str z] ∧ z.length ≤ 100000 ∧ d = nfS z
def sp_is_name (K : PySem.W.Frag) : Sp := PF K fun ds d => ∃ z : Str, ds = [.str z] ∧ z.length ≤ 100000 ∧ d = .bool (nameB z)
/-! lines and words -/
def linesT (z : Str) : List Str := if z = "" then [] else piecesT 10 z
def wordsT (z : Str) : List Str := (piecesT 32 z).filter fun w => !decide (w = "")
def sp_text_lines (K : PySem.W.Frag) : Sp := PF K fun ds d => ∃ z : Str, ds = [.str z] ∧ z.length ≤ 10000000 ∧ d = .list ((linesT z).map PyData.str)
def sp_words_of (K : PySem.W.Frag) : Sp := PF K fun ds d => ∃ z : Str, ds = [.str z] ∧ z.length ≤ 10000000 ∧ d = .list ((wordsT z).map PyData.str)
/-! signs and pictures -/
abbrev SG : Str := "abcdefghijklmnopqrstuvwxyzABCDEFGHIJKLMN"
def sgT (n : Nat) : Str := cutS SG none (some (n : Int))
/-- the sign at place k -/
def sgC (sg : Str) (k : Nat) : Nat := sg.cps.getD k 0
def hitB (y : Int) (b : Bx) : Bool := decide (b.s ≤ y) && decide (y < b.n)
/-- the boxes at the height y, west first, by their places -/
def rowI (bs : List Bx) (y : Int) : List Nat := ((List.range bs.length).filter fun k => hitB y (bA bs k)).mergeSort fun i j => decide ((bA bs i).w ≤ (bA bs j).w)
def pieceT (bs : List Bx) (sg : Str) (k : Nat) : Str := repS (oneS (sgC sg k)) ((bA bs k).e - (bA bs k).w)
def rowT (bs : List Bx) (sg : Str) (y : Int) : Str := Txt.join "" ((rowI bs y).map (pieceT bs sg))
def signL (rs : List Str) (sg : Str) (k : Nat) : Str := oneS (sgC sg k) ++ " " ++ rs.getD k Str.empty
def picT (rs : List Str) (h : Nat) (bs : List Bx) (sg : Str) : List Str := ((List.range h).map fun i => rowT bs sg ((h : Int) - 1 - (i : Nat))) ++ [("--" : Str)] ++ (List.range rs.length).map (signL rs sg)
/-- boxes within a picture -/
structure PB (bs : List Bx) : Prop where
  many : bs.length ≤ 40
  ok : ∀ b ∈ bs, Pos b ∧ 0 ≤ b.w ∧ b.e ≤ 160 ∧ 0 ≤ b.s ∧ b.n ≤ 160
  dis : bs.Pairwise Dis
def sp_room_signs (K : PySem.W.Frag) : Sp := PF K fun ds d => ∃ rs : List Str, ds = [.tuple (rs.map PyData.str)] ∧ rs.length ≤ 1000 ∧ d = .str (sgT rs.length)
def sp_u_law_signs (K : PySem.W.Frag) : Sp := PF K fun ds d => ∃ n : Nat, ds = [.int (n : Nat)] ∧ n ≤ 1000 ∧ d = .str (sgT n)
def sp_picture_line (K : PySem.W.Frag) : Sp := PF K fun ds d => ∃ (bs : List Bx) (sg : Str) (y : Int), ds = [.tuple (bs.map bxD), .str sg, .int y] ∧ PB bs ∧ bs.length = sg.cps.size ∧ d = .str (rowT bs sg y)
def sp_picture_of (K : PySem.W.Frag) : Sp := PX K (fun ds d => ∃ (rs : List Str) (w h : Nat) (bs : List Bx), ds = [plD rs w h bs] ∧ PB bs ∧ rs.length = bs.length ∧ (∀ z ∈ rs, z.length ≤ 8) ∧ w ≤ 160 ∧ h ≤ 160 ∧ d = .str (Txt.join "\n" (picT rs h bs (sgT rs.length))))
  (fun ds C fl => ∃ (rs : List Str) (w h : Int) (bs : List Bx), ds = [plD rs w h bs] ∧ (160 < w ∨ 160 < h) ∧ C = He.ga K "BadStep" ∧ fl = [(("word" : Str), PyData.str "wide")])
def sp_u_law_picture (K : PySem.W.Frag) : Sp := PF K fun ds d => ∃ (rs : List Str) (w h : Nat) (bs : List Bx) (sg : Str), ds = [plD rs w h bs, .str sg] ∧ PB bs ∧ rs.length = bs.length ∧ bs.length = sg.cps.size ∧ (∀ z ∈ rs, z.length ≤ 8) ∧ h ≤ 160 ∧ d = .list ((picT rs h bs sg).map PyData.str)
/-! reading -/
/-- what is wrong with the words of a sign's line -/
def signF (ws : List Str) (sg : List Str) (er : Str) : Option Str :=
  if ws.length ≠ 2 then some "words" else
  if ¬ ((ws.getD 0 Str.empty).length = 1 ∧ (ws.getD 0 Str.empty).cps.getD 0 0 ∈ SG.cps.toList) then some "sign" else
  if nameB (ws.getD 1 Str.empty) = false then some "name" else
  if ws.getD 0 Str.empty ∈ sg then some "twice" else
  if ltS er (ws.getD 1 Str.empty) = true then none else some "order"
def toldF : Nat → List (List Str) → List Str → Str → Option (Nat × Str)
  | _, [], _, _ => none
  | k, ws :: r, sg, er => match signF ws sg er with
    | some f => some (k, f)
    | none => toldF (k + 1) r (sg ++ [ws.getD 0 Str.empty]) (ws.getD 1 Str.empty)
def linesF (ls : List Str) : Option (Nat × Str) := if ls = [] then some (0, "lacks") else toldF 0 (ls.map wordsT) [] Str.empty
def firstsW (wss : List (List Str)) : List Str := wss.map fun ws => ws.getD 0 Str.empty
def rowF (rows sg : List Str) (i : Nat) : Option Str :=
  if (decide (rows.getD i Str.empty = ("" : Str)) || decide ((rows.getD i Str.empty).length ≠ (rows.getD 0 Str.empty).length)) = true then some "width" else
  if (decide (160 < (rows.getD i Str.empty).length) || decide (160 ≤ i)) = true then some "limit" else
  if ((rows.getD i Str.empty).cps.toList.all fun c => decide (oneS c ∈ sg)) = true then none else some "unknown"
def gridF (rows sg : List Str) : Option (Nat × Str) := if rows = [] then some (0, "width") else firstO (rowF rows sg) rows.length
/-- the rows that hold the sign c -/
def occ (rows : List Str) (c : Nat) : List Nat := (List.range rows.length).filter fun k => decide (c ∈ (rows.getD k Str.empty).cps.toList)
def fstC (z : Str) (c : Nat) : Nat := z.cps.toList.findIdx fun x => decide (x = c)
def cntC (z : Str) (c : Nat) : Nat := z.cps.toList.count c
def lineOk (z : Str) (c b m : Nat) : Bool := decide (cntC z c = m) && decide ((z.cps.toList.drop b).take m = List.replicate m c)
def boxF (rows : List Str) (c : Nat) : Option Str :=
  match occ rows c with
  | [] => some "lacks"
  | r :: rs => if (decide ((r :: rs).getLastD 0 - r + 1 = (r :: rs).length) && (r :: rs).all fun k => lineOk (rows.getD k Str.empty) c (fstC (rows.getD r Str.empty) c) (cntC (rows.getD r Str.empty) c)) = true then none else some "box"
def boxO (rows : List Str) (c : Nat) : Bx :=
  let os := occ rows c
  let z := rows.getD (os.headD 0) Str.empty
  ⟨fstC z c, (rows.length : Int) - 1 - (os.getLastD 0 : Nat), fstC z c + cntC z c, (rows.length : Int) - (os.headD 0 : Nat)⟩
def fourB (u l : Str) : Bool := (List.range u.length).any fun x => decide (1 ≤ x) && decide ((dd [oneS (u.cps.getD (x - 1) 0), oneS (u.cps.getD x 0), oneS (l.cps.getD (x - 1) 0), oneS (l.cps.getD x 0)]).length = 4)
def fourF (rows : List Str) (i : Nat) : Option Str := if fourB (rows.getD i Str.empty) (rows.getD (i + 1) Str.empty) = true then some "four" else none
inductive RT where
  | bad (line : Int) (word : Str)
  | ok (rs : List Str) (w h : Nat) (bs : List Bx)
def codeW (ws : List Str) : Nat := (ws.getD 0 Str.empty).cps.getD 0 0
def readAt (ls : List Str) (m : Nat) : RT :=
  match linesF (ls.drop (m + 1)) with
  | some (i, w) => .bad (m + 2 + (i : Nat)) w
  | none =>
    let wss := (ls.drop (m + 1)).map wordsT
    let rows := ls.take m
    match gridF rows (firstsW wss) with
    | some (i, w) => .bad (1 + (i : Nat)) w
    | none =>
      match firstO (fun i => boxF rows (codeW (wss.getD i []))) wss.length with
      | some (i, w) => .bad (m + 2 + (i : Nat)) w
      | none =>
        match firstO (fourF rows) (m - 1) with
        | some (i, w) => .bad (i + 1 : Nat) w
        | none => .ok (wss.map fun ws => ws.getD 1 Str.empty) (rows.getD 0 Str.empty).length m (wss.map fun ws => boxO rows (codeW ws))
def barP (ls : List Str) : Nat := ls.findIdx fun l => decide (l = ("--" : Str))
def readL (ls : List Str) : RT := if ("--" : Str) ∈ ls then readAt ls (barP ls) else .bad ((ls.length : Nat) + 1) "place"
def readT (z : Str) : RT := readL (linesT z)
/-- lines that the walks are for -/
structure TP (z : Str) : Prop where
  len : z.length ≤ 10000000
  many : (linesT z).length ≤ 2000
  words : ∀ l ∈ linesT z, l.length ≤ 4000
def resX (r : RT) : D := match r with
  | .bad l w => .tuple [.int l, .str w]
  | .ok rs w h bs => plD rs w h bs
def sp_sign_words_fault (K : PySem.W.Frag) : Sp := PF K fun ds d => ∃ (ws sg : List Str) (er : Str), ds = [.list (ws.map PyData.str), dkD (bS sg), .str er] ∧ (∀ w ∈ ws, w.length ≤ 4000) ∧ d = optS (signF ws sg er)
def fltD : Option (Nat × Str) → D
  | none => .none
  | some (i, w) => .tuple [.int (i : Nat), .str w]
def sp_sign_lines_fault (K : PySem.W.Frag) : Sp := PF K fun ds d => ∃ ls : List Str, ds = [.list (ls.map PyData.str)] ∧ ls.length ≤ 2000 ∧ (∀ l ∈ ls, l.length ≤ 4000) ∧ d = fltD (linesF ls)
def sp_shown_fault (K : PySem.W.Frag) : Sp := PF K fun ds d => ∃ rows sg : List Str, ds = [.list (rows.map PyData.str), dkD (bS sg)] ∧ rows.length ≤ 2000 ∧ (∀ l ∈ rows, l.length ≤ 4000) ∧ d = fltD (gridF rows sg)
def sp_sign_rows (K : PySem.W.Frag) : Sp := PF K fun ds d => ∃ (rows : List Str) (c : Nat), ds = [.list (rows.map PyData.str), .str (oneS c)] ∧ rows.length ≤ 2000 ∧ d = .list ((occ rows c).map fun k => PyData.int (k : Nat))
def sp_sign_fault (K : PySem.W.Frag) : Sp := PF K fun ds d => ∃ (rows : List Str) (c : Nat), ds = [.list (rows.map PyData.str), .str (oneS c)] ∧ rows.length ≤ 2000 ∧ (∀ l ∈ rows, l.length ≤ 4000) ∧ d = optS (boxF rows c)
def sp_sign_box (K : PySem.W.Frag) : Sp := PF K fun ds d => ∃ (rows : List Str) (c : Nat), ds = [.list (rows.map PyData.str), .str (oneS c)] ∧ rows.length ≤ 2000 ∧ occ rows c ≠ [] ∧ d = bxD (boxO rows c)
def sp_four_signs_meet (K : PySem.W.Frag) : Sp := PF K fun ds d => ∃ u l : Str, ds = [.str u, .str l] ∧ u.length = l.length ∧ u.length ≤ 4000 ∧ d = .bool (fourB u l)
def sp_read_picture (K : PySem.W.Frag) : Sp := PX K (fun ds d => ∃ z : Str, ds = [.str z] ∧ TP z ∧ ∃ rs w h bs, readT z = .ok rs w h bs ∧ d = plD rs w h bs)
  (fun ds C fl => ∃ z : Str, ds = [.str z] ∧ TP z ∧ ∃ l w, readT z = .bad l w ∧ C = He.ga K "BadText" ∧ fl = [(("word" : Str), PyData.str w), (("line" : Str), PyData.int l)])
/-! the law's own -/
def sp_u_law_state (K : PySem.W.Frag) : Sp := PF K fun ds d => ∃ ns : List Int, ds = [.dict [(.none, .list (ns.map PyData.int))]] ∧ ns.length ≤ 63 ∧ d = stD
def sp_u_law_take (K : PySem.W.Frag) : Sp := PQ K (fun ds => ∃ m : Int, ds = [stD, .int m] ∧ 0 < m ∧ m ≤ 1000000) (fun ds d => ∃ m v : Int, ds = [stD, .int m] ∧ d = .int v ∧ 0 ≤ v ∧ v < m)
def sp_u_law_names (K : PySem.W.Frag) : Sp := PQ K (fun ds => ∃ m : Nat, ds = [stD, .int (m : Int)] ∧ m ≤ 40) (fun ds d => ∃ (m : Nat) (rs : List Str), ds = [stD, .int (m : Int)] ∧ d = .list (rs.map PyData.str) ∧ rs.length = m ∧ rs.Pairwise (fun a b => ltS a b = true) ∧ ∀ z ∈ rs, Name z)
/-- b within a -/
def SubB (b a : Bx) : Prop := a.w ≤ b.w ∧ b.e ≤ a.e ∧ a.s ≤ b.s ∧ b.n ≤ a.n
def Small (b : Bx) : Prop := 0 ≤ b.w ∧ b.e ≤ 10000 ∧ 0 ≤ b.s ∧ b.n ≤ 10000
/-- no box's north-east corner is another's south-west corner -/
def Dia (a b : Bx) : Prop := ¬ (a.e = b.w ∧ a.n = b.s)
/-- one box c gives way to p :: ps: new edges at xs, ys -/
structure Gives (c p : Bx) (ps : List Bx) (xs ys : List Int) : Prop where
  dis : (p :: ps).Pairwise Dis
  sub : ∀ b ∈ p :: ps, Pos b ∧ SubB b c
  sum : areas (p :: ps) = area c
  dia : ∀ a ∈ p :: ps, ∀ b ∈ p :: ps, Dia a b
  inx : ∀ x ∈ xs, c.w < x ∧ x < c.e
  iny : ∀ y ∈ ys, c.s < y ∧ y < c.n
  ew : ∀ b ∈ p :: ps, (b.w = c.w ∨ b.w ∈ xs) ∧ (b.e = c.e ∨ b.e ∈ xs)
  es : ∀ b ∈ p :: ps, (b.s = c.s ∨ b.s ∈ ys) ∧ (b.n = c.n ∨ b.n ∈ ys)
def sp_u_law_mill (K : PySem.W.Frag) : Sp := PM K (fun ds ns ms => ∃ b : Bx, ds = [stD, bxD b] ∧ Pos b ∧ Small b ∧ ns.length ≤ 10000 ∧ ms.length ≤ 10000)
  (fun ds ns ms d ns' ms' => ∃ (b p : Bx) (ps : List Bx) (xs ys : List Int), ds = [stD, bxD b] ∧ d = .list ((p :: ps).map bxD) ∧ ps.length ≤ 4 ∧ ns' = ns ++ xs ∧ ms' = ms ++ ys ∧ xs.length ≤ 2 ∧ ys.length ≤ 2 ∧ (∀ x ∈ xs, x ∉ ns) ∧ (∀ y ∈ ys, y ∉ ms) ∧ Gives b p ps xs ys)
structure Cut (many : Nat) (w h : Int) (strict : Bool) (bs : List Bx) : Prop where
  lo : 1 ≤ bs.length
  hi : bs.length ≤ many
  ok : ∀ b ∈ bs, Pos b ∧ 0 ≤ b.w ∧ b.e ≤ w ∧ 0 ≤ b.s ∧ b.n ≤ h
  dis : bs.Pairwise Dis
  sum : areas bs = w * h
  dia : strict = true → ∀ a ∈ bs, ∀ b ∈ bs, Dia a b
def sp_u_law_cuts (K : PySem.W.Frag) : Sp := PN K (fun ds => ∃ (m : Nat) (w h : Int) (st : Bool), ds = [stD, .int (m : Int), .int w, .int h, .bool st] ∧ 1 ≤ m ∧ m ≤ 40 ∧ 1 ≤ w ∧ w ≤ 10000 ∧ 1 ≤ h ∧ h ≤ 10000)
  (fun ds d => ∃ (m : Nat) (w h : Int) (st : Bool) (bs : List Bx), ds = [stD, .int (m : Int), .int w, .int h, .bool st] ∧ d = .list (bs.map bxD) ∧ Cut m w h st bs)
def sp_u_law_plan (K : PySem.W.Frag) : Sp := PQ K (fun ds => ∃ (m : Nat) (w h : Int) (st : Bool), ds = [stD, .int (m : Int), .int w, .int h, .bool st] ∧ 1 ≤ m ∧ m ≤ 40 ∧ 1 ≤ w ∧ w ≤ 10000 ∧ 1 ≤ h ∧ h ≤ 10000)
  (fun ds d => ∃ (m : Nat) (w h : Int) (st : Bool) (rs : List Str) (bs : List Bx), ds = [stD, .int (m : Int), .int w, .int h, .bool st] ∧ d = plD rs w h bs ∧ VP rs bs ∧ Cut 40 w h st bs)
def sp_u_law_whole (K : PySem.W.Frag) : Sp := PF K fun ds d => ∃ i : Int, ds = [.int i] ∧ d = .bool true
def sp_u_law_same (K : PySem.W.Frag) : Sp := PF K fun ds d => ∃ x, ds = [x, x] ∧ plain x = true ∧ nodes x ≤ 100000 ∧ d = .bool true
def sp_u_law_name (K : PySem.W.Frag) : Sp := PF K fun ds d => ∃ z : Str, ds = [.str z] ∧ z.length ≤ 100000 ∧ d = .bool (nameB z)
def told2D (f : Option (Int × Str)) (sg nm : List Str) : D := .tuple [(match f with | none => .none | some (i, w) => .tuple [.int i, .str w]), .list (sg.map PyData.str), .list (nm.map PyData.str)]
def toldR (ls : List Str) (m : Nat) : D := match linesF (ls.drop (m + 1)) with
  | some (i, w) => told2D (some (m + 2 + (i : Nat), w)) [] []
  | none => told2D none (firstsW ((ls.drop (m + 1)).map wordsT)) (((ls.drop (m + 1)).map wordsT).map fun ws => ws.getD 1 Str.empty)
def sp_u_law_told (K : PySem.W.Frag) : Sp := PF K fun ds d => ∃ (ls : List Str) (m : Nat), ds = [.list (ls.map PyData.str), .int (m : Nat)] ∧ m < ls.length ∧ ls.length ≤ 2000 ∧ (∀ l ∈ ls, l.length ≤ 4000) ∧ d = toldR ls m
def gridR (rows sg : List Str) : D := match gridF rows sg with
  | some (i, w) => .tuple [.int (1 + (i : Nat)), .str w]
  | none => .none
def sp_u_law_grid (K : PySem.W.Frag) : Sp := PF K fun ds d => ∃ (ls sg : List Str) (m : Nat), ds = [.list (ls.map PyData.str), .int (m : Nat), .list (sg.map PyData.str)] ∧ m < ls.length ∧ ls.length ≤ 2000 ∧ (∀ l ∈ ls, l.length ≤ 4000) ∧ sg.length ≤ 2000 ∧ d = gridR (ls.take m) sg
/-- what the law finds of a sign in the first rows -/
def fndN (rows : List Str) (c : Nat) : Nat → Option (Int × Int × Int × Int × Int)
  | 0 => none
  | k + 1 =>
    let z := rows.getD k Str.empty
    if c ∈ z.cps.toList then match fndN rows c k with
      | none => some (Txt.find z (oneS c), (rows.length : Int) - 1 - (k : Nat), Txt.rfind z (oneS c) + 1, (rows.length : Int) - (k : Nat), Txt.count z (oneS c))
      | some (w, s, e, n, a) => some (min w (Txt.find z (oneS c)), (rows.length : Int) - 1 - (k : Nat), max e (Txt.rfind z (oneS c) + 1), n, a + Txt.count z (oneS c))
    else fndN rows c k
def fndD (o : Option (Int × Int × Int × Int × Int)) : Option D := o.map fun p => .tuple [.int p.1, .int p.2.1, .int p.2.2.1, .int p.2.2.2.1, .int p.2.2.2.2]
def sp_u_law_found (K : PySem.W.Frag) : Sp := PQ K (fun ds => ∃ (ls : List Str) (m : Nat) (cs : List Nat), ds = [.list (ls.map PyData.str), .int (m : Nat), .list (cs.map fun c => PyData.str (oneS c))] ∧ m < ls.length ∧ m ≤ 160 ∧ (∀ l ∈ ls.take m, l.length ≤ 160) ∧ cs.length ≤ 40 ∧ cs.Nodup)
  (fun ds d => ∃ (ls : List Str) (m : Nat) (cs : List Nat) (kvs : List (Key × D)), ds = [.list (ls.map PyData.str), .int (m : Nat), .list (cs.map fun c => PyData.str (oneS c))] ∧ d = dkD kvs ∧ ∀ c ∈ cs, getG kvs (.inr (oneS c)) = fndD (fndN (ls.take m) c m))
def sp_u_law_due (K : PySem.W.Frag) : Sp := PF K fun ds d => ∃ z : Str, ds = [.str z] ∧ TP z ∧ d = resX (readT z)
def sp_u_law_ask (K : PySem.W.Frag) : Sp := PF K fun ds d => ∃ z : Str, ds = [.str z] ∧ TP z ∧ d = .bool true
def sp_u_law_wide (K : PySem.W.Frag) : Sp := PF K fun ds d => ∃ (rs : List Str) (w h : Int) (bs : List Bx), ds = [plD rs w h bs] ∧ (160 < w ∨ 160 < h) ∧ d = .bool true
/-- a line that may be read -/
def LineP (n : Nat) (l : Str) : Prop := 10 ∉ l.cps.toList ∧ l.length ≤ n
def sp_u_law_change (K : PySem.W.Frag) : Sp := PQ K (fun ds => ∃ (n : Nat) (l sg : Str), ds = [stD, .str l, .str sg] ∧ 4 ≤ n ∧ n ≤ 1000 ∧ LineP n l ∧ LineP 40 sg)
  (fun ds d => ∃ (n : Nat) (l l2 : Str) (t : List D), ds = stD :: .str l :: t ∧ d = .str l2 ∧ 10 ∉ l2.cps.toList ∧ l2.length ≤ 2 * l.length + 4)
/-- rows of a text -/
structure Rows (n m : Nat) (ls : List Str) : Prop where
  line : ∀ l ∈ ls, LineP n l
  many : ls.length ≤ m
def sp_u_law_bend (K : PySem.W.Frag) : Sp := PQ K (fun ds => ∃ (n m : Nat) (ls : List Str) (sg : Str), ds = [stD, .list (ls.map PyData.str), .str sg] ∧ 20 ≤ n ∧ n ≤ 1000 ∧ m ≤ 1000 ∧ 1 ≤ ls.length ∧ Rows n m ls ∧ 1 ≤ sg.length ∧ LineP 40 sg)
  (fun ds d => ∃ (ls : List Str) (t : List D) (ls2 : List Str), ds = stD :: .list (ls.map PyData.str) :: t ∧ d = .list (ls2.map PyData.str) ∧ ∀ n m, 20 ≤ n → Rows n m ls → Rows (2 * n + 4) (m + 1) ls2)
def sp_u_law_fixed (K : PySem.W.Frag) : Sp := PQ K (fun ds => ∃ w : Int, ds = [.int w] ∧ (w = 160 ∨ w = 2))
  (fun _ d => ∃ lss : List (List Str), d = .list (lss.map fun ls => .list (ls.map PyData.str)) ∧ lss.length ≤ 30 ∧ ∀ ls ∈ lss, Rows 1000 1000 ls)
def sp_law (K : PySem.W.Frag) : Sp := PF K fun ds d => ∃ ns : List Int, ds = [.dict [(.none, .list (ns.map PyData.int))]] ∧ ns.length ≤ 63 ∧ d = .bool true
end K19
namespace K19
open PySem PySem.Spec PyProof.Rows L2 DL
structure Txt (K : PySem.W.Frag) (mg : Str → Option Value) : Prop where
  f_ValueError : mg "ValueError" = none
  f_abs : mg "abs" = none
  f_bool : mg "bool" = none
  f_enumerate : mg "enumerate" = none
  f_int : mg "int" = none
  f_isinstance : mg "isinstance" = none
  f_len : mg "len" = none
  f_list : mg "list" = none
  f_max : mg "max" = none
  f_min : mg "min" = none
  f_range : mg "range" = none
  f_sorted : mg "sorted" = none
  f_str : mg "str" = none
  f_tuple : mg "tuple" = none
  f_zip : mg "zip" = none
  g_PlanError : mg "PlanError" = some (.ref (He.ga K "PlanError"))
  g_DataError : mg "DataError" = some (.ref (He.ga K "DataError"))
  g_CallError : mg "CallError" = some (.ref (He.ga K "CallError"))
  g_TextError : mg "TextError" = some (.ref (He.ga K "TextError"))
  g_DeskError : mg "DeskError" = some (.ref (He.ga K "DeskError"))
  g_BadStep : mg "BadStep" = some (.ref (He.ga K "BadStep"))
  g_BadText : mg "BadText" = some (.ref (He.ga K "BadText"))
  c_NAME_MOST : ∃ t, mg "NAME_MOST" = some (.int 8 t)
  c_PICTURE_MOST : ∃ t, mg "PICTURE_MOST" = some (.int 160 t)
  c_LETTERS : ∃ t, mg "LETTERS" = some (.str "abcdefghijklmnopqrstuvwxyz" t)
  c_FIGURES : ∃ t, mg "FIGURES" = some (.str "0123456789" t)
  c_SIGNS : ∃ t, mg "SIGNS" = some (.str "abcdefghijklmnopqrstuvwxyzABCDEFGHIJKLMN" t)
  c_BAR : ∃ t, mg "BAR" = some (.str "--" t)
  n_BadStep_word : PySem.W.findIn K (.ref (He.ga K "BadStep")) "word" = some none
  n_BadText_line : PySem.W.findIn K (.ref (He.ga K "BadText")) "line" = some none
  n_BadText_word : PySem.W.findIn K (.ref (He.ga K "BadText")) "word" = some none
  x_PlanError : ExF K (He.ga K "PlanError")
  x_DataError : ExF K (He.ga K "DataError")
  x_CallError : ExF K (He.ga K "CallError")
  x_TextError : ExF K (He.ga K "TextError")
  x_DeskError : ExF K (He.ga K "DeskError")
  x_BadStep : ExF K (He.ga K "BadStep")
  x_BadText : ExF K (He.ga K "BadText")
  i_BadStep : PySem.W.findIn K (.ref (He.ga K "BadStep")) "__init__" = some (some (.ref (He.ma K (He.ga K "BadStep") "__init__"))) ∧ PySem.W.typeIn K (.ref (He.ma K (He.ga K "BadStep") "__init__")) = some (.type "function")
  i_BadText : PySem.W.findIn K (.ref (He.ga K "BadText")) "__init__" = some (some (.ref (He.ma K (He.ga K "BadText") "__init__"))) ∧ PySem.W.typeIn K (.ref (He.ma K (He.ga K "BadText") "__init__")) = some (.type "function")
  k_BadText_TextError : PySem.W.kitOne K (.ref (He.ga K "BadText")) (.ref (He.ga K "TextError")) = some true
  k_BadText_PlanError : PySem.W.kitOne K (.ref (He.ga K "BadText")) (.ref (He.ga K "PlanError")) = some true
  k_BadText_ValueError : PySem.W.kitOne K (.ref (He.ga K "BadText")) (.type "ValueError") = some true
  k_BadText_DataError : PySem.W.kitOne K (.ref (He.ga K "BadText")) (.ref (He.ga K "DataError")) = some false
  k_BadText_CallError : PySem.W.kitOne K (.ref (He.ga K "BadText")) (.ref (He.ga K "CallError")) = some false
  k_BadText_DeskError : PySem.W.kitOne K (.ref (He.ga K "BadText")) (.ref (He.ga K "DeskError")) = some false
  e_BadText_BadText : PySem.W.exmOne K (.ref (He.ga K "BadText")) (.ref (He.ga K "BadText")) = some true
  e_BadStep_BadStep : PySem.W.exmOne K (.ref (He.ga K "BadStep")) (.ref (He.ga K "BadStep")) = some true
section
variable {P : Program} {w : World} {K : PySem.W.Frag} {mg : Str → Option Value} {base : Heap}
def t_name_fault (K : PySem.W.Frag) : TS := (tSeq (tIfS (tOr (tNot (tTr K (tCB (rIsi K) (tCons (tVar 0) (tCons (tC (.ty "str")) tNil))))) (tNot (tTest (tChain rLeU rLeU (tC (.int 1)) (tCB (rLen K) (tCons (tVar 0) tNil)) (tC (.int 8)))))) (tRet (tUn (rU fun i => .int (-i)) (tC (.int 1)))) tNext)
 (tSeq (tFor (iEnumU K (tCons (tVar 0) tNil)) (gTup K 2 (gCons (gName 1) (gCons (gName 2) gNil))) (tIfS (tAnd (tTest (tOp (rNinU K) (tVar 2) (tC (.str "abcdefghijklmnopqrstuvwxyz")))) (tOr (tTest (tOp (rEqU K) (tVar 1) (tC (.int 0)))) (tTest (tOp (rNinU K) (tVar 2) (tC (.str "0123456789")))))) (tRet (tVar 1)) tNext))
 (tRet (tC .non))))
theorem dv_name_fault (T : Txt K mg)  {f : Addr} (cdv : Value) (A : Around) (outer : List PySem.Env) (s : Shared) (H : Hp) (E : XK) (hr : Room 0 (A.deeper (envOfC "name_fault" (defScope s_name_fault) s.heap.objs.size f cdv))) :
    PSs (cxOf CX0 P w K mg base N_name_fault "name_fault" (defScope s_name_fault) f cdv A outer s H E) (defBody s_name_fault) (t_name_fault K) := by
  have sc := sc_name_fault
  have pa : PassesOwn (model P w) (cxOf CX0 P w K mg base N_name_fault "name_fault" (defScope s_name_fault) f cdv A outer s H E).A (cxOf CX0 P w K mg base N_name_fault "name_fault" (defScope s_name_fault) f cdv A outer s H E).env (cxOf CX0 P w K mg base N_name_fault "name_fault" (defScope s_name_fault) f cdv A outer s H E).xe := passes_of rfl
  exact (pss_cons (ps_if (PW.pt (pw_or (pt_not (pt_tr (pe_callB (r := rIsi _) call_isi rfl T.f_isinstance b_isinstance (pa_cons (pv 0) (pa_cons (pe_bltn (v := .ty "str") rfl T.f_str b_str rfl) pa_nil))))) (pw_or1 (pt_not (pt_chain op_leU op_leU pe_int (pe_callB (r := rLen _) call_len rfl T.f_len b_len (pa_cons (pv 0) pa_nil)) (pe_gint T.c_NAME_MOST)))))) (pss_one (ps_ret (pe_un un_neg pe_int))) pss_nil)
 (pss_cons (ps_for pa rfl (pi_enumU rfl T.f_enumerate (pa_cons (pv 0) pa_nil)) (pg_tup rfl (pgs_cons (pg_name (i := 1) sc.nd rfl (by first | exact Or.inl rfl | exact Or.inr rfl)) (pgs_cons (pg_name (i := 2) sc.nd rfl (by first | exact Or.inl rfl | exact Or.inr rfl)) pgs_nil))) (pss_one (ps_if (PW.pt (pw_and (pt_cmpR op_ninU (pv 2) (pe_gstr T.c_LETTERS) rfl) (pw_and1 (PW.pt (pw_or (pt_cmpR (op_eqU hr.units) (pv 1) pe_int (nomark _)) (pw_or1 (pt_cmpR op_ninU (pv 2) (pe_gstr T.c_FIGURES) rfl))))))) (pss_one (ps_ret (pv 1))) pss_nil)))
 (pss_one (ps_ret pe_non))))
def t_is_name (K : PySem.W.Frag) : TS := (tRet (tIsN (tCall (sp_name_fault K) [] E0 (tCons (tVar 0) tNil))))
theorem dv_is_name (T : Txt K mg) (O_name_fault : Okd P w K mg base CX0 1 "name_fault" ["thing"] (sp_name_fault K)) {f : Addr} (cdv : Value) (A : Around) (outer : List PySem.Env) (s : Shared) (H : Hp) (E : XK) (hr : Room 1 (A.deeper (envOfC "is_name" (defScope s_is_name) s.heap.objs.size f cdv))) :
    PSs (cxOf CX0 P w K mg base N_is_name "is_name" (defScope s_is_name) f cdv A outer s H E) (defBody s_is_name) (t_is_name K) := by
  have sc := sc_is_name
  exact (pss_one (ps_ret (pe_cmp (pc_isN (pe_callD O_name_fault hr (by decide) (pa_cons (pv 0) pa_nil))) rfl)))
def t_room_signs (K : PySem.W.Frag) : TS := (tRet (tSl (rSlU K) (tC (.str "abcdefghijklmnopqrstuvwxyzABCDEFGHIJKLMN")) tNoPart (tPart (tCB (rLen K) (tCons (tVar 0) tNil)))))
theorem dv_room_signs (T : Txt K mg)  {f : Addr} (cdv : Value) (A : Around) (outer : List PySem.Env) (s : Shared) (H : Hp) (E : XK) (hr : Room 0 (A.deeper (envOfC "room_signs" (defScope s_room_signs) s.heap.objs.size f cdv))) :
    PSs (cxOf CX0 P w K mg base N_room_signs "room_signs" (defScope s_room_signs) f cdv A outer s H E) (defBody s_room_signs) (t_room_signs K) := by
  have sc := sc_room_signs
  exact (pss_one (ps_ret (pe_slice sl_U (pe_gstr T.c_SIGNS) po_none (po_some (pe_callB (r := rLen _) call_len rfl T.f_len b_len (pa_cons (pv 0) pa_nil))))))
def t_picture_line (K : PySem.W.Frag) : TS := (tSeq (tAsg (tLst tNil) (gName 3))
 (tSeq (tFor (iZipTS K (tCons (tVar 0) (tCons (tVar 1) tNil))) (gTup K 2 (gCons (gName 4) (gCons (gName 5) gNil))) (tIfS (tAnd (tTest (tOp rLeU (tOp (rIx K) (tVar 4) (tC (.int 1))) (tVar 2))) (tTest (tOp rLtU (tVar 2) (tOp (rIx K) (tVar 4) (tC (.int 3)))))) (tDrop (tBM K "list" rAppend (tVar 3) (tCons (tTup (tCons (tOp (rIx K) (tVar 4) (tC (.int 0))) (tCons (tOp rMulU (tVar 5) (tOp rSubU (tOp (rIx K) (tVar 4) (tC (.int 2))) (tOp (rIx K) (tVar 4) (tC (.int 0))))) tNil))) tNil))) tNext))
 (tRet (tM1 (rJoinU K) (tC (.str "")) (tLc (iSeqU K (tCB (rSortKT K) (tCons (tVar 3) tNil))) (gName 6) tYes (tOp (rIx K) (tVar 6) (tC (.int 1))) [6])))))
theorem dv_picture_line (T : Txt K mg)  {f : Addr} (cdv : Value) (A : Around) (outer : List PySem.Env) (s : Shared) (H : Hp) (E : XK) (hr : Room 0 (A.deeper (envOfC "picture_line" (defScope s_picture_line) s.heap.objs.size f cdv))) :
    PSs (cxOf CX0 P w K mg base N_picture_line "picture_line" (defScope s_picture_line) f cdv A outer s H E) (defBody s_picture_line) (t_picture_line K) := by
  have sc := sc_picture_line
  have pa : PassesOwn (model P w) (cxOf CX0 P w K mg base N_picture_line "picture_line" (defScope s_picture_line) f cdv A outer s H E).A (cxOf CX0 P w K mg base N_picture_line "picture_line" (defScope s_picture_line) f cdv A outer s H E).env (cxOf CX0 P w K mg base N_picture_line "picture_line" (defScope s_picture_line) f cdv A outer s H E).xe := passes_of rfl
  exact (pss_cons (ps_set (i := 3) sc.nd rfl (by first | exact Or.inl rfl | exact Or.inr rfl) (pe_lst pa_nil))
 (pss_cons (ps_for pa rfl (pi_zipTS rfl T.f_zip (pa_cons (pv 0) (pa_cons (pv 1) pa_nil))) (pg_tup rfl (pgs_cons (pg_name (i := 4) sc.nd rfl (by first | exact Or.inl rfl | exact Or.inr rfl)) (pgs_cons (pg_name (i := 5) sc.nd rfl (by first | exact Or.inl rfl | exact Or.inr rfl)) pgs_nil))) (pss_one (ps_if (PW.pt (pw_and (pt_cmpR op_leU (pe_ix ix_seq (pv 4) pe_int (fun _ _ => rfl)) (pv 2) (nomark _)) (pw_and1 (pt_cmpR op_ltU (pv 2) (pe_ix ix_seq (pv 4) pe_int (fun _ _ => rfl)) (nomark _))))) (pss_one (ps_expr (pe_bm PySem.F.plainAttrs_list PySem.F.slot_list_append PySem.F.type_list_append mt_append (pv 3) (pa_cons (pe_tup (pa_cons (pe_ix ix_seq (pv 4) pe_int (fun _ _ => rfl)) (pa_cons (pe_op op_mulU (pv 5) (pe_op op_sub (pe_ix ix_seq (pv 4) pe_int (fun _ _ => rfl)) (pe_ix ix_seq (pv 4) pe_int (fun _ _ => rfl)))) pa_nil))) pa_nil)))) pss_nil)))
 (pss_one (ps_ret (pe_joinU pe_str (pe_lc (own := [("piece", 6)]) (g := (gName 6)) (tt := tYes) rfl sc.nd (pi_seqU (pe_callB (r := rSortKT _) call_sortKT rfl T.f_sorted b_sorted (pa_cons (pv 3) pa_nil))) (blkOk_by (own := [("piece", 6)]) (N := N_picture_line) (sc := defScope s_picture_line) (by decide +kernel)) (fun _ _ _ _ _ => (pg_name (i := 6) sc.nd rfl (by first | exact Or.inl rfl | exact Or.inr rfl))) (fun _ _ _ _ _ => pts_nil) (fun _ _ _ _ _ => (pe_ix ix_seq (pv 6) pe_int (fun _ _ => rfl)))))))))
def t_picture_of (K : PySem.W.Frag) (Ex : XK) : TS := (tSeq (tAsg (tVar 0) (gTup K 4 (gCons (gName 1) (gCons (gName 2) (gCons (gName 3) (gCons (gName 4) gNil))))))
 (tSeq (tIfS (tOr (tTest (tOp rGtU (tVar 2) (tC (.int 160)))) (tTest (tOp rGtU (tVar 3) (tC (.int 160))))) (tRaiseO K (He.ga K "BadStep") ["word"] Ex (tCons (tC (.str "wide")) tNil)) tNext)
 (tSeq (tAsg (tCall (sp_room_signs K) [] E0 (tCons (tVar 1) tNil)) (gName 5))
 (tSeq (tAsg (tLc (iRng1 (tCons (tVar 3) tNil)) (gName 7) tYes (tCall (sp_picture_line K) [] E0 (tCons (tVar 4) (tCons (tVar 5) (tCons (tOp rSubU (tOp rSubU (tVar 3) (tC (.int 1))) (tVar 7)) tNil)))) [7]) (gName 6))
 (tSeq (tDrop (tBM K "list" rAppend (tVar 6) (tCons (tC (.str "--")) tNil)))
 (tSeq (tFor (iZipST K (tCons (tVar 5) (tCons (tVar 1) tNil))) (gTup K 2 (gCons (gName 8) (gCons (gName 9) gNil))) (tDrop (tBM K "list" rAppend (tVar 6) (tCons (tFs [(tFmt (tVar 8)), (tC (.str " ")), (tFmt (tVar 9))]) tNil))))
 (tRet (tM1 (rJoinU K) (tC (.str "
")) (tVar 6)))))))))
theorem dv_picture_of (T : Txt K mg) (O_room_signs : Okd P w K mg base CX0 1 "room_signs" ["rooms"] (sp_room_signs K)) (O_picture_line : Okd P w K mg base CX0 1 "picture_line" ["boxes", "signs", "south"] (sp_picture_line K)) (X_BadStep : ExOk P w K mg base 1 "BadStep" ["word"]) {f : Addr} (cdv : Value) (A : Around) (outer : List PySem.Env) (s : Shared) (H : Hp) (E : XK) (hr : Room 2 (A.deeper (envOfC "picture_of" (defScope s_picture_of) s.heap.objs.size f cdv))) :
    PSs (cxOf (L2N.CX P w) P w K mg base N_picture_of "picture_of" (defScope s_picture_of) f cdv A outer s H E) (defBody s_picture_of) (t_picture_of K E) := by
  have sc := sc_picture_of
  have pa : PassesOwn (model P w) (cxOf (L2N.CX P w) P w K mg base N_picture_of "picture_of" (defScope s_picture_of) f cdv A outer s H E).A (cxOf (L2N.CX P w) P w K mg base N_picture_of "picture_of" (defScope s_picture_of) f cdv A outer s H E).env (cxOf (L2N.CX P w) P w K mg base N_picture_of "picture_of" (defScope s_picture_of) f cdv A outer s H E).xe := passes_of rfl
  have tk : L2N.Takes (cxOf (L2N.CX P w) P w K mg base N_picture_of "picture_of" (defScope s_picture_of) f cdv A outer s H E) (fun cls d _ H => E cls d H) := L2N.takes_of rfl rfl rfl rfl
  exact (pss_cons (ps_asg (pv 0) (pg_tup rfl (pgs_cons (pg_name (i := 1) sc.nd rfl (by first | exact Or.inl rfl | exact Or.inr rfl)) (pgs_cons (pg_name (i := 2) sc.nd rfl (by first | exact Or.inl rfl | exact Or.inr rfl)) (pgs_cons (pg_name (i := 3) sc.nd rfl (by first | exact Or.inl rfl | exact Or.inr rfl)) (pgs_cons (pg_name (i := 4) sc.nd rfl (by first | exact Or.inl rfl | exact Or.inr rfl)) pgs_nil))))))
 (pss_cons (ps_if (PW.pt (pw_or (pt_cmpR op_gtU (pv 2) (pe_gint T.c_PICTURE_MOST) (nomark _)) (pw_or1 (pt_cmpR op_gtU (pv 3) (pe_gint T.c_PICTURE_MOST) (nomark _))))) (pss_one (ps_raiseON X_BadStep hr (by decide) rfl tk (pa_cons pe_str pa_nil))) pss_nil)
 (pss_cons (ps_set (i := 5) sc.nd rfl (by first | exact Or.inl rfl | exact Or.inr rfl) (pe_callD O_room_signs hr (by decide) (pa_cons (pv 1) pa_nil)))
 (pss_cons (ps_setLc (i := 6) (own := [("place", 7)]) (g := (gName 7)) (tt := tYes) rfl sc.nd rfl rfl (sw_true rfl rfl rfl (by decide +kernel)) (pi_range1 rfl T.f_range (pa_cons (pv 3) pa_nil)) (blkOk_by (own := [("place", 7)]) (N := N_picture_of) (sc := defScope s_picture_of) (by decide +kernel)) (fun _ _ _ _ _ => (pg_name (i := 7) sc.nd rfl (by first | exact Or.inl rfl | exact Or.inr rfl))) (fun _ _ _ _ _ => pts_nil) (fun _ _ _ _ _ => (pe_callD O_picture_line hr (by decide) (pa_cons (pv 4) (pa_cons (pv 5) (pa_cons (pe_op op_sub (pe_op op_sub (pv 3) pe_int) (pv 7)) pa_nil))))))
 (pss_cons (ps_expr (pe_bm PySem.F.plainAttrs_list PySem.F.slot_list_append PySem.F.type_list_append mt_append (pv 6) (pa_cons (pe_gstr T.c_BAR) pa_nil)))
 (pss_cons (ps_for pa rfl (pi_zipST rfl T.f_zip (pa_cons (pv 5) (pa_cons (pv 1) pa_nil))) (pg_tup rfl (pgs_cons (pg_name (i := 8) sc.nd rfl (by first | exact Or.inl rfl | exact Or.inr rfl)) (pgs_cons (pg_name (i := 9) sc.nd rfl (by first | exact Or.inl rfl | exact Or.inr rfl)) pgs_nil))) (pss_one (ps_expr (pe_bm PySem.F.plainAttrs_list PySem.F.slot_list_append PySem.F.type_list_append mt_append (pv 6) (pa_cons (pe_joined (PJ.cons (pe_fmt (pv 8)) (PJ.cons pe_str (PJ.cons (pe_fmt (pv 9)) PJ.nil)))) pa_nil)))))
 (pss_one (ps_ret (pe_joinU pe_str (pv 6))))))))))
def t_text_lines (K : PySem.W.Frag) : TS := (tRet (tIf (tTest (tOp (rNeU K) (tVar 0) (tC (.str "")))) (tM1 rSplitU (tVar 0) (tC (.str "
"))) (tLst tNil)))
theorem dv_text_lines (T : Txt K mg)  {f : Addr} (cdv : Value) (A : Around) (outer : List PySem.Env) (s : Shared) (H : Hp) (E : XK) (hr : Room 0 (A.deeper (envOfC "text_lines" (defScope s_text_lines) s.heap.objs.size f cdv))) :
    PSs (cxOf CX0 P w K mg base N_text_lines "text_lines" (defScope s_text_lines) f cdv A outer s H E) (defBody s_text_lines) (t_text_lines K) := by
  have sc := sc_text_lines
  exact (pss_one (ps_ret (pe_ifExp (pt_cmpR (op_neU hr.units) (pv 0) pe_str (nomark _)) (pe_splitU (pv 0) pe_str) (pe_lst pa_nil))))
def t_words_of (K : PySem.W.Frag) : TS := (tRet (tLc (iSeqU K (tM1 rSplitU (tVar 0) (tC (.str " ")))) (gName 1) (tTest (tOp (rNeU K) (tVar 1) (tC (.str "")))) (tVar 1) [1]))
theorem dv_words_of (T : Txt K mg)  {f : Addr} (cdv : Value) (A : Around) (outer : List PySem.Env) (s : Shared) (H : Hp) (E : XK) (hr : Room 0 (A.deeper (envOfC "words_of" (defScope s_words_of) s.heap.objs.size f cdv))) :
    PSs (cxOf CX0 P w K mg base N_words_of "words_of" (defScope s_words_of) f cdv A outer s H E) (defBody s_words_of) (t_words_of K) := by
  have sc := sc_words_of
  exact (pss_one (ps_ret (pe_lc (own := [("word", 1)]) (g := (gName 1)) (tt := (tTest (tOp (rNeU K) (tVar 1) (tC (.str ""))))) rfl sc.nd (pi_seqU (pe_splitU (pv 0) pe_str)) (blkOk_by (own := [("word", 1)]) (N := N_words_of) (sc := defScope s_words_of) (by decide +kernel)) (fun _ _ _ _ _ => (pg_name (i := 1) sc.nd rfl (by first | exact Or.inl rfl | exact Or.inr rfl))) (fun _ _ _ _ _ => (pts_one (pt_cmpR (op_neU hr.units) (pv 1) pe_str (nomark _)))) (fun _ _ _ _ _ => (pv 1)))))
def t_sign_words_fault (K : PySem.W.Frag) : TS := (tSeq (tIfS (tTest (tOp (rNeU K) (tCB (rLen K) (tCons (tVar 0) tNil)) (tC (.int 2)))) (tRet (tC (.str "words"))) tNext)
 (tSeq (tAsg (tVar 0) (gUnl K 2 (gCons (gName 3) (gCons (gName 4) gNil))))
 (tSeq (tIfS (tOr (tTest (tOp (rNeU K) (tCB (rLen K) (tCons (tVar 3) tNil)) (tC (.int 1)))) (tTest (tOp (rNinU K) (tVar 3) (tC (.str "abcdefghijklmnopqrstuvwxyzABCDEFGHIJKLMN"))))) (tRet (tC (.str "sign"))) tNext)
 (tSeq (tIfS (tNot (tTr K (tCall (sp_is_name K) [] E0 (tCons (tVar 4) tNil)))) (tRet (tC (.str "name"))) tNext)
 (tSeq (tIfS (tB (tDIn (tVar 3) (tVar 1))) (tRet (tC (.str "twice"))) tNext)
 (tRet (tIf (tTest (tOp rLeU (tVar 4) (tVar 2))) (tC (.str "order")) (tC .non))))))))
theorem dv_sign_words_fault (T : Txt K mg) (O_is_name : Okd P w K mg base CX0 2 "is_name" ["thing"] (sp_is_name K)) {f : Addr} (cdv : Value) (A : Around) (outer : List PySem.Env) (s : Shared) (H : Hp) (E : XK) (hr : Room 2 (A.deeper (envOfC "sign_words_fault" (defScope s_sign_words_fault) s.heap.objs.size f cdv))) :
    PSs (cxOf CX0 P w K mg base N_sign_words_fault "sign_words_fault" (defScope s_sign_words_fault) f cdv A outer s H E) (defBody s_sign_words_fault) (t_sign_words_fault K) := by
  have sc := sc_sign_words_fault
  exact (pss_cons (ps_if (pt_cmpR (op_neU hr.units) (pe_callB (r := rLen _) call_len rfl T.f_len b_len (pa_cons (pv 0) pa_nil)) pe_int (nomark _)) (pss_one (ps_ret pe_str)) pss_nil)
 (pss_cons (ps_asg (pv 0) (pg_unl rfl (pgs_cons (pg_name (i := 3) sc.nd rfl (by first | exact Or.inl rfl | exact Or.inr rfl)) (pgs_cons (pg_name (i := 4) sc.nd rfl (by first | exact Or.inl rfl | exact Or.inr rfl)) pgs_nil))))
 (pss_cons (ps_if (PW.pt (pw_or (pt_cmpR (op_neU hr.units) (pe_callB (r := rLen _) call_len rfl T.f_len b_len (pa_cons (pv 3) pa_nil)) pe_int (nomark _)) (pw_or1 (pt_cmpR op_ninU (pv 3) (pe_gstr T.c_SIGNS) rfl)))) (pss_one (ps_ret pe_str)) pss_nil)
 (pss_cons (ps_if (pt_not (pt_tr (pe_callD O_is_name hr (by decide) (pa_cons (pv 4) pa_nil)))) (pss_one (ps_ret pe_str)) pss_nil)
 (pss_cons (ps_if (pt_cmp (pc_din (hu_of hr) (pv 3) (pv 1)) rfl) (pss_one (ps_ret pe_str)) pss_nil)
 (pss_one (ps_ret (pe_ifExp (pt_cmpR op_leU (pv 4) (pv 2) (nomark _)) pe_str pe_non))))))))
def t_sign_lines_fault (K : PySem.W.Frag) : TS := (tSeq (tIfS (tTest (tOp (rEqU K) (tCB (rLen K) (tCons (tVar 0) tNil)) (tC (.int 0)))) (tRet (tTup (tCons (tC (.int 0)) (tCons (tC (.str "lacks")) tNil)))) tNext)
 (tSeq (tAsg tDNewK (gName 1))
 (tSeq (tAsg (tC (.str "")) (gName 2))
 (tSeq (tFor (iEnumU K (tCons (tVar 0) tNil)) (gTup K 2 (gCons (gName 3) (gCons (gName 4) gNil))) (tSeq (tAsg (tCall (sp_words_of K) [] E0 (tCons (tVar 4) tNil)) (gName 5))
 (tSeq (tAsg (tCall (sp_sign_words_fault K) [] E0 (tCons (tVar 5) (tCons (tVar 1) (tCons (tVar 2) tNil)))) (gName 6))
 (tSeq (tIfS (tB (tNotN (tVar 6))) (tRet (tTup (tCons (tVar 3) (tCons (tVar 6) tNil)))) tNext)
 (tSeq (sDPut (tVar 1) (tOp (rIx K) (tVar 5) (tC (.int 0))) (tC (.bl true)))
 (tAsg (tOp (rIx K) (tVar 5) (tC (.int 1))) (gName 2)))))))
 (tRet (tC .non))))))
theorem dv_sign_lines_fault (T : Txt K mg) (O_words_of : Okd P w K mg base CX0 1 "words_of" ["line"] (sp_words_of K)) (O_sign_words_fault : Okd P w K mg base CX0 3 "sign_words_fault" ["words", "known", "earlier"] (sp_sign_words_fault K)) {f : Addr} (cdv : Value) (A : Around) (outer : List PySem.Env) (s : Shared) (H : Hp) (E : XK) (hr : Room 3 (A.deeper (envOfC "sign_lines_fault" (defScope s_sign_lines_fault) s.heap.objs.size f cdv))) :
    PSs (cxOf CX0 P w K mg base N_sign_lines_fault "sign_lines_fault" (defScope s_sign_lines_fault) f cdv A outer s H E) (defBody s_sign_lines_fault) (t_sign_lines_fault K) := by
  have sc := sc_sign_lines_fault
  have pa : PassesOwn (model P w) (cxOf CX0 P w K mg base N_sign_lines_fault "sign_lines_fault" (defScope s_sign_lines_fault) f cdv A outer s H E).A (cxOf CX0 P w K mg base N_sign_lines_fault "sign_lines_fault" (defScope s_sign_lines_fault) f cdv A outer s H E).env (cxOf CX0 P w K mg base N_sign_lines_fault "sign_lines_fault" (defScope s_sign_lines_fault) f cdv A outer s H E).xe := passes_of rfl
  exact (pss_cons (ps_if (pt_cmpR (op_eqU hr.units) (pe_callB (r := rLen _) call_len rfl T.f_len b_len (pa_cons (pv 0) pa_nil)) pe_int (nomark _)) (pss_one (ps_ret (pe_tup (pa_cons pe_int (pa_cons pe_str pa_nil))))) pss_nil)
 (pss_cons (ps_set (i := 1) sc.nd rfl (by first | exact Or.inl rfl | exact Or.inr rfl) pe_dnewK)
 (pss_cons (ps_set (i := 2) sc.nd rfl (by first | exact Or.inl rfl | exact Or.inr rfl) pe_str)
 (pss_cons (ps_for pa rfl (pi_enumU rfl T.f_enumerate (pa_cons (pv 0) pa_nil)) (pg_tup rfl (pgs_cons (pg_name (i := 3) sc.nd rfl (by first | exact Or.inl rfl | exact Or.inr rfl)) (pgs_cons (pg_name (i := 4) sc.nd rfl (by first | exact Or.inl rfl | exact Or.inr rfl)) pgs_nil))) (pss_cons (ps_set (i := 5) sc.nd rfl (by first | exact Or.inl rfl | exact Or.inr rfl) (pe_callD O_words_of hr (by decide) (pa_cons (pv 4) pa_nil)))
 (pss_cons (ps_set (i := 6) sc.nd rfl (by first | exact Or.inl rfl | exact Or.inr rfl) (pe_callD O_sign_words_fault hr (by decide) (pa_cons (pv 5) (pa_cons (pv 1) (pa_cons (pv 2) pa_nil)))))
 (pss_cons (ps_if (pt_cmp (pc_notN (pv 6))) (pss_one (ps_ret (pe_tup (pa_cons (pv 3) (pa_cons (pv 6) pa_nil))))) pss_nil)
 (pss_cons (ps_dput (hu_of hr) (pv 1) (pe_ix ix_seq (pv 5) pe_int (fun _ _ => rfl)) pe_bl rfl)
 (pss_one (ps_set (i := 2) sc.nd rfl (by first | exact Or.inl rfl | exact Or.inr rfl) (pe_ix ix_seq (pv 5) pe_int (fun _ _ => rfl)))))))))
 (pss_one (ps_ret pe_non))))))
def t_shown_fault (K : PySem.W.Frag) : TS := (tSeq (tIfS (tTest (tOp (rEqU K) (tCB (rLen K) (tCons (tVar 0) tNil)) (tC (.int 0)))) (tRet (tTup (tCons (tC (.int 0)) (tCons (tC (.str "width")) tNil)))) tNext)
 (tSeq (tFor (iEnumU K (tCons (tVar 0) tNil)) (gTup K 2 (gCons (gName 2) (gCons (gName 3) gNil))) (tSeq (tIfS (tOr (tTest (tOp (rEqU K) (tVar 3) (tC (.str "")))) (tTest (tOp (rNeU K) (tCB (rLen K) (tCons (tVar 3) tNil)) (tCB (rLen K) (tCons (tOp (rIx K) (tVar 0) (tC (.int 0))) tNil))))) (tRet (tTup (tCons (tVar 2) (tCons (tC (.str "width")) tNil)))) tNext)
 (tSeq (tIfS (tOr (tTest (tOp rGtU (tCB (rLen K) (tCons (tVar 3) tNil)) (tC (.int 160)))) (tTest (tOp rGeU (tVar 2) (tC (.int 160))))) (tRet (tTup (tCons (tVar 2) (tCons (tC (.str "limit")) tNil)))) tNext)
 (tFor (iSeqU K (tVar 3)) (gName 4) (tIfS (tB (tDNotIn (tVar 4) (tVar 1))) (tRet (tTup (tCons (tVar 2) (tCons (tC (.str "unknown")) tNil)))) tNext)))))
 (tRet (tC .non))))
theorem dv_shown_fault (T : Txt K mg)  {f : Addr} (cdv : Value) (A : Around) (outer : List PySem.Env) (s : Shared) (H : Hp) (E : XK) (hr : Room 0 (A.deeper (envOfC "shown_fault" (defScope s_shown_fault) s.heap.objs.size f cdv))) :
    PSs (cxOf CX0 P w K mg base N_shown_fault "shown_fault" (defScope s_shown_fault) f cdv A outer s H E) (defBody s_shown_fault) (t_shown_fault K) := by
  have sc := sc_shown_fault
  have pa : PassesOwn (model P w) (cxOf CX0 P w K mg base N_shown_fault "shown_fault" (defScope s_shown_fault) f cdv A outer s H E).A (cxOf CX0 P w K mg base N_shown_fault "shown_fault" (defScope s_shown_fault) f cdv A outer s H E).env (cxOf CX0 P w K mg base N_shown_fault "shown_fault" (defScope s_shown_fault) f cdv A outer s H E).xe := passes_of rfl
  exact (pss_cons (ps_if (pt_cmpR (op_eqU hr.units) (pe_callB (r := rLen _) call_len rfl T.f_len b_len (pa_cons (pv 0) pa_nil)) pe_int (nomark _)) (pss_one (ps_ret (pe_tup (pa_cons pe_int (pa_cons pe_str pa_nil))))) pss_nil)
 (pss_cons (ps_for pa rfl (pi_enumU rfl T.f_enumerate (pa_cons (pv 0) pa_nil)) (pg_tup rfl (pgs_cons (pg_name (i := 2) sc.nd rfl (by first | exact Or.inl rfl | exact Or.inr rfl)) (pgs_cons (pg_name (i := 3) sc.nd rfl (by first | exact Or.inl rfl | exact Or.inr rfl)) pgs_nil))) (pss_cons (ps_if (PW.pt (pw_or (pt_cmpR (op_eqU hr.units) (pv 3) pe_str (nomark _)) (pw_or1 (pt_cmpR (op_neU hr.units) (pe_callB (r := rLen _) call_len rfl T.f_len b_len (pa_cons (pv 3) pa_nil)) (pe_callB (r := rLen _) call_len rfl T.f_len b_len (pa_cons (pe_ix ix_seq (pv 0) pe_int (fun _ _ => rfl)) pa_nil)) (nomark _))))) (pss_one (ps_ret (pe_tup (pa_cons (pv 2) (pa_cons pe_str pa_nil))))) pss_nil)
 (pss_cons (ps_if (PW.pt (pw_or (pt_cmpR op_gtU (pe_callB (r := rLen _) call_len rfl T.f_len b_len (pa_cons (pv 3) pa_nil)) (pe_gint T.c_PICTURE_MOST) (nomark _)) (pw_or1 (pt_cmpR op_geU (pv 2) (pe_gint T.c_PICTURE_MOST) (nomark _))))) (pss_one (ps_ret (pe_tup (pa_cons (pv 2) (pa_cons pe_str pa_nil))))) pss_nil)
 (pss_one (ps_for pa rfl (pi_seqU (pv 3)) (pg_name (i := 4) sc.nd rfl (by first | exact Or.inl rfl | exact Or.inr rfl)) (pss_one (ps_if (pt_cmp (pc_dnotin (hu_of hr) (pv 4) (pv 1)) rfl) (pss_one (ps_ret (pe_tup (pa_cons (pv 2) (pa_cons pe_str pa_nil))))) pss_nil)))))))
 (pss_one (ps_ret pe_non))))
def t_sign_rows (K : PySem.W.Frag) : TS := (tRet (tLc (iEnumU K (tCons (tVar 0) tNil)) (gTup K 2 (gCons (gName 2) (gCons (gName 3) gNil))) (tTest (tOp (rInU K) (tVar 1) (tVar 3))) (tVar 2) [2, 3]))
theorem dv_sign_rows (T : Txt K mg)  {f : Addr} (cdv : Value) (A : Around) (outer : List PySem.Env) (s : Shared) (H : Hp) (E : XK) (hr : Room 0 (A.deeper (envOfC "sign_rows" (defScope s_sign_rows) s.heap.objs.size f cdv))) :
    PSs (cxOf CX0 P w K mg base N_sign_rows "sign_rows" (defScope s_sign_rows) f cdv A outer s H E) (defBody s_sign_rows) (t_sign_rows K) := by
  have sc := sc_sign_rows
  exact (pss_one (ps_ret (pe_lc (own := [("place", 2), ("line", 3)]) (g := (gTup K 2 (gCons (gName 2) (gCons (gName 3) gNil)))) (tt := (tTest (tOp (rInU K) (tVar 1) (tVar 3)))) rfl sc.nd (pi_enumU rfl T.f_enumerate (pa_cons (pv 0) pa_nil)) (blkOk_by (own := [("place", 2), ("line", 3)]) (N := N_sign_rows) (sc := defScope s_sign_rows) (by decide +kernel)) (fun _ _ _ _ _ => (pg_tup rfl (pgs_cons (pg_name (i := 2) sc.nd rfl (by first | exact Or.inl rfl | exact Or.inr rfl)) (pgs_cons (pg_name (i := 3) sc.nd rfl (by first | exact Or.inl rfl | exact Or.inr rfl)) pgs_nil)))) (fun _ _ _ _ _ => (pts_one (pt_cmpR op_inU (pv 1) (pv 3) rfl))) (fun _ _ _ _ _ => (pv 2)))))
def t_sign_fault (K : PySem.W.Frag) : TS := (tSeq (tAsg (tCall (sp_sign_rows K) [] E0 (tCons (tVar 0) (tCons (tVar 1) tNil))) (gName 2))
 (tSeq (tIfS (tTest (tOp (rEqU K) (tCB (rLen K) (tCons (tVar 2) tNil)) (tC (.int 0)))) (tRet (tC (.str "lacks"))) tNext)
 (tSeq (tAsg (tOp (rIx K) (tVar 0) (tOp (rIx K) (tVar 2) (tC (.int 0)))) (gName 3))
 (tSeq (tAsg (tM1 rFindU (tVar 3) (tVar 1)) (gName 4))
 (tSeq (tAsg (tM1 rCountU (tVar 3) (tVar 1)) (gName 5))
 (tSeq (tIfS (tTest (tOp (rNeU K) (tOp (rAddU K) (tOp rSubU (tOp (rIx K) (tVar 2) (tUn (rU fun i => .int (-i)) (tC (.int 1)))) (tOp (rIx K) (tVar 2) (tC (.int 0)))) (tC (.int 1))) (tCB (rLen K) (tCons (tVar 2) tNil)))) (tRet (tC (.str "box"))) tNext)
 (tSeq (tFor (iSeqU K (tVar 2)) (gName 6) (tSeq (tAsg (tOp (rIx K) (tVar 0) (tVar 6)) (gName 7))
 (tIfS (tOr (tTest (tOp (rNeU K) (tM1 rCountU (tVar 7) (tVar 1)) (tVar 5))) (tTest (tOp (rNeU K) (tSl (rSlU K) (tVar 7) (tPart (tVar 4)) (tPart (tOp (rAddU K) (tVar 4) (tVar 5)))) (tOp rMulU (tVar 1) (tVar 5))))) (tRet (tC (.str "box"))) tNext)))
 (tRet (tC .non)))))))))
theorem dv_sign_fault (T : Txt K mg) (O_sign_rows : Okd P w K mg base CX0 1 "sign_rows" ["shown", "sign"] (sp_sign_rows K)) {f : Addr} (cdv : Value) (A : Around) (outer : List PySem.Env) (s : Shared) (H : Hp) (E : XK) (hr : Room 1 (A.deeper (envOfC "sign_fault" (defScope s_sign_fault) s.heap.objs.size f cdv))) :
    PSs (cxOf CX0 P w K mg base N_sign_fault "sign_fault" (defScope s_sign_fault) f cdv A outer s H E) (defBody s_sign_fault) (t_sign_fault K) := by
  have sc := sc_sign_fault
  have pa : PassesOwn (model P w) (cxOf CX0 P w K mg base N_sign_fault "sign_fault" (defScope s_sign_fault) f cdv A outer s H E).A (cxOf CX0 P w K mg base N_sign_fault "sign_fault" (defScope s_sign_fault) f cdv A outer s H E).env (cxOf CX0 P w K mg base N_sign_fault "sign_fault" (defScope s_sign_fault) f cdv A outer s H E).xe := passes_of rfl
  exact (pss_cons (ps_set (i := 2) sc.nd rfl (by first | exact Or.inl rfl | exact Or.inr rfl) (pe_callD O_sign_rows hr (by decide) (pa_cons (pv 0) (pa_cons (pv 1) pa_nil))))
 (pss_cons (ps_if (pt_cmpR (op_eqU hr.units) (pe_callB (r := rLen _) call_len rfl T.f_len b_len (pa_cons (pv 2) pa_nil)) pe_int (nomark _)) (pss_one (ps_ret pe_str)) pss_nil)
 (pss_cons (ps_set (i := 3) sc.nd rfl (by first | exact Or.inl rfl | exact Or.inr rfl) (pe_ix ix_seq (pv 0) (pe_ix ix_seq (pv 2) pe_int (fun _ _ => rfl)) (fun _ _ => rfl)))
 (pss_cons (ps_set (i := 4) sc.nd rfl (by first | exact Or.inl rfl | exact Or.inr rfl) (pe_findU (pv 3) (pv 1)))
 (pss_cons (ps_set (i := 5) sc.nd rfl (by first | exact Or.inl rfl | exact Or.inr rfl) (pe_countU (pv 3) (pv 1)))
 (pss_cons (ps_if (pt_cmpR (op_neU hr.units) (pe_op op_addU (pe_op op_sub (pe_ix ix_seq (pv 2) (pe_un un_neg pe_int) (fun _ _ => rfl)) (pe_ix ix_seq (pv 2) pe_int (fun _ _ => rfl))) pe_int) (pe_callB (r := rLen _) call_len rfl T.f_len b_len (pa_cons (pv 2) pa_nil)) (nomark _)) (pss_one (ps_ret pe_str)) pss_nil)
 (pss_cons (ps_for pa rfl (pi_seqU (pv 2)) (pg_name (i := 6) sc.nd rfl (by first | exact Or.inl rfl | exact Or.inr rfl)) (pss_cons (ps_set (i := 7) sc.nd rfl (by first | exact Or.inl rfl | exact Or.inr rfl) (pe_ix ix_seq (pv 0) (pv 6) (fun _ _ => rfl)))
 (pss_one (ps_if (PW.pt (pw_or (pt_cmpR (op_neU hr.units) (pe_countU (pv 7) (pv 1)) (pv 5) (nomark _)) (pw_or1 (pt_cmpR (op_neU hr.units) (pe_slice sl_U (pv 7) (po_some (pv 4)) (po_some (pe_op op_addU (pv 4) (pv 5)))) (pe_op op_mulU (pv 1) (pv 5)) (nomark _))))) (pss_one (ps_ret pe_str)) pss_nil))))
 (pss_one (ps_ret pe_non)))))))))
def t_four_signs_meet (K : PySem.W.Frag) : TS := (tSeq (tFor (iRng2 (tCons (tC (.int 1)) (tCons (tCB (rLen K) (tCons (tVar 0) tNil)) tNil))) (gName 2) (tIfS (tTest (tOp (rEqU K) (tLenDisp (ups [(tOp (rIx K) (tVar 0) (tOp rSubU (tVar 2) (tC (.int 1)))), (tOp (rIx K) (tVar 0) (tVar 2)), (tOp (rIx K) (tVar 1) (tOp rSubU (tVar 2) (tC (.int 1)))), (tOp (rIx K) (tVar 1) (tVar 2))])) (tC (.int 4)))) (tRet (tC (.bl true))) tNext))
 (tRet (tC (.bl false))))
theorem dv_four_signs_meet (T : Txt K mg)  {f : Addr} (cdv : Value) (A : Around) (outer : List PySem.Env) (s : Shared) (H : Hp) (E : XK) (hcd : PySem.W.kdsCode K cdv = true) (hr : Room 0 (A.deeper (envOfC "four_signs_meet" (defScope s_four_signs_meet) s.heap.objs.size f cdv))) :
    PSs (cxOf CX0 P w K mg base N_four_signs_meet "four_signs_meet" (defScope s_four_signs_meet) f cdv A outer s H E) (defBody s_four_signs_meet) (t_four_signs_meet K) := by
  have sc := sc_four_signs_meet
  have pa : PassesOwn (model P w) (cxOf CX0 P w K mg base N_four_signs_meet "four_signs_meet" (defScope s_four_signs_meet) f cdv A outer s H E).A (cxOf CX0 P w K mg base N_four_signs_meet "four_signs_meet" (defScope s_four_signs_meet) f cdv A outer s H E).env (cxOf CX0 P w K mg base N_four_signs_meet "four_signs_meet" (defScope s_four_signs_meet) f cdv A outer s H E).xe := passes_of rfl
  exact (pss_cons (ps_for pa rfl (pi_range2 rfl T.f_range (pa_cons pe_int (pa_cons (pe_callB (r := rLen _) call_len rfl T.f_len b_len (pa_cons (pv 0) pa_nil)) pa_nil))) (pg_name (i := 2) sc.nd rfl (by first | exact Or.inl rfl | exact Or.inr rfl)) (pss_one (ps_if (pt_cmpR (op_eqU hr.units) (pe_lenDisp T.f_len hcd (PJ.cons (pe_ix ix_seq (pv 0) (pe_op op_sub (pv 2) pe_int) (fun _ _ => rfl)) (PJ.cons (pe_ix ix_seq (pv 0) (pv 2) (fun _ _ => rfl)) (PJ.cons (pe_ix ix_seq (pv 1) (pe_op op_sub (pv 2) pe_int) (fun _ _ => rfl)) (PJ.cons (pe_ix ix_seq (pv 1) (pv 2) (fun _ _ => rfl)) PJ.nil))))) pe_int (nomark _)) (pss_one (ps_ret pe_bl)) pss_nil)))
 (pss_one (ps_ret pe_bl)))
def t_sign_box (K : PySem.W.Frag) : TS := (tSeq (tAsg (tCall (sp_sign_rows K) [] E0 (tCons (tVar 0) (tCons (tVar 1) tNil))) (gName 2))
 (tSeq (tAsg (tOp (rIx K) (tVar 0) (tOp (rIx K) (tVar 2) (tC (.int 0)))) (gName 3))
 (tSeq (tAsg (tM1 rFindU (tVar 3) (tVar 1)) (gName 4))
 (tSeq (tAsg (tCB (rLen K) (tCons (tVar 0) tNil)) (gName 5))
 (tRet (tTup (tCons (tVar 4) (tCons (tOp rSubU (tOp rSubU (tVar 5) (tC (.int 1))) (tOp (rIx K) (tVar 2) (tUn (rU fun i => .int (-i)) (tC (.int 1))))) (tCons (tOp (rAddU K) (tVar 4) (tM1 rCountU (tVar 3) (tVar 1))) (tCons (tOp rSubU (tVar 5) (tOp (rIx K) (tVar 2) (tC (.int 0)))) tNil))))))))))
theorem dv_sign_box (T : Txt K mg) (O_sign_rows : Okd P w K mg base CX0 1 "sign_rows" ["shown", "sign"] (sp_sign_rows K)) {f : Addr} (cdv : Value) (A : Around) (outer : List PySem.Env) (s : Shared) (H : Hp) (E : XK) (hr : Room 1 (A.deeper (envOfC "sign_box" (defScope s_sign_box) s.heap.objs.size f cdv))) :
    PSs (cxOf CX0 P w K mg base N_sign_box "sign_box" (defScope s_sign_box) f cdv A outer s H E) (defBody s_sign_box) (t_sign_box K) := by
  have sc := sc_sign_box
  exact (pss_cons (ps_set (i := 2) sc.nd rfl (by first | exact Or.inl rfl | exact Or.inr rfl) (pe_callD O_sign_rows hr (by decide) (pa_cons (pv 0) (pa_cons (pv 1) pa_nil))))
 (pss_cons (ps_set (i := 3) sc.nd rfl (by first | exact Or.inl rfl | exact Or.inr rfl) (pe_ix ix_seq (pv 0) (pe_ix ix_seq (pv 2) pe_int (fun _ _ => rfl)) (fun _ _ => rfl)))
 (pss_cons (ps_set (i := 4) sc.nd rfl (by first | exact Or.inl rfl | exact Or.inr rfl) (pe_findU (pv 3) (pv 1)))
 (pss_cons (ps_set (i := 5) sc.nd rfl (by first | exact Or.inl rfl | exact Or.inr rfl) (pe_callB (r := rLen _) call_len rfl T.f_len b_len (pa_cons (pv 0) pa_nil)))
 (pss_one (ps_ret (pe_tup (pa_cons (pv 4) (pa_cons (pe_op op_sub (pe_op op_sub (pv 5) pe_int) (pe_ix ix_seq (pv 2) (pe_un un_neg pe_int) (fun _ _ => rfl))) (pa_cons (pe_op op_addU (pv 4) (pe_countU (pv 3) (pv 1))) (pa_cons (pe_op op_sub (pv 5) (pe_ix ix_seq (pv 2) pe_int (fun _ _ => rfl))) pa_nil)))))))))))
def t_read_picture (K : PySem.W.Frag) (Ex : XK) : TS := (tSeq (tAsg (tCall (sp_text_lines K) [] E0 (tCons (tVar 0) tNil)) (gName 1))
 (tSeq (tIfS (tTest (tOp (rNinU K) (tC (.str "--")) (tVar 1))) (tRaiseO K (He.ga K "BadText") ["line", "word"] Ex (tCons (tOp (rAddU K) (tCB (rLen K) (tCons (tVar 1) tNil)) (tC (.int 1))) (tCons (tC (.str "place")) tNil))) tNext)
 (tSeq (tAsg (tBM K "list" (rIndex K) (tVar 1) (tCons (tC (.str "--")) tNil)) (gName 2))
 (tSeq (tAsg (tSl (rSlU K) (tVar 1) tNoPart (tPart (tVar 2))) (gName 3))
 (tSeq (tAsg (tCall (sp_sign_lines_fault K) [] E0 (tCons (tSl (rSlU K) (tVar 1) (tPart (tOp (rAddU K) (tVar 2) (tC (.int 1)))) tNoPart) tNil)) (gName 4))
 (tSeq (tIfS (tB (tNotN (tVar 4))) (tRaiseO K (He.ga K "BadText") ["line", "word"] Ex (tCons (tOp (rAddU K) (tOp (rAddU K) (tVar 2) (tC (.int 2))) (tOp (rIx K) (tVar 4) (tC (.int 0)))) (tCons (tOp (rIx K) (tVar 4) (tC (.int 1))) tNil))) tNext)
 (tSeq (tAsg (tLc (iSeqU K (tSl (rSlU K) (tVar 1) (tPart (tOp (rAddU K) (tVar 2) (tC (.int 1)))) tNoPart)) (gName 6) tYes (tCall (sp_words_of K) [] E0 (tCons (tVar 6) tNil)) [6]) (gName 5))
 (tSeq (tAsg (tCall (sp_shown_fault K) [] E0 (tCons (tVar 3) (tCons (tDc (iSeqU K (tVar 5)) (gUnl K 2 (gCons (gName 7) (gCons (gName 8) gNil))) tYes (tVar 7) (tC (.bl true)) [7, 8]) tNil))) (gName 4))
 (tSeq (tIfS (tB (tNotN (tVar 4))) (tRaiseO K (He.ga K "BadText") ["line", "word"] Ex (tCons (tOp (rAddU K) (tC (.int 1)) (tOp (rIx K) (tVar 4) (tC (.int 0)))) (tCons (tOp (rIx K) (tVar 4) (tC (.int 1))) tNil))) tNext)
 (tSeq (tAsg (tLst tNil) (gName 9))
 (tSeq (tFor (iEnumU K (tCons (tVar 5) tNil)) (gTup K 2 (gCons (gName 10) (gCons (gUnl K 2 (gCons (gName 7) (gCons (gName 8) gNil))) gNil))) (tSeq (tAsg (tCall (sp_sign_fault K) [] E0 (tCons (tVar 3) (tCons (tVar 7) tNil))) (gName 11))
 (tSeq (tIfS (tB (tNotN (tVar 11))) (tRaiseO K (He.ga K "BadText") ["line", "word"] Ex (tCons (tOp (rAddU K) (tOp (rAddU K) (tVar 2) (tC (.int 2))) (tVar 10)) (tCons (tVar 11) tNil))) tNext)
 (tDrop (tBM K "list" rAppend (tVar 9) (tCons (tCall (sp_sign_box K) [] E0 (tCons (tVar 3) (tCons (tVar 7) tNil))) tNil))))))
 (tSeq (tFor (iRng2 (tCons (tC (.int 1)) (tCons (tVar 2) tNil))) (gName 10) (tIfS (tTr K (tCall (sp_four_signs_meet K) [] E0 (tCons (tOp (rIx K) (tVar 3) (tOp rSubU (tVar 10) (tC (.int 1)))) (tCons (tOp (rIx K) (tVar 3) (tVar 10)) tNil)))) (tRaiseO K (He.ga K "BadText") ["line", "word"] Ex (tCons (tVar 10) (tCons (tC (.str "four")) tNil))) tNext))
 (tRet (tTup (tCons (tCB (rTupU K) (tCons (tLc (iSeqU K (tVar 5)) (gUnl K 2 (gCons (gName 7) (gCons (gName 8) gNil))) tYes (tVar 8) [7, 8]) tNil)) (tCons (tCB (rLen K) (tCons (tOp (rIx K) (tVar 3) (tC (.int 0))) tNil)) (tCons (tVar 2) (tCons (tCB (rTupU K) (tCons (tVar 9) tNil)) tNil))))))))))))))))))
theorem dv_read_picture (T : Txt K mg) (O_text_lines : Okd P w K mg base CX0 1 "text_lines" ["text"] (sp_text_lines K)) (O_sign_lines_fault : Okd P w K mg base CX0 4 "sign_lines_fault" ["lines"] (sp_sign_lines_fault K)) (O_shown_fault : Okd P w K mg base CX0 1 "shown_fault" ["shown", "known"] (sp_shown_fault K)) (O_words_of : Okd P w K mg base CX0 1 "words_of" ["line"] (sp_words_of K)) (O_sign_fault : Okd P w K mg base CX0 2 "sign_fault" ["shown", "sign"] (sp_sign_fault K)) (O_four_signs_meet : Okd P w K mg base CX0 1 "four_signs_meet" ["upper", "lower"] (sp_four_signs_meet K)) (O_sign_box : Okd P w K mg base CX0 2 "sign_box" ["shown", "sign"] (sp_sign_box K)) (X_BadText : ExOk P w K mg base 1 "BadText" ["line", "word"]) {f : Addr} (cdv : Value) (A : Around) (outer : List PySem.Env) (s : Shared) (H : Hp) (E : XK) (hr : Room 4 (A.deeper (envOfC "read_picture" (defScope s_read_picture) s.heap.objs.size f cdv))) :
    PSs (cxOf (L2N.CX P w) P w K mg base N_read_picture "read_picture" (defScope s_read_picture) f cdv A outer s H E) (defBody s_read_picture) (t_read_picture K E) := by
  have sc := sc_read_picture
  have pa : PassesOwn (model P w) (cxOf (L2N.CX P w) P w K mg base N_read_picture "read_picture" (defScope s_read_picture) f cdv A outer s H E).A (cxOf (L2N.CX P w) P w K mg base N_read_picture "read_picture" (defScope s_read_picture) f cdv A outer s H E).env (cxOf (L2N.CX P w) P w K mg base N_read_picture "read_picture" (defScope s_read_picture) f cdv A outer s H E).xe := passes_of rfl
  have tk : L2N.Takes (cxOf (L2N.CX P w) P w K mg base N_read_picture "read_picture" (defScope s_read_picture) f cdv A outer s H E) (fun cls d _ H => E cls d H) := L2N.takes_of rfl rfl rfl rfl
  exact (pss_cons (ps_set (i := 1) sc.nd rfl (by first | exact Or.inl rfl | exact Or.inr rfl) (pe_callD O_text_lines hr (by decide) (pa_cons (pv 0) pa_nil)))
 (pss_cons (ps_if (pt_cmpR op_ninU (pe_gstr T.c_BAR) (pv 1) rfl) (pss_one (ps_raiseON X_BadText hr (by decide) rfl tk (pa_cons (pe_op op_addU (pe_callB (r := rLen _) call_len rfl T.f_len b_len (pa_cons (pv 1) pa_nil)) pe_int) (pa_cons pe_str pa_nil)))) pss_nil)
 (pss_cons (ps_set (i := 2) sc.nd rfl (by first | exact Or.inl rfl | exact Or.inr rfl) (pe_bm PySem.F.plainAttrs_list PySem.F.slot_list_index PySem.F.type_list_index mt_index (pv 1) (pa_cons (pe_gstr T.c_BAR) pa_nil)))
 (pss_cons (ps_set (i := 3) sc.nd rfl (by first | exact Or.inl rfl | exact Or.inr rfl) (pe_slice sl_U (pv 1) po_none (po_some (pv 2))))
 (pss_cons (ps_set (i := 4) sc.nd rfl (by first | exact Or.inl rfl | exact Or.inr rfl) (pe_callD O_sign_lines_fault hr (by decide) (pa_cons (pe_slice sl_U (pv 1) (po_some (pe_op op_addU (pv 2) pe_int)) po_none) pa_nil)))
 (pss_cons (ps_if (pt_cmp (pc_notN (pv 4))) (pss_one (ps_raiseON X_BadText hr (by decide) rfl tk (pa_cons (pe_op op_addU (pe_op op_addU (pv 2) pe_int) (pe_ix ix_seq (pv 4) pe_int (fun _ _ => rfl))) (pa_cons (pe_ix ix_seq (pv 4) pe_int (fun _ _ => rfl)) pa_nil)))) pss_nil)
 (pss_cons (ps_setLc (i := 5) (own := [("line", 6)]) (g := (gName 6)) (tt := tYes) rfl sc.nd rfl rfl (sw_true rfl rfl rfl (by decide +kernel)) (pi_seqU (pe_slice sl_U (pv 1) (po_some (pe_op op_addU (pv 2) pe_int)) po_none)) (blkOk_by (own := [("line", 6)]) (N := N_read_picture) (sc := defScope s_read_picture) (by decide +kernel)) (fun _ _ _ _ _ => (pg_name (i := 6) sc.nd rfl (by first | exact Or.inl rfl | exact Or.inr rfl))) (fun _ _ _ _ _ => pts_nil) (fun _ _ _ _ _ => (pe_callD O_words_of hr (by decide) (pa_cons (pv 6) pa_nil))))
 (pss_cons (ps_set (i := 4) sc.nd rfl (by first | exact Or.inl rfl | exact Or.inr rfl) (pe_callD O_shown_fault hr (by decide) (pa_cons (pv 3) (pa_cons (pe_dc (own := [("sign", 7), ("room", 8)]) (g := (gUnl K 2 (gCons (gName 7) (gCons (gName 8) gNil)))) (tt := tYes) rfl sc.nd (pi_seqU (pv 5)) (blkOk_by (own := [("sign", 7), ("room", 8)]) (N := N_read_picture) (sc := defScope s_read_picture) (by decide +kernel)) (fun _ _ _ _ _ => (pg_unl rfl (pgs_cons (pg_name (i := 7) sc.nd rfl (by first | exact Or.inl rfl | exact Or.inr rfl)) (pgs_cons (pg_name (i := 8) sc.nd rfl (by first | exact Or.inl rfl | exact Or.inr rfl)) pgs_nil)))) (fun _ _ _ _ _ => pts_nil) (fun _ _ _ _ _ => (pv 7)) (fun _ _ _ _ _ => pe_bl)) pa_nil))))
 (pss_cons (ps_if (pt_cmp (pc_notN (pv 4))) (pss_one (ps_raiseON X_BadText hr (by decide) rfl tk (pa_cons (pe_op op_addU pe_int (pe_ix ix_seq (pv 4) pe_int (fun _ _ => rfl))) (pa_cons (pe_ix ix_seq (pv 4) pe_int (fun _ _ => rfl)) pa_nil)))) pss_nil)
 (pss_cons (ps_set (i := 9) sc.nd rfl (by first | exact Or.inl rfl | exact Or.inr rfl) (pe_lst pa_nil))
 (pss_cons (ps_for pa rfl (pi_enumU rfl T.f_enumerate (pa_cons (pv 5) pa_nil)) (pg_tup rfl (pgs_cons (pg_name (i := 10) sc.nd rfl (by first | exact Or.inl rfl | exact Or.inr rfl)) (pgs_cons (pg_unl rfl (pgs_cons (pg_name (i := 7) sc.nd rfl (by first | exact Or.inl rfl | exact Or.inr rfl)) (pgs_cons (pg_name (i := 8) sc.nd rfl (by first | exact Or.inl rfl | exact Or.inr rfl)) pgs_nil))) pgs_nil))) (pss_cons (ps_set (i := 11) sc.nd rfl (by first | exact Or.inl rfl | exact Or.inr rfl) (pe_callD O_sign_fault hr (by decide) (pa_cons (pv 3) (pa_cons (pv 7) pa_nil))))
 (pss_cons (ps_if (pt_cmp (pc_notN (pv 11))) (pss_one (ps_raiseON X_BadText hr (by decide) rfl tk (pa_cons (pe_op op_addU (pe_op op_addU (pv 2) pe_int) (pv 10)) (pa_cons (pv 11) pa_nil)))) pss_nil)
 (pss_one (ps_expr (pe_bm PySem.F.plainAttrs_list PySem.F.slot_list_append PySem.F.type_list_append mt_append (pv 9) (pa_cons (pe_callD O_sign_box hr (by decide) (pa_cons (pv 3) (pa_cons (pv 7) pa_nil))) pa_nil)))))))
 (pss_cons (ps_for pa rfl (pi_range2 rfl T.f_range (pa_cons pe_int (pa_cons (pv 2) pa_nil))) (pg_name (i := 10) sc.nd rfl (by first | exact Or.inl rfl | exact Or.inr rfl)) (pss_one (ps_if (pt_tr (pe_callD O_four_signs_meet hr (by decide) (pa_cons (pe_ix ix_seq (pv 3) (pe_op op_sub (pv 10) pe_int) (fun _ _ => rfl)) (pa_cons (pe_ix ix_seq (pv 3) (pv 10) (fun _ _ => rfl)) pa_nil)))) (pss_one (ps_raiseON X_BadText hr (by decide) rfl tk (pa_cons (pv 10) (pa_cons pe_str pa_nil)))) pss_nil)))
 (pss_one (ps_ret (pe_tup (pa_cons (pe_callTy (r := rTupU _) call_tupleU rfl T.f_tuple b_tuple (pa_cons (pe_lc (own := [("sign", 7), ("room", 8)]) (g := (gUnl K 2 (gCons (gName 7) (gCons (gName 8) gNil)))) (tt := tYes) rfl sc.nd (pi_seqU (pv 5)) (blkOk_by (own := [("sign", 7), ("room", 8)]) (N := N_read_picture) (sc := defScope s_read_picture) (by decide +kernel)) (fun _ _ _ _ _ => (pg_unl rfl (pgs_cons (pg_name (i := 7) sc.nd rfl (by first | exact Or.inl rfl | exact Or.inr rfl)) (pgs_cons (pg_name (i := 8) sc.nd rfl (by first | exact Or.inl rfl | exact Or.inr rfl)) pgs_nil)))) (fun _ _ _ _ _ => pts_nil) (fun _ _ _ _ _ => (pv 8))) pa_nil)) (pa_cons (pe_callB (r := rLen _) call_len rfl T.f_len b_len (pa_cons (pe_ix ix_seq (pv 3) pe_int (fun _ _ => rfl)) pa_nil)) (pa_cons (pv 2) (pa_cons (pe_callTy (r := rTupU _) call_tupleU rfl T.f_tuple b_tuple (pa_cons (pv 9) pa_nil)) pa_nil)))))))))))))))))))
def t_u_law_state (K : PySem.W.Frag) : TS := (tSeq (tAsg (tC (.int 8087)) (gName 1))
 (tSeq (tFor (iSeqU K (tVar 0)) (gName 2) (tAsg (tOp rModU (tOp (rAddU K) (tOp (rAddU K) (tOp rMulU (tVar 1) (tC (.int 48271))) (tOp rModU (tCB rIntU (tCons (tVar 2) tNil)) (tC (.int 1000003)))) (tC (.int 11))) (tC (.int 2147483647))) (gName 1)))
 (tRet (tLst (tCons (tC (.int 0)) (tCons (tLc (iSeqU K (tVar 0)) (gName 2) (tTest (tOp rGeU (tCB rAbs (tCons (tCB rIntU (tCons (tVar 2) tNil)) tNil)) (tOp rPowU (tC (.int 10)) (tC (.int 18))))) (tCB rAbs (tCons (tCB rIntU (tCons (tVar 2) tNil)) tNil)) [2]) (tCons (tVar 1) (tCons (tC (.int 0)) tNil))))))))
theorem dv_u_law_state (T : Txt K mg)  {f : Addr} (cdv : Value) (A : Around) (outer : List PySem.Env) (s : Shared) (H : Hp) (E : XK) (hr : Room 0 (A.deeper (envOfC "_law_state" (defScope s_u_law_state) s.heap.objs.size f cdv))) :
    PSs (cxOf CX0 P w K mg base N_u_law_state "_law_state" (defScope s_u_law_state) f cdv A outer s H E) (defBody s_u_law_state) (t_u_law_state K) := by
  have sc := sc_u_law_state
  have pa : PassesOwn (model P w) (cxOf CX0 P w K mg base N_u_law_state "_law_state" (defScope s_u_law_state) f cdv A outer s H E).A (cxOf CX0 P w K mg base N_u_law_state "_law_state" (defScope s_u_law_state) f cdv A outer s H E).env (cxOf CX0 P w K mg base N_u_law_state "_law_state" (defScope s_u_law_state) f cdv A outer s H E).xe := passes_of rfl
  exact (pss_cons (ps_set (i := 1) sc.nd rfl (by first | exact Or.inl rfl | exact Or.inr rfl) pe_int)
 (pss_cons (ps_for pa rfl (pi_seqU (pv 0)) (pg_name (i := 2) sc.nd rfl (by first | exact Or.inl rfl | exact Or.inr rfl)) (pss_one (ps_set (i := 1) sc.nd rfl (by first | exact Or.inl rfl | exact Or.inr rfl) (pe_op op_mod (pe_op op_addU (pe_op op_addU (pe_op op_mulU (pv 1) pe_int) (pe_op op_mod (pe_callTy (r := rIntU) call_int1 rfl T.f_int b_int (pa_cons (pv 2) pa_nil)) pe_int)) pe_int) pe_int))))
 (pss_one (ps_ret (pe_lst (pa_cons pe_int (pa_cons (pe_lc (own := [("cell", 2)]) (g := (gName 2)) (tt := (tTest (tOp rGeU (tCB rAbs (tCons (tCB rIntU (tCons (tVar 2) tNil)) tNil)) (tOp rPowU (tC (.int 10)) (tC (.int 18)))))) rfl sc.nd (pi_seqU (pv 0)) (blkOk_by (own := [("cell", 2)]) (N := N_u_law_state) (sc := defScope s_u_law_state) (by decide +kernel)) (fun _ _ _ _ _ => (pg_name (i := 2) sc.nd rfl (by first | exact Or.inl rfl | exact Or.inr rfl))) (fun _ _ _ _ _ => (pts_one (pt_cmpR op_geU (pe_callB (r := rAbs) call_absI rfl T.f_abs b_abs (pa_cons (pe_callTy (r := rIntU) call_int1 rfl T.f_int b_int (pa_cons (pv 2) pa_nil)) pa_nil)) (pe_op op_pow pe_int pe_int) (nomark _)))) (fun _ _ _ _ _ => (pe_callB (r := rAbs) call_absI rfl T.f_abs b_abs (pa_cons (pe_callTy (r := rIntU) call_int1 rfl T.f_int b_int (pa_cons (pv 2) pa_nil)) pa_nil)))) (pa_cons (pv 1) (pa_cons pe_int pa_nil)))))))))
def t_u_law_take (K : PySem.W.Frag) : TS := (tSeq (tIfS (tAnd (tTest (tOp (rEqU K) (tOp (rIx K) (tVar 0) (tC (.int 0))) (tC (.int 0)))) (tTest (tOp rGtU (tCB (rLen K) (tCons (tOp (rIx K) (tVar 0) (tC (.int 1))) tNil)) (tC (.int 0))))) (tAsg (tBM K "list" rPopAt (tOp (rIx K) (tVar 0) (tC (.int 1))) (tCons (tC (.int 0)) tNil)) (gSub (tVar 0) (tC (.int 0)) rSetL)) tNext)
 (tSeq (tIfS (tTest (tOp rGtU (tOp (rIx K) (tVar 0) (tC (.int 0))) (tC (.int 0)))) (tSeq (tAsg (tOp rModU (tCB rIntU (tCons (tOp (rIx K) (tVar 0) (tC (.int 0))) tNil)) (tVar 1)) (gName 2))
 (tSeq (tAsg (tOp rDivU (tCB rIntU (tCons (tOp (rIx K) (tVar 0) (tC (.int 0))) tNil)) (tVar 1)) (gSub (tVar 0) (tC (.int 0)) rSetL))
 (tRet (tVar 2)))) tNext)
 (tSeq (tAugS (tVar 0) (tC (.int 3)) (tC (.int 1)) (rGetN K) rIAddU rSetL)
 (tSeq (tAsg (tOp rModU (tOp (rAddU K) (tOp (rAddU K) (tOp rMulU (tCB rIntU (tCons (tOp (rIx K) (tVar 0) (tC (.int 2))) tNil)) (tC (.int 30269))) (tOp rMulU (tCB rIntU (tCons (tOp (rIx K) (tVar 0) (tC (.int 3))) tNil)) (tC (.int 48179)))) (tC (.int 11))) (tC (.int 2147483399))) (gName 3))
 (tSeq (tAsg (tOp rModU (tOp (rAddU K) (tOp rMulU (tVar 3) (tVar 3)) (tCB rIntU (tCons (tOp (rIx K) (tVar 0) (tC (.int 2))) tNil))) (tC (.int 2147483249))) (gName 3))
 (tSeq (tAsg (tOp rModU (tOp (rAddU K) (tOp rMulU (tVar 3) (tVar 3)) (tCB rIntU (tCons (tOp (rIx K) (tVar 0) (tC (.int 3))) tNil))) (tC (.int 2147483179))) (gName 3))
 (tRet (tOp rModU (tOp rDivU (tVar 3) (tC (.int 13))) (tVar 1)))))))))
theorem dv_u_law_take (T : Txt K mg)  {f : Addr} (cdv : Value) (A : Around) (outer : List PySem.Env) (s : Shared) (H : Hp) (E : XK) (hr : Room 0 (A.deeper (envOfC "_law_take" (defScope s_u_law_take) s.heap.objs.size f cdv))) :
    PSs (cxOf CX0 P w K mg base N_u_law_take "_law_take" (defScope s_u_law_take) f cdv A outer s H E) (defBody s_u_law_take) (t_u_law_take K) := by
  have sc := sc_u_law_take
  exact (pss_cons (ps_if (PW.pt (pw_and (pt_cmpR (op_eqU hr.units) (pe_ix ix_seq (pv 0) pe_int (fun _ _ => rfl)) pe_int (nomark _)) (pw_and1 (pt_cmpR op_gtU (pe_callB (r := rLen _) call_len rfl T.f_len b_len (pa_cons (pe_ix ix_seq (pv 0) pe_int (fun _ _ => rfl)) pa_nil)) pe_int (nomark _))))) (pss_one (ps_asg (pe_bm PySem.F.plainAttrs_list PySem.F.slot_list_pop PySem.F.type_list_pop mt_popAt (pe_ix ix_seq (pv 0) pe_int (fun _ _ => rfl)) (pa_cons pe_int pa_nil)) (pg_sub (pv 0) pe_int set_list))) pss_nil)
 (pss_cons (ps_if (pt_cmpR op_gtU (pe_ix ix_seq (pv 0) pe_int (fun _ _ => rfl)) pe_int (nomark _)) (pss_cons (ps_set (i := 2) sc.nd rfl (by first | exact Or.inl rfl | exact Or.inr rfl) (pe_op op_mod (pe_callTy (r := rIntU) call_int1 rfl T.f_int b_int (pa_cons (pe_ix ix_seq (pv 0) pe_int (fun _ _ => rfl)) pa_nil)) (pv 1)))
 (pss_cons (ps_asg (pe_op op_fdiv (pe_callTy (r := rIntU) call_int1 rfl T.f_int b_int (pa_cons (pe_ix ix_seq (pv 0) pe_int (fun _ _ => rfl)) pa_nil)) (pv 1)) (pg_sub (pv 0) pe_int set_list))
 (pss_one (ps_ret (pv 2))))) pss_nil)
 (pss_cons (ps_augS (pv 0) pe_int get_ixN pe_int ip_addU set_list)
 (pss_cons (ps_set (i := 3) sc.nd rfl (by first | exact Or.inl rfl | exact Or.inr rfl) (pe_op op_mod (pe_op op_addU (pe_op op_addU (pe_op op_mulU (pe_callTy (r := rIntU) call_int1 rfl T.f_int b_int (pa_cons (pe_ix ix_seq (pv 0) pe_int (fun _ _ => rfl)) pa_nil)) pe_int) (pe_op op_mulU (pe_callTy (r := rIntU) call_int1 rfl T.f_int b_int (pa_cons (pe_ix ix_seq (pv 0) pe_int (fun _ _ => rfl)) pa_nil)) pe_int)) pe_int) pe_int))
 (pss_cons (ps_set (i := 3) sc.nd rfl (by first | exact Or.inl rfl | exact Or.inr rfl) (pe_op op_mod (pe_op op_addU (pe_op op_mulU (pv 3) (pv 3)) (pe_callTy (r := rIntU) call_int1 rfl T.f_int b_int (pa_cons (pe_ix ix_seq (pv 0) pe_int (fun _ _ => rfl)) pa_nil))) pe_int))
 (pss_cons (ps_set (i := 3) sc.nd rfl (by first | exact Or.inl rfl | exact Or.inr rfl) (pe_op op_mod (pe_op op_addU (pe_op op_mulU (pv 3) (pv 3)) (pe_callTy (r := rIntU) call_int1 rfl T.f_int b_int (pa_cons (pe_ix ix_seq (pv 0) pe_int (fun _ _ => rfl)) pa_nil))) pe_int))
 (pss_one (ps_ret (pe_op op_mod (pe_op op_fdiv (pv 3) pe_int) (pv 1))))))))))
def t_u_law_names (K : PySem.W.Frag) : TS := (tSeq (tAsg (tC (.str "abcdefghijklmnopqrstuvwxyz")) (gName 2))
 (tSeq (tAsg (tLst tNil) (gName 3))
 (tSeq (tFor (iRng1 (tCons (tVar 1) tNil)) (gName 4) (tSeq (tAsg (tOp (rIx K) (tVar 2) (tCall (sp_u_law_take K) [] E0 (tCons (tVar 0) (tCons (tC (.int 26)) tNil)))) (gName 5))
 (tSeq (tFor (iRng1 (tCons (tOp (rIx K) (tLst (tCons (tC (.int 0)) (tCons (tC (.int 0)) (tCons (tC (.int 1)) (tCons (tC (.int 1)) (tCons (tC (.int 2)) (tCons (tC (.int 7)) tNil))))))) (tCall (sp_u_law_take K) [] E0 (tCons (tVar 0) (tCons (tC (.int 6)) tNil)))) tNil)) (gName 6) (tAsg (tOp (rAddU K) (tVar 5) (tOp (rIx K) (tOp (rAddU K) (tVar 2) (tC (.str "0123456789"))) (tCall (sp_u_law_take K) [] E0 (tCons (tVar 0) (tCons (tC (.int 36)) tNil))))) (gName 5)))
 (tSeq (tIfS (tAnd (tTest (tOp rGtU (tVar 4) (tC (.int 0)))) (tTest (tOp (rEqU K) (tCall (sp_u_law_take K) [] E0 (tCons (tVar 0) (tCons (tC (.int 5)) tNil))) (tC (.int 0))))) (tAsg (tSl (rSlU K) (tOp (rAddU K) (tOp (rIx K) (tVar 3) (tOp rSubU (tVar 4) (tC (.int 1)))) (tVar 5)) tNoPart (tPart (tC (.int 8)))) (gName 5)) tNext)
 (tSeq (tIfS (tTest (tOp (rInU K) (tVar 5) (tVar 3))) (tSeq (tAsg (tLc (iRng1 (tCons (tOp (rAddU K) (tCB (rLen K) (tCons (tVar 3) tNil)) (tC (.int 1))) tNil)) (gName 6) tYes (tOp (rAddU K) (tC (.str "n")) (tCB rStrI (tCons (tVar 6) tNil))) [6]) (gName 7))
 (tSeq (tAsg (tLc (iSeqU K (tVar 7)) (gName 8) (tTest (tOp (rNinU K) (tVar 8) (tVar 3))) (tVar 8) [8]) (gName 7))
 (tAsg (tOp (rIx K) (tVar 7) (tC (.int 0))) (gName 5)))) tNext)
 (tDrop (tBM K "list" rAppend (tVar 3) (tCons (tVar 5) tNil))))))))
 (tRet (tCB (rSortedS K) (tCons (tVar 3) tNil))))))
theorem dv_u_law_names (T : Txt K mg) (O_u_law_take : Okd P w K mg base CX0 1 "_law_take" ["state", "many"] (sp_u_law_take K)) {f : Addr} (cdv : Value) (A : Around) (outer : List PySem.Env) (s : Shared) (H : Hp) (E : XK) (hr : Room 1 (A.deeper (envOfC "_law_names" (defScope s_u_law_names) s.heap.objs.size f cdv))) :
    PSs (cxOf CX0 P w K mg base N_u_law_names "_law_names" (defScope s_u_law_names) f cdv A outer s H E) (defBody s_u_law_names) (t_u_law_names K) := by
  have sc := sc_u_law_names
  have pa : PassesOwn (model P w) (cxOf CX0 P w K mg base N_u_law_names "_law_names" (defScope s_u_law_names) f cdv A outer s H E).A (cxOf CX0 P w K mg base N_u_law_names "_law_names" (defScope s_u_law_names) f cdv A outer s H E).env (cxOf CX0 P w K mg base N_u_law_names "_law_names" (defScope s_u_law_names) f cdv A outer s H E).xe := passes_of rfl
  exact (pss_cons (ps_set (i := 2) sc.nd rfl (by first | exact Or.inl rfl | exact Or.inr rfl) pe_str)
 (pss_cons (ps_set (i := 3) sc.nd rfl (by first | exact Or.inl rfl | exact Or.inr rfl) (pe_lst pa_nil))
 (pss_cons (ps_for pa rfl (pi_range1 rfl T.f_range (pa_cons (pv 1) pa_nil)) (pg_name (i := 4) sc.nd rfl (by first | exact Or.inl rfl | exact Or.inr rfl)) (pss_cons (ps_set (i := 5) sc.nd rfl (by first | exact Or.inl rfl | exact Or.inr rfl) (pe_ix ix_seq (pv 2) (pe_callD O_u_law_take hr (by decide) (pa_cons (pv 0) (pa_cons pe_int pa_nil))) (fun _ _ => rfl)))
 (pss_cons (ps_for pa rfl (pi_range1 rfl T.f_range (pa_cons (pe_ix ix_seq (pe_lst (pa_cons pe_int (pa_cons pe_int (pa_cons pe_int (pa_cons pe_int (pa_cons pe_int (pa_cons pe_int pa_nil))))))) (pe_callD O_u_law_take hr (by decide) (pa_cons (pv 0) (pa_cons pe_int pa_nil))) (fun _ _ => rfl)) pa_nil)) (pg_name (i := 6) sc.nd rfl (by first | exact Or.inl rfl | exact Or.inr rfl)) (pss_one (ps_set (i := 5) sc.nd rfl (by first | exact Or.inl rfl | exact Or.inr rfl) (pe_op op_addU (pv 5) (pe_ix ix_seq (pe_op op_addU (pv 2) pe_str) (pe_callD O_u_law_take hr (by decide) (pa_cons (pv 0) (pa_cons pe_int pa_nil))) (fun _ _ => rfl))))))
 (pss_cons (ps_if (PW.pt (pw_and (pt_cmpR op_gtU (pv 4) pe_int (nomark _)) (pw_and1 (pt_cmpR (op_eqU hr.units) (pe_callD O_u_law_take hr (by decide) (pa_cons (pv 0) (pa_cons pe_int pa_nil))) pe_int (nomark _))))) (pss_one (ps_set (i := 5) sc.nd rfl (by first | exact Or.inl rfl | exact Or.inr rfl) (pe_slice sl_U (pe_op op_addU (pe_ix ix_seq (pv 3) (pe_op op_sub (pv 4) pe_int) (fun _ _ => rfl)) (pv 5)) po_none (po_some pe_int)))) pss_nil)
 (pss_cons (ps_if (pt_cmpR op_inU (pv 5) (pv 3) rfl) (pss_cons (ps_setLc (i := 7) (own := [("j", 6)]) (g := (gName 6)) (tt := tYes) rfl sc.nd rfl rfl (sw_true rfl rfl rfl (by decide +kernel)) (pi_range1 rfl T.f_range (pa_cons (pe_op op_addU (pe_callB (r := rLen _) call_len rfl T.f_len b_len (pa_cons (pv 3) pa_nil)) pe_int) pa_nil)) (blkOk_by (own := [("j", 6)]) (N := N_u_law_names) (sc := defScope s_u_law_names) (by decide +kernel)) (fun _ _ _ _ _ => (pg_name (i := 6) sc.nd rfl (by first | exact Or.inl rfl | exact Or.inr rfl))) (fun _ _ _ _ _ => pts_nil) (fun _ _ _ _ _ => (pe_op op_addU pe_str (pe_callTy (r := rStrI) call_strI rfl T.f_str b_str (pa_cons (pv 6) pa_nil)))))
 (pss_cons (ps_setLc (i := 7) (own := [("other", 8)]) (g := (gName 8)) (tt := (tTest (tOp (rNinU K) (tVar 8) (tVar 3)))) rfl sc.nd rfl rfl (sw_true rfl rfl rfl (by decide +kernel)) (pi_seqU (pv 7)) (blkOk_by (own := [("other", 8)]) (N := N_u_law_names) (sc := defScope s_u_law_names) (by decide +kernel)) (fun _ _ _ _ _ => (pg_name (i := 8) sc.nd rfl (by first | exact Or.inl rfl | exact Or.inr rfl))) (fun _ _ _ _ _ => (pts_one (pt_cmpR op_ninU (pv 8) (pv 3) rfl))) (fun _ _ _ _ _ => (pv 8)))
 (pss_one (ps_set (i := 5) sc.nd rfl (by first | exact Or.inl rfl | exact Or.inr rfl) (pe_ix ix_seq (pv 7) pe_int (fun _ _ => rfl)))))) pss_nil)
 (pss_one (ps_expr (pe_bm PySem.F.plainAttrs_list PySem.F.slot_list_append PySem.F.type_list_append mt_append (pv 3) (pa_cons (pv 5) pa_nil)))))))))
 (pss_one (ps_ret (pe_callB (r := rSortedS _) cr_sortedS rfl T.f_sorted b_sorted (pa_cons (pv 3) pa_nil)))))))
def t_u_law_mill (K : PySem.W.Frag) : TS := (tSeq (tAsg (tVar 1) (gTup K 4 (gCons (gName 4) (gCons (gName 5) (gCons (gName 6) (gCons (gName 7) gNil))))))
 (tSeq (tAsg (tCB (rSorted K) (tCons (tLst (tCons (tOp (rAddU K) (tOp (rAddU K) (tVar 4) (tC (.int 1))) (tCall (sp_u_law_take K) [] E0 (tCons (tVar 0) (tCons (tCB rMax2 (tCons (tC (.int 1)) (tCons (tOp rSubU (tOp rSubU (tVar 6) (tVar 4)) (tC (.int 1))) tNil))) tNil)))) (tCons (tOp (rAddU K) (tOp (rAddU K) (tVar 4) (tC (.int 1))) (tCall (sp_u_law_take K) [] E0 (tCons (tVar 0) (tCons (tCB rMax2 (tCons (tC (.int 1)) (tCons (tOp rSubU (tOp rSubU (tVar 6) (tVar 4)) (tC (.int 1))) tNil))) tNil)))) tNil))) tNil)) (gName 8))
 (tSeq (tAsg (tCB (rSorted K) (tCons (tLst (tCons (tOp (rAddU K) (tOp (rAddU K) (tVar 5) (tC (.int 1))) (tCall (sp_u_law_take K) [] E0 (tCons (tVar 0) (tCons (tCB rMax2 (tCons (tC (.int 1)) (tCons (tOp rSubU (tOp rSubU (tVar 7) (tVar 5)) (tC (.int 1))) tNil))) tNil)))) (tCons (tOp (rAddU K) (tOp (rAddU K) (tVar 5) (tC (.int 1))) (tCall (sp_u_law_take K) [] E0 (tCons (tVar 0) (tCons (tCB rMax2 (tCons (tC (.int 1)) (tCons (tOp rSubU (tOp rSubU (tVar 7) (tVar 5)) (tC (.int 1))) tNil))) tNil)))) tNil))) tNil)) (gName 9))
 (tSeq (tIfS (tOr (tTest (tOp (rEqU K) (tOp (rIx K) (tVar 8) (tC (.int 0))) (tOp (rIx K) (tVar 8) (tC (.int 1))))) (tOr (tTest (tOp (rEqU K) (tOp (rIx K) (tVar 9) (tC (.int 0))) (tOp (rIx K) (tVar 9) (tC (.int 1))))) (tOr (tTest (tOp rGeU (tOp (rIx K) (tVar 8) (tC (.int 1))) (tVar 6))) (tTest (tOp rGeU (tOp (rIx K) (tVar 9) (tC (.int 1))) (tVar 7)))))) (tRet (tLst (tCons (tVar 1) tNil))) tNext)
 (tSeq (tIfS (tOr (tTest (tOp (rInU K) (tOp (rIx K) (tVar 8) (tC (.int 0))) (tVar 2))) (tOr (tTest (tOp (rInU K) (tOp (rIx K) (tVar 8) (tC (.int 1))) (tVar 2))) (tOr (tTest (tOp (rInU K) (tOp (rIx K) (tVar 9) (tC (.int 0))) (tVar 3))) (tTest (tOp (rInU K) (tOp (rIx K) (tVar 9) (tC (.int 1))) (tVar 3)))))) (tRet (tLst (tCons (tVar 1) tNil))) tNext)
 (tSeq (tDrop (tBM K "list" rAppend (tVar 2) (tCons (tOp (rIx K) (tVar 8) (tC (.int 0))) tNil)))
 (tSeq (tDrop (tBM K "list" rAppend (tVar 2) (tCons (tOp (rIx K) (tVar 8) (tC (.int 1))) tNil)))
 (tSeq (tDrop (tBM K "list" rAppend (tVar 3) (tCons (tOp (rIx K) (tVar 9) (tC (.int 0))) tNil)))
 (tSeq (tDrop (tBM K "list" rAppend (tVar 3) (tCons (tOp (rIx K) (tVar 9) (tC (.int 1))) tNil)))
 (tSeq (tAsg (tTup (tCons (tOp (rIx K) (tVar 8) (tC (.int 0))) (tCons (tOp (rIx K) (tVar 9) (tC (.int 0))) (tCons (tOp (rIx K) (tVar 8) (tC (.int 1))) (tCons (tOp (rIx K) (tVar 9) (tC (.int 1))) tNil))))) (gName 10))
 (tSeq (tIfS (tTest (tOp (rEqU K) (tCall (sp_u_law_take K) [] E0 (tCons (tVar 0) (tCons (tC (.int 2)) tNil))) (tC (.int 0)))) (tRet (tLst (tCons (tVar 10) (tCons (tTup (tCons (tVar 4) (tCons (tOp (rIx K) (tVar 9) (tC (.int 1))) (tCons (tOp (rIx K) (tVar 8) (tC (.int 1))) (tCons (tVar 7) tNil))))) (tCons (tTup (tCons (tOp (rIx K) (tVar 8) (tC (.int 1))) (tCons (tOp (rIx K) (tVar 9) (tC (.int 0))) (tCons (tVar 6) (tCons (tVar 7) tNil))))) (tCons (tTup (tCons (tOp (rIx K) (tVar 8) (tC (.int 0))) (tCons (tVar 5) (tCons (tVar 6) (tCons (tOp (rIx K) (tVar 9) (tC (.int 0))) tNil))))) (tCons (tTup (tCons (tVar 4) (tCons (tVar 5) (tCons (tOp (rIx K) (tVar 8) (tC (.int 0))) (tCons (tOp (rIx K) (tVar 9) (tC (.int 1))) tNil))))) tNil))))))) tNext)
 (tRet (tLst (tCons (tVar 10) (tCons (tTup (tCons (tOp (rIx K) (tVar 8) (tC (.int 0))) (tCons (tOp (rIx K) (tVar 9) (tC (.int 1))) (tCons (tVar 6) (tCons (tVar 7) tNil))))) (tCons (tTup (tCons (tVar 4) (tCons (tOp (rIx K) (tVar 9) (tC (.int 0))) (tCons (tOp (rIx K) (tVar 8) (tC (.int 0))) (tCons (tVar 7) tNil))))) (tCons (tTup (tCons (tVar 4) (tCons (tVar 5) (tCons (tOp (rIx K) (tVar 8) (tC (.int 1))) (tCons (tOp (rIx K) (tVar 9) (tC (.int 0))) tNil))))) (tCons (tTup (tCons (tOp (rIx K) (tVar 8) (tC (.int 1))) (tCons (tVar 5) (tCons (tVar 6) (tCons (tOp (rIx K) (tVar 9) (tC (.int 1))) tNil))))) tNil))))))))))))))))))
theorem dv_u_law_mill (T : Txt K mg) (O_u_law_take : Okd P w K mg base CX0 1 "_law_take" ["state", "many"] (sp_u_law_take K)) {f : Addr} (cdv : Value) (A : Around) (outer : List PySem.Env) (s : Shared) (H : Hp) (E : XK) (hr : Room 1 (A.deeper (envOfC "_law_mill" (defScope s_u_law_mill) s.heap.objs.size f cdv))) :
    PSs (cxOf CX0 P w K mg base N_u_law_mill "_law_mill" (defScope s_u_law_mill) f cdv A outer s H E) (defBody s_u_law_mill) (t_u_law_mill K) := by
  have sc := sc_u_law_mill
  exact (pss_cons (ps_asg (pv 1) (pg_tup rfl (pgs_cons (pg_name (i := 4) sc.nd rfl (by first | exact Or.inl rfl | exact Or.inr rfl)) (pgs_cons (pg_name (i := 5) sc.nd rfl (by first | exact Or.inl rfl | exact Or.inr rfl)) (pgs_cons (pg_name (i := 6) sc.nd rfl (by first | exact Or.inl rfl | exact Or.inr rfl)) (pgs_cons (pg_name (i := 7) sc.nd rfl (by first | exact Or.inl rfl | exact Or.inr rfl)) pgs_nil))))))
 (pss_cons (ps_set (i := 8) sc.nd rfl (by first | exact Or.inl rfl | exact Or.inr rfl) (pe_callB (r := rSorted _) cr_sorted rfl T.f_sorted b_sorted (pa_cons (pe_lst (pa_cons (pe_op op_addU (pe_op op_addU (pv 4) pe_int) (pe_callD O_u_law_take hr (by decide) (pa_cons (pv 0) (pa_cons (pe_callB (r := rMax2) (call_maxI rfl) rfl T.f_max b_max (pa_cons pe_int (pa_cons (pe_op op_sub (pe_op op_sub (pv 6) (pv 4)) pe_int) pa_nil))) pa_nil)))) (pa_cons (pe_op op_addU (pe_op op_addU (pv 4) pe_int) (pe_callD O_u_law_take hr (by decide) (pa_cons (pv 0) (pa_cons (pe_callB (r := rMax2) (call_maxI rfl) rfl T.f_max b_max (pa_cons pe_int (pa_cons (pe_op op_sub (pe_op op_sub (pv 6) (pv 4)) pe_int) pa_nil))) pa_nil)))) pa_nil))) pa_nil)))
 (pss_cons (ps_set (i := 9) sc.nd rfl (by first | exact Or.inl rfl | exact Or.inr rfl) (pe_callB (r := rSorted _) cr_sorted rfl T.f_sorted b_sorted (pa_cons (pe_lst (pa_cons (pe_op op_addU (pe_op op_addU (pv 5) pe_int) (pe_callD O_u_law_take hr (by decide) (pa_cons (pv 0) (pa_cons (pe_callB (r := rMax2) (call_maxI rfl) rfl T.f_max b_max (pa_cons pe_int (pa_cons (pe_op op_sub (pe_op op_sub (pv 7) (pv 5)) pe_int) pa_nil))) pa_nil)))) (pa_cons (pe_op op_addU (pe_op op_addU (pv 5) pe_int) (pe_callD O_u_law_take hr (by decide) (pa_cons (pv 0) (pa_cons (pe_callB (r := rMax2) (call_maxI rfl) rfl T.f_max b_max (pa_cons pe_int (pa_cons (pe_op op_sub (pe_op op_sub (pv 7) (pv 5)) pe_int) pa_nil))) pa_nil)))) pa_nil))) pa_nil)))
 (pss_cons (ps_if (PW.pt (pw_or (pt_cmpR (op_eqU hr.units) (pe_ix ix_seq (pv 8) pe_int (fun _ _ => rfl)) (pe_ix ix_seq (pv 8) pe_int (fun _ _ => rfl)) (nomark _)) (pw_or (pt_cmpR (op_eqU hr.units) (pe_ix ix_seq (pv 9) pe_int (fun _ _ => rfl)) (pe_ix ix_seq (pv 9) pe_int (fun _ _ => rfl)) (nomark _)) (pw_or (pt_cmpR op_geU (pe_ix ix_seq (pv 8) pe_int (fun _ _ => rfl)) (pv 6) (nomark _)) (pw_or1 (pt_cmpR op_geU (pe_ix ix_seq (pv 9) pe_int (fun _ _ => rfl)) (pv 7) (nomark _))))))) (pss_one (ps_ret (pe_lst (pa_cons (pv 1) pa_nil)))) pss_nil)
 (pss_cons (ps_if (PW.pt (pw_or (pt_cmpR op_inU (pe_ix ix_seq (pv 8) pe_int (fun _ _ => rfl)) (pv 2) rfl) (pw_or (pt_cmpR op_inU (pe_ix ix_seq (pv 8) pe_int (fun _ _ => rfl)) (pv 2) rfl) (pw_or (pt_cmpR op_inU (pe_ix ix_seq (pv 9) pe_int (fun _ _ => rfl)) (pv 3) rfl) (pw_or1 (pt_cmpR op_inU (pe_ix ix_seq (pv 9) pe_int (fun _ _ => rfl)) (pv 3) rfl)))))) (pss_one (ps_ret (pe_lst (pa_cons (pv 1) pa_nil)))) pss_nil)
 (pss_cons (ps_expr (pe_bm PySem.F.plainAttrs_list PySem.F.slot_list_append PySem.F.type_list_append mt_append (pv 2) (pa_cons (pe_ix ix_seq (pv 8) pe_int (fun _ _ => rfl)) pa_nil)))
 (pss_cons (ps_expr (pe_bm PySem.F.plainAttrs_list PySem.F.slot_list_append PySem.F.type_list_append mt_append (pv 2) (pa_cons (pe_ix ix_seq (pv 8) pe_int (fun _ _ => rfl)) pa_nil)))
 (pss_cons (ps_expr (pe_bm PySem.F.plainAttrs_list PySem.F.slot_list_append PySem.F.type_list_append mt_append (pv 3) (pa_cons (pe_ix ix_seq (pv 9) pe_int (fun _ _ => rfl)) pa_nil)))
 (pss_cons (ps_expr (pe_bm PySem.F.plainAttrs_list PySem.F.slot_list_append PySem.F.type_list_append mt_append (pv 3) (pa_cons (pe_ix ix_seq (pv 9) pe_int (fun _ _ => rfl)) pa_nil)))
 (pss_cons (ps_set (i := 10) sc.nd rfl (by first | exact Or.inl rfl | exact Or.inr rfl) (pe_tup (pa_cons (pe_ix ix_seq (pv 8) pe_int (fun _ _ => rfl)) (pa_cons (pe_ix ix_seq (pv 9) pe_int (fun _ _ => rfl)) (pa_cons (pe_ix ix_seq (pv 8) pe_int (fun _ _ => rfl)) (pa_cons (pe_ix ix_seq (pv 9) pe_int (fun _ _ => rfl)) pa_nil))))))
 (pss_cons (ps_if (pt_cmpR (op_eqU hr.units) (pe_callD O_u_law_take hr (by decide) (pa_cons (pv 0) (pa_cons pe_int pa_nil))) pe_int (nomark _)) (pss_one (ps_ret (pe_lst (pa_cons (pv 10) (pa_cons (pe_tup (pa_cons (pv 4) (pa_cons (pe_ix ix_seq (pv 9) pe_int (fun _ _ => rfl)) (pa_cons (pe_ix ix_seq (pv 8) pe_int (fun _ _ => rfl)) (pa_cons (pv 7) pa_nil))))) (pa_cons (pe_tup (pa_cons (pe_ix ix_seq (pv 8) pe_int (fun _ _ => rfl)) (pa_cons (pe_ix ix_seq (pv 9) pe_int (fun _ _ => rfl)) (pa_cons (pv 6) (pa_cons (pv 7) pa_nil))))) (pa_cons (pe_tup (pa_cons (pe_ix ix_seq (pv 8) pe_int (fun _ _ => rfl)) (pa_cons (pv 5) (pa_cons (pv 6) (pa_cons (pe_ix ix_seq (pv 9) pe_int (fun _ _ => rfl)) pa_nil))))) (pa_cons (pe_tup (pa_cons (pv 4) (pa_cons (pv 5) (pa_cons (pe_ix ix_seq (pv 8) pe_int (fun _ _ => rfl)) (pa_cons (pe_ix ix_seq (pv 9) pe_int (fun _ _ => rfl)) pa_nil))))) pa_nil)))))))) pss_nil)
 (pss_one (ps_ret (pe_lst (pa_cons (pv 10) (pa_cons (pe_tup (pa_cons (pe_ix ix_seq (pv 8) pe_int (fun _ _ => rfl)) (pa_cons (pe_ix ix_seq (pv 9) pe_int (fun _ _ => rfl)) (pa_cons (pv 6) (pa_cons (pv 7) pa_nil))))) (pa_cons (pe_tup (pa_cons (pv 4) (pa_cons (pe_ix ix_seq (pv 9) pe_int (fun _ _ => rfl)) (pa_cons (pe_ix ix_seq (pv 8) pe_int (fun _ _ => rfl)) (pa_cons (pv 7) pa_nil))))) (pa_cons (pe_tup (pa_cons (pv 4) (pa_cons (pv 5) (pa_cons (pe_ix ix_seq (pv 8) pe_int (fun _ _ => rfl)) (pa_cons (pe_ix ix_seq (pv 9) pe_int (fun _ _ => rfl)) pa_nil))))) (pa_cons (pe_tup (pa_cons (pe_ix ix_seq (pv 8) pe_int (fun _ _ => rfl)) (pa_cons (pv 5) (pa_cons (pv 6) (pa_cons (pe_ix ix_seq (pv 9) pe_int (fun _ _ => rfl)) pa_nil))))) pa_nil)))))))))))))))))))
def t_u_law_cuts (K : PySem.W.Frag) : TS := (tSeq (tAsg (tLst (tCons (tTup (tCons (tC (.int 0)) (tCons (tC (.int 0)) (tCons (tVar 2) (tCons (tVar 3) tNil))))) tNil)) (gName 5))
 (tSeq (tPar 6 7 (tCons (tLst tNil) (tCons (tLst tNil) tNil)))
 (tSeq (tFor (iRng1 (tCons (tOp rMulU (tC (.int 4)) (tVar 1)) tNil)) (gName 8) (tSeq (tIfS (tTest (tOp rGeU (tCB (rLen K) (tCons (tVar 5) tNil)) (tVar 1))) tBreak tNext)
 (tSeq (tAsg (tCall (sp_u_law_take K) [] E0 (tCons (tVar 0) (tCons (tCB (rLen K) (tCons (tVar 5) tNil)) tNil))) (gName 9))
 (tSeq (tAsg (tOp (rIx K) (tVar 5) (tVar 9)) (gTup K 4 (gCons (gName 10) (gCons (gName 11) (gCons (gName 12) (gCons (gName 13) gNil))))))
 (tSeq (tAsg (tCall (sp_u_law_take K) [] E0 (tCons (tVar 0) (tCons (tC (.int 5)) tNil))) (gName 14))
 (tIfS (tAnd (tTest (tOp (rEqU K) (tVar 14) (tC (.int 4)))) (tTest (tOp rLeU (tOp (rAddU K) (tCB (rLen K) (tCons (tVar 5) tNil)) (tC (.int 4))) (tVar 1)))) (tSeq (tAsg (tCall (sp_u_law_mill K) [] E0 (tCons (tVar 0) (tCons (tOp (rIx K) (tVar 5) (tVar 9)) (tCons (tVar 6) (tCons (tVar 7) tNil))))) (gName 15))
 (tSeq (tAsg (tOp (rIx K) (tVar 15) (tC (.int 0))) (gSub (tVar 5) (tVar 9) rSetL))
 (tAsg (tOp (rAddU K) (tVar 5) (tSl (rSlU K) (tVar 15) (tPart (tC (.int 1))) tNoPart)) (gName 5)))) (tIfS (tTest (tOp rLtU (tVar 14) (tC (.int 2)))) (tSeq (tAsg (tOp (rAddU K) (tOp (rAddU K) (tVar 10) (tC (.int 1))) (tCall (sp_u_law_take K) [] E0 (tCons (tVar 0) (tCons (tCB rMax2 (tCons (tC (.int 1)) (tCons (tOp rSubU (tOp rSubU (tVar 12) (tVar 10)) (tC (.int 1))) tNil))) tNil)))) (gName 16))
 (tIfS (tAnd (tTest (tOp rLtU (tVar 16) (tVar 12))) (tOr (tNot (tTr K (tVar 4))) (tTest (tOp (rNinU K) (tVar 16) (tVar 6))))) (tSeq (tDrop (tBM K "list" rAppend (tVar 6) (tCons (tVar 16) tNil)))
 (tSeq (tAsg (tTup (tCons (tVar 10) (tCons (tVar 11) (tCons (tVar 16) (tCons (tVar 13) tNil))))) (gSub (tVar 5) (tVar 9) rSetL))
 (tDrop (tBM K "list" rAppend (tVar 5) (tCons (tTup (tCons (tVar 16) (tCons (tVar 11) (tCons (tVar 12) (tCons (tVar 13) tNil))))) tNil))))) tNext)) (tSeq (tAsg (tOp (rAddU K) (tOp (rAddU K) (tVar 11) (tC (.int 1))) (tCall (sp_u_law_take K) [] E0 (tCons (tVar 0) (tCons (tCB rMax2 (tCons (tC (.int 1)) (tCons (tOp rSubU (tOp rSubU (tVar 13) (tVar 11)) (tC (.int 1))) tNil))) tNil)))) (gName 17))
 (tIfS (tAnd (tTest (tOp rLtU (tVar 17) (tVar 13))) (tOr (tNot (tTr K (tVar 4))) (tTest (tOp (rNinU K) (tVar 17) (tVar 7))))) (tSeq (tDrop (tBM K "list" rAppend (tVar 7) (tCons (tVar 17) tNil)))
 (tSeq (tAsg (tTup (tCons (tVar 10) (tCons (tVar 11) (tCons (tVar 12) (tCons (tVar 17) tNil))))) (gSub (tVar 5) (tVar 9) rSetL))
 (tDrop (tBM K "list" rAppend (tVar 5) (tCons (tTup (tCons (tVar 10) (tCons (tVar 17) (tCons (tVar 12) (tCons (tVar 13) tNil))))) tNil))))) tNext)))))))))
 (tRet (tVar 5)))))
theorem dv_u_law_cuts (T : Txt K mg) (O_u_law_take : Okd P w K mg base CX0 1 "_law_take" ["state", "many"] (sp_u_law_take K)) (O_u_law_mill : Okd P w K mg base CX0 2 "_law_mill" ["state", "box", "across", "up"] (sp_u_law_mill K)) {f : Addr} (cdv : Value) (A : Around) (outer : List PySem.Env) (s : Shared) (H : Hp) (E : XK) (hr : Room 2 (A.deeper (envOfC "_law_cuts" (defScope s_u_law_cuts) s.heap.objs.size f cdv))) :
    PSs (cxOf CX0 P w K mg base N_u_law_cuts "_law_cuts" (defScope s_u_law_cuts) f cdv A outer s H E) (defBody s_u_law_cuts) (t_u_law_cuts K) := by
  have sc := sc_u_law_cuts
  have pa : PassesOwn (model P w) (cxOf CX0 P w K mg base N_u_law_cuts "_law_cuts" (defScope s_u_law_cuts) f cdv A outer s H E).A (cxOf CX0 P w K mg base N_u_law_cuts "_law_cuts" (defScope s_u_law_cuts) f cdv A outer s H E).env (cxOf CX0 P w K mg base N_u_law_cuts "_law_cuts" (defScope s_u_law_cuts) f cdv A outer s H E).xe := passes_of rfl
  exact (pss_cons (ps_set (i := 5) sc.nd rfl (by first | exact Or.inl rfl | exact Or.inr rfl) (pe_lst (pa_cons (pe_tup (pa_cons pe_int (pa_cons pe_int (pa_cons (pv 2) (pa_cons (pv 3) pa_nil))))) pa_nil)))
 (pss_cons (ps_par (i := 6) (j := 7) rfl sc.nd rfl rfl (by decide) rfl rfl (pa_cons (pe_lst pa_nil) (pa_cons (pe_lst pa_nil) pa_nil)) rfl)
 (pss_cons (ps_for pa rfl (pi_range1 rfl T.f_range (pa_cons (pe_op op_mulU pe_int (pv 1)) pa_nil)) (pg_name (i := 8) sc.nd rfl (by first | exact Or.inl rfl | exact Or.inr rfl)) (pss_cons (ps_if (pt_cmpR op_geU (pe_callB (r := rLen _) call_len rfl T.f_len b_len (pa_cons (pv 5) pa_nil)) (pv 1) (nomark _)) (pss_one ps_break) pss_nil)
 (pss_cons (ps_set (i := 9) sc.nd rfl (by first | exact Or.inl rfl | exact Or.inr rfl) (pe_callD O_u_law_take hr (by decide) (pa_cons (pv 0) (pa_cons (pe_callB (r := rLen _) call_len rfl T.f_len b_len (pa_cons (pv 5) pa_nil)) pa_nil))))
 (pss_cons (ps_asg (pe_ix ix_seq (pv 5) (pv 9) (fun _ _ => rfl)) (pg_tup rfl (pgs_cons (pg_name (i := 10) sc.nd rfl (by first | exact Or.inl rfl | exact Or.inr rfl)) (pgs_cons (pg_name (i := 11) sc.nd rfl (by first | exact Or.inl rfl | exact Or.inr rfl)) (pgs_cons (pg_name (i := 12) sc.nd rfl (by first | exact Or.inl rfl | exact Or.inr rfl)) (pgs_cons (pg_name (i := 13) sc.nd rfl (by first | exact Or.inl rfl | exact Or.inr rfl)) pgs_nil))))))
 (pss_cons (ps_set (i := 14) sc.nd rfl (by first | exact Or.inl rfl | exact Or.inr rfl) (pe_callD O_u_law_take hr (by decide) (pa_cons (pv 0) (pa_cons pe_int pa_nil))))
 (pss_one (ps_if (PW.pt (pw_and (pt_cmpR (op_eqU hr.units) (pv 14) pe_int (nomark _)) (pw_and1 (pt_cmpR op_leU (pe_op op_addU (pe_callB (r := rLen _) call_len rfl T.f_len b_len (pa_cons (pv 5) pa_nil)) pe_int) (pv 1) (nomark _))))) (pss_cons (ps_set (i := 15) sc.nd rfl (by first | exact Or.inl rfl | exact Or.inr rfl) (pe_callD O_u_law_mill hr (by decide) (pa_cons (pv 0) (pa_cons (pe_ix ix_seq (pv 5) (pv 9) (fun _ _ => rfl)) (pa_cons (pv 6) (pa_cons (pv 7) pa_nil))))))
 (pss_cons (ps_asg (pe_ix ix_seq (pv 15) pe_int (fun _ _ => rfl)) (pg_sub (pv 5) (pv 9) set_list))
 (pss_one (ps_set (i := 5) sc.nd rfl (by first | exact Or.inl rfl | exact Or.inr rfl) (pe_op op_addU (pv 5) (pe_slice sl_U (pv 15) (po_some pe_int) po_none)))))) (pss_one (ps_if (pt_cmpR op_ltU (pv 14) pe_int (nomark _)) (pss_cons (ps_set (i := 16) sc.nd rfl (by first | exact Or.inl rfl | exact Or.inr rfl) (pe_op op_addU (pe_op op_addU (pv 10) pe_int) (pe_callD O_u_law_take hr (by decide) (pa_cons (pv 0) (pa_cons (pe_callB (r := rMax2) (call_maxI rfl) rfl T.f_max b_max (pa_cons pe_int (pa_cons (pe_op op_sub (pe_op op_sub (pv 12) (pv 10)) pe_int) pa_nil))) pa_nil)))))
 (pss_one (ps_if (PW.pt (pw_and (pt_cmpR op_ltU (pv 16) (pv 12) (nomark _)) (pw_and1 (PW.pt (pw_or (pt_not (pt_tr (pv 4))) (pw_or1 (pt_cmpR op_ninU (pv 16) (pv 6) rfl))))))) (pss_cons (ps_expr (pe_bm PySem.F.plainAttrs_list PySem.F.slot_list_append PySem.F.type_list_append mt_append (pv 6) (pa_cons (pv 16) pa_nil)))
 (pss_cons (ps_asg (pe_tup (pa_cons (pv 10) (pa_cons (pv 11) (pa_cons (pv 16) (pa_cons (pv 13) pa_nil))))) (pg_sub (pv 5) (pv 9) set_list))
 (pss_one (ps_expr (pe_bm PySem.F.plainAttrs_list PySem.F.slot_list_append PySem.F.type_list_append mt_append (pv 5) (pa_cons (pe_tup (pa_cons (pv 16) (pa_cons (pv 11) (pa_cons (pv 12) (pa_cons (pv 13) pa_nil))))) pa_nil)))))) pss_nil))) (pss_cons (ps_set (i := 17) sc.nd rfl (by first | exact Or.inl rfl | exact Or.inr rfl) (pe_op op_addU (pe_op op_addU (pv 11) pe_int) (pe_callD O_u_law_take hr (by decide) (pa_cons (pv 0) (pa_cons (pe_callB (r := rMax2) (call_maxI rfl) rfl T.f_max b_max (pa_cons pe_int (pa_cons (pe_op op_sub (pe_op op_sub (pv 13) (pv 11)) pe_int) pa_nil))) pa_nil)))))
 (pss_one (ps_if (PW.pt (pw_and (pt_cmpR op_ltU (pv 17) (pv 13) (nomark _)) (pw_and1 (PW.pt (pw_or (pt_not (pt_tr (pv 4))) (pw_or1 (pt_cmpR op_ninU (pv 17) (pv 7) rfl))))))) (pss_cons (ps_expr (pe_bm PySem.F.plainAttrs_list PySem.F.slot_list_append PySem.F.type_list_append mt_append (pv 7) (pa_cons (pv 17) pa_nil)))
 (pss_cons (ps_asg (pe_tup (pa_cons (pv 10) (pa_cons (pv 11) (pa_cons (pv 12) (pa_cons (pv 17) pa_nil))))) (pg_sub (pv 5) (pv 9) set_list))
 (pss_one (ps_expr (pe_bm PySem.F.plainAttrs_list PySem.F.slot_list_append PySem.F.type_list_append mt_append (pv 5) (pa_cons (pe_tup (pa_cons (pv 10) (pa_cons (pv 17) (pa_cons (pv 12) (pa_cons (pv 13) pa_nil))))) pa_nil)))))) pss_nil))))))))))))
 (pss_one (ps_ret (pv 5))))))
def t_u_law_plan (K : PySem.W.Frag) : TS := (tSeq (tAsg (tCall (sp_u_law_cuts K) [] E0 (tCons (tVar 0) (tCons (tVar 1) (tCons (tVar 2) (tCons (tVar 3) (tCons (tVar 4) tNil)))))) (gName 5))
 (tSeq (tAsg (tLst tNil) (gName 6))
 (tSeq (tFor (iRng1 (tCons (tCB (rLen K) (tCons (tVar 5) tNil)) tNil)) (gName 7) (tDrop (tBM K "list" rAppend (tVar 6) (tCons (tBM K "list" rPopAt (tVar 5) (tCons (tCall (sp_u_law_take K) [] E0 (tCons (tVar 0) (tCons (tCB (rLen K) (tCons (tVar 5) tNil)) tNil))) tNil)) tNil))))
 (tRet (tTup (tCons (tCB (rTupU K) (tCons (tCall (sp_u_law_names K) [] E0 (tCons (tVar 0) (tCons (tCB (rLen K) (tCons (tVar 6) tNil)) tNil))) tNil)) (tCons (tVar 2) (tCons (tVar 3) (tCons (tCB (rTupU K) (tCons (tVar 6) tNil)) tNil)))))))))
theorem dv_u_law_plan (T : Txt K mg) (O_u_law_cuts : Okd P w K mg base CX0 3 "_law_cuts" ["state", "many", "wide", "high", "strict"] (sp_u_law_cuts K)) (O_u_law_names : Okd P w K mg base CX0 2 "_law_names" ["state", "many"] (sp_u_law_names K)) (O_u_law_take : Okd P w K mg base CX0 1 "_law_take" ["state", "many"] (sp_u_law_take K)) {f : Addr} (cdv : Value) (A : Around) (outer : List PySem.Env) (s : Shared) (H : Hp) (E : XK) (hr : Room 3 (A.deeper (envOfC "_law_plan" (defScope s_u_law_plan) s.heap.objs.size f cdv))) :
    PSs (cxOf CX0 P w K mg base N_u_law_plan "_law_plan" (defScope s_u_law_plan) f cdv A outer s H E) (defBody s_u_law_plan) (t_u_law_plan K) := by
  have sc := sc_u_law_plan
  have pa : PassesOwn (model P w) (cxOf CX0 P w K mg base N_u_law_plan "_law_plan" (defScope s_u_law_plan) f cdv A outer s H E).A (cxOf CX0 P w K mg base N_u_law_plan "_law_plan" (defScope s_u_law_plan) f cdv A outer s H E).env (cxOf CX0 P w K mg base N_u_law_plan "_law_plan" (defScope s_u_law_plan) f cdv A outer s H E).xe := passes_of rfl
  exact (pss_cons (ps_set (i := 5) sc.nd rfl (by first | exact Or.inl rfl | exact Or.inr rfl) (pe_callD O_u_law_cuts hr (by decide) (pa_cons (pv 0) (pa_cons (pv 1) (pa_cons (pv 2) (pa_cons (pv 3) (pa_cons (pv 4) pa_nil)))))))
 (pss_cons (ps_set (i := 6) sc.nd rfl (by first | exact Or.inl rfl | exact Or.inr rfl) (pe_lst pa_nil))
 (pss_cons (ps_for pa rfl (pi_range1 rfl T.f_range (pa_cons (pe_callB (r := rLen _) call_len rfl T.f_len b_len (pa_cons (pv 5) pa_nil)) pa_nil)) (pg_name (i := 7) sc.nd rfl (by first | exact Or.inl rfl | exact Or.inr rfl)) (pss_one (ps_expr (pe_bm PySem.F.plainAttrs_list PySem.F.slot_list_append PySem.F.type_list_append mt_append (pv 6) (pa_cons (pe_bm PySem.F.plainAttrs_list PySem.F.slot_list_pop PySem.F.type_list_pop mt_popAt (pv 5) (pa_cons (pe_callD O_u_law_take hr (by decide) (pa_cons (pv 0) (pa_cons (pe_callB (r := rLen _) call_len rfl T.f_len b_len (pa_cons (pv 5) pa_nil)) pa_nil))) pa_nil)) pa_nil)))))
 (pss_one (ps_ret (pe_tup (pa_cons (pe_callTy (r := rTupU _) call_tupleU rfl T.f_tuple b_tuple (pa_cons (pe_callD O_u_law_names hr (by decide) (pa_cons (pv 0) (pa_cons (pe_callB (r := rLen _) call_len rfl T.f_len b_len (pa_cons (pv 6) pa_nil)) pa_nil))) pa_nil)) (pa_cons (pv 2) (pa_cons (pv 3) (pa_cons (pe_callTy (r := rTupU _) call_tupleU rfl T.f_tuple b_tuple (pa_cons (pv 6) pa_nil)) pa_nil))))))))))
def t_u_law_whole (K : PySem.W.Frag) : TS := (tRet (tAndV (tCB (rIsi K) (tCons (tVar 0) (tCons (tC (.ty "int")) tNil))) (tNotV (tCB (rIsi K) (tCons (tVar 0) (tCons (tC (.ty "bool")) tNil))))))
theorem dv_u_law_whole (T : Txt K mg)  {f : Addr} (cdv : Value) (A : Around) (outer : List PySem.Env) (s : Shared) (H : Hp) (E : XK) (hr : Room 0 (A.deeper (envOfC "_law_whole" (defScope s_u_law_whole) s.heap.objs.size f cdv))) :
    PSs (cxOf CX0 P w K mg base N_u_law_whole "_law_whole" (defScope s_u_law_whole) f cdv A outer s H E) (defBody s_u_law_whole) (t_u_law_whole K) := by
  have sc := sc_u_law_whole
  exact (pss_one (ps_ret (pe_and (pe_callB (r := rIsi _) call_isi rfl T.f_isinstance b_isinstance (pa_cons (pv 0) (pa_cons (pe_bltn (v := .ty "int") rfl T.f_int b_int rfl) pa_nil))) (pe_one (pe_not (pe_callB (r := rIsi _) call_isi rfl T.f_isinstance b_isinstance (pa_cons (pv 0) (pa_cons (pe_bltn (v := .ty "bool") rfl T.f_bool b_bool rfl) pa_nil))))))))
def t_u_law_same (K : PySem.W.Frag) : TS := (tSeq (tAsg (tLst (tCons (tTup (tCons (tVar 0) (tCons (tVar 1) tNil))) tNil)) (gName 2))
 (tSeq (tFor (iRng1 (tCons (tC (.int 200000)) tNil)) (gName 3) (tSeq (tIfS (tTest (tOp (rEqU K) (tCB (rLen K) (tCons (tVar 2) tNil)) (tC (.int 0)))) (tRet (tC (.bl true))) tNext)
 (tSeq (tAsg (tBM0 K "list" rPop (tVar 2)) (gTup K 2 (gCons (gName 4) (gCons (gName 5) gNil))))
 (tIfS (tB (tIsN (tVar 5))) (tIfS (tB (tNotN (tVar 4))) (tRet (tC (.bl false))) tNext) (tIfS (tTr K (tCB (rIsi K) (tCons (tVar 5) (tCons (tC (.ty "bool")) tNil)))) (tIfS (tOr (tNot (tTr K (tCB (rIsi K) (tCons (tVar 4) (tCons (tC (.ty "bool")) tNil))))) (tTest (tOp (rNeU K) (tVar 4) (tVar 5)))) (tRet (tC (.bl false))) tNext) (tIfS (tTr K (tCB (rIsi K) (tCons (tVar 5) (tCons (tC (.ty "int")) tNil)))) (tIfS (tOr (tNot (tTr K (tCall (sp_u_law_whole K) [] E0 (tCons (tVar 4) tNil)))) (tTest (tOp (rNeU K) (tVar 4) (tVar 5)))) (tRet (tC (.bl false))) tNext) (tIfS (tTr K (tCB (rIsi K) (tCons (tVar 5) (tCons (tC (.ty "str")) tNil)))) (tIfS (tOr (tNot (tTr K (tCB (rIsi K) (tCons (tVar 4) (tCons (tC (.ty "str")) tNil))))) (tTest (tOp (rNeU K) (tVar 4) (tVar 5)))) (tRet (tC (.bl false))) tNext) (tSeq (tIfS (tOr (tNot (tTr K (tCB (rIsi K) (tCons (tVar 4) (tCons (tC (.ty "tuple")) tNil))))) (tTest (tOp (rNeU K) (tCB (rLen K) (tCons (tVar 4) tNil)) (tCB (rLen K) (tCons (tVar 5) tNil))))) (tRet (tC (.bl false))) tNext)
 (tFor (iRng1 (tCons (tCB (rLen K) (tCons (tVar 5) tNil)) tNil)) (gName 6) (tDrop (tBM K "list" rAppend (tVar 2) (tCons (tTup (tCons (tOp (rIx K) (tVar 4) (tVar 6)) (tCons (tOp (rIx K) (tVar 5) (tVar 6)) tNil))) tNil))))))))))))
 (tRet (tC (.bl false)))))
theorem dv_u_law_same (T : Txt K mg) (O_u_law_whole : Okd P w K mg base CX0 1 "_law_whole" ["thing"] (sp_u_law_whole K)) {f : Addr} (cdv : Value) (A : Around) (outer : List PySem.Env) (s : Shared) (H : Hp) (E : XK) (hr : Room 1 (A.deeper (envOfC "_law_same" (defScope s_u_law_same) s.heap.objs.size f cdv))) :
    PSs (cxOf CX0 P w K mg base N_u_law_same "_law_same" (defScope s_u_law_same) f cdv A outer s H E) (defBody s_u_law_same) (t_u_law_same K) := by
  have sc := sc_u_law_same
  have pa : PassesOwn (model P w) (cxOf CX0 P w K mg base N_u_law_same "_law_same" (defScope s_u_law_same) f cdv A outer s H E).A (cxOf CX0 P w K mg base N_u_law_same "_law_same" (defScope s_u_law_same) f cdv A outer s H E).env (cxOf CX0 P w K mg base N_u_law_same "_law_same" (defScope s_u_law_same) f cdv A outer s H E).xe := passes_of rfl
  exact (pss_cons (ps_set (i := 2) sc.nd rfl (by first | exact Or.inl rfl | exact Or.inr rfl) (pe_lst (pa_cons (pe_tup (pa_cons (pv 0) (pa_cons (pv 1) pa_nil))) pa_nil)))
 (pss_cons (ps_for pa rfl (pi_range1 rfl T.f_range (pa_cons pe_int pa_nil)) (pg_name (i := 3) sc.nd rfl (by first | exact Or.inl rfl | exact Or.inr rfl)) (pss_cons (ps_if (pt_cmpR (op_eqU hr.units) (pe_callB (r := rLen _) call_len rfl T.f_len b_len (pa_cons (pv 2) pa_nil)) pe_int (nomark _)) (pss_one (ps_ret pe_bl)) pss_nil)
 (pss_cons (ps_asg (pe_bm0 PySem.F.plainAttrs_list PySem.F.slot_list_pop PySem.F.type_list_pop mt_pop (pv 2)) (pg_tup rfl (pgs_cons (pg_name (i := 4) sc.nd rfl (by first | exact Or.inl rfl | exact Or.inr rfl)) (pgs_cons (pg_name (i := 5) sc.nd rfl (by first | exact Or.inl rfl | exact Or.inr rfl)) pgs_nil))))
 (pss_one (ps_if (pt_cmp (pc_isN (pv 5))) (pss_one (ps_if (pt_cmp (pc_notN (pv 4))) (pss_one (ps_ret pe_bl)) pss_nil)) (pss_one (ps_if (pt_tr (pe_callB (r := rIsi _) call_isi rfl T.f_isinstance b_isinstance (pa_cons (pv 5) (pa_cons (pe_bltn (v := .ty "bool") rfl T.f_bool b_bool rfl) pa_nil)))) (pss_one (ps_if (PW.pt (pw_or (pt_not (pt_tr (pe_callB (r := rIsi _) call_isi rfl T.f_isinstance b_isinstance (pa_cons (pv 4) (pa_cons (pe_bltn (v := .ty "bool") rfl T.f_bool b_bool rfl) pa_nil))))) (pw_or1 (pt_cmpR (op_neU hr.units) (pv 4) (pv 5) (nomark _))))) (pss_one (ps_ret pe_bl)) pss_nil)) (pss_one (ps_if (pt_tr (pe_callB (r := rIsi _) call_isi rfl T.f_isinstance b_isinstance (pa_cons (pv 5) (pa_cons (pe_bltn (v := .ty "int") rfl T.f_int b_int rfl) pa_nil)))) (pss_one (ps_if (PW.pt (pw_or (pt_not (pt_tr (pe_callD O_u_law_whole hr (by decide) (pa_cons (pv 4) pa_nil)))) (pw_or1 (pt_cmpR (op_neU hr.units) (pv 4) (pv 5) (nomark _))))) (pss_one (ps_ret pe_bl)) pss_nil)) (pss_one (ps_if (pt_tr (pe_callB (r := rIsi _) call_isi rfl T.f_isinstance b_isinstance (pa_cons (pv 5) (pa_cons (pe_bltn (v := .ty "str") rfl T.f_str b_str rfl) pa_nil)))) (pss_one (ps_if (PW.pt (pw_or (pt_not (pt_tr (pe_callB (r := rIsi _) call_isi rfl T.f_isinstance b_isinstance (pa_cons (pv 4) (pa_cons (pe_bltn (v := .ty "str") rfl T.f_str b_str rfl) pa_nil))))) (pw_or1 (pt_cmpR (op_neU hr.units) (pv 4) (pv 5) (nomark _))))) (pss_one (ps_ret pe_bl)) pss_nil)) (pss_cons (ps_if (PW.pt (pw_or (pt_not (pt_tr (pe_callB (r := rIsi _) call_isi rfl T.f_isinstance b_isinstance (pa_cons (pv 4) (pa_cons (pe_bltn (v := .ty "tuple") rfl T.f_tuple b_tuple rfl) pa_nil))))) (pw_or1 (pt_cmpR (op_neU hr.units) (pe_callB (r := rLen _) call_len rfl T.f_len b_len (pa_cons (pv 4) pa_nil)) (pe_callB (r := rLen _) call_len rfl T.f_len b_len (pa_cons (pv 5) pa_nil)) (nomark _))))) (pss_one (ps_ret pe_bl)) pss_nil)
 (pss_one (ps_for pa rfl (pi_range1 rfl T.f_range (pa_cons (pe_callB (r := rLen _) call_len rfl T.f_len b_len (pa_cons (pv 5) pa_nil)) pa_nil)) (pg_name (i := 6) sc.nd rfl (by first | exact Or.inl rfl | exact Or.inr rfl)) (pss_one (ps_expr (pe_bm PySem.F.plainAttrs_list PySem.F.slot_list_append PySem.F.type_list_append mt_append (pv 2) (pa_cons (pe_tup (pa_cons (pe_ix ix_seq (pv 4) (pv 6) (fun _ _ => rfl)) (pa_cons (pe_ix ix_seq (pv 5) (pv 6) (fun _ _ => rfl)) pa_nil))) pa_nil))))))))))))))))))
 (pss_one (ps_ret pe_bl))))
def t_u_law_signs (K : PySem.W.Frag) : TS := (tRet (tSl (rSlU K) (tC (.str "abcdefghijklmnopqrstuvwxyzABCDEFGHIJKLMN")) tNoPart (tPart (tVar 0))))
theorem dv_u_law_signs (T : Txt K mg)  {f : Addr} (cdv : Value) (A : Around) (outer : List PySem.Env) (s : Shared) (H : Hp) (E : XK) (hr : Room 0 (A.deeper (envOfC "_law_signs" (defScope s_u_law_signs) s.heap.objs.size f cdv))) :
    PSs (cxOf CX0 P w K mg base N_u_law_signs "_law_signs" (defScope s_u_law_signs) f cdv A outer s H E) (defBody s_u_law_signs) (t_u_law_signs K) := by
  have sc := sc_u_law_signs
  exact (pss_one (ps_ret (pe_slice sl_U pe_str po_none (po_some (pv 0)))))
def t_u_law_picture (K : PySem.W.Frag) : TS := (tSeq (tAsg (tVar 0) (gTup K 4 (gCons (gName 2) (gCons (gName 3) (gCons (gName 4) (gCons (gName 5) gNil))))))
 (tSeq (tAsg (tLst tNil) (gName 6))
 (tSeq (tFor (iRng1 (tCons (tVar 4) tNil)) (gName 7) (tSeq (tAsg (tCB (rSortKT K) (tCons (tLc (iRng1 (tCons (tCB (rLen K) (tCons (tVar 2) tNil)) tNil)) (gName 9) (tTest (tChain rLeU rLtU (tOp (rIx K) (tOp (rIx K) (tVar 5) (tVar 9)) (tC (.int 1))) (tVar 7) (tOp (rIx K) (tOp (rIx K) (tVar 5) (tVar 9)) (tC (.int 3))))) (tTup (tCons (tOp (rIx K) (tOp (rIx K) (tVar 5) (tVar 9)) (tC (.int 0))) (tCons (tOp (rIx K) (tOp (rIx K) (tVar 5) (tVar 9)) (tC (.int 2))) (tCons (tOp (rIx K) (tVar 1) (tVar 9)) tNil)))) [9]) tNil)) (gName 8))
 (tDrop (tBM K "list" rAppend (tVar 6) (tCons (tM1 (rJoinU K) (tC (.str "")) (tLc (iSeqU K (tVar 8)) (gTup K 3 (gCons (gName 10) (gCons (gName 11) (gCons (gName 12) gNil)))) tYes (tOp rMulU (tVar 12) (tOp rSubU (tVar 11) (tVar 10))) [10, 11, 12])) tNil)))))
 (tSeq (tAsg (tOp (rAddU K) (tRevL K (tVar 6)) (tLst (tCons (tC (.str "--")) tNil))) (gName 6))
 (tRet (tOp (rAddU K) (tVar 6) (tLc (iRng1 (tCons (tCB (rLen K) (tCons (tVar 2) tNil)) tNil)) (gName 9) tYes (tOp (rAddU K) (tOp (rAddU K) (tOp (rIx K) (tVar 1) (tVar 9)) (tC (.str " "))) (tOp (rIx K) (tVar 2) (tVar 9))) [9])))))))
theorem dv_u_law_picture (T : Txt K mg)  {f : Addr} (cdv : Value) (A : Around) (outer : List PySem.Env) (s : Shared) (H : Hp) (E : XK) (hr : Room 0 (A.deeper (envOfC "_law_picture" (defScope s_u_law_picture) s.heap.objs.size f cdv))) :
    PSs (cxOf CX0 P w K mg base N_u_law_picture "_law_picture" (defScope s_u_law_picture) f cdv A outer s H E) (defBody s_u_law_picture) (t_u_law_picture K) := by
  have sc := sc_u_law_picture
  have pa : PassesOwn (model P w) (cxOf CX0 P w K mg base N_u_law_picture "_law_picture" (defScope s_u_law_picture) f cdv A outer s H E).A (cxOf CX0 P w K mg base N_u_law_picture "_law_picture" (defScope s_u_law_picture) f cdv A outer s H E).env (cxOf CX0 P w K mg base N_u_law_picture "_law_picture" (defScope s_u_law_picture) f cdv A outer s H E).xe := passes_of rfl
  exact (pss_cons (ps_asg (pv 0) (pg_tup rfl (pgs_cons (pg_name (i := 2) sc.nd rfl (by first | exact Or.inl rfl | exact Or.inr rfl)) (pgs_cons (pg_name (i := 3) sc.nd rfl (by first | exact Or.inl rfl | exact Or.inr rfl)) (pgs_cons (pg_name (i := 4) sc.nd rfl (by first | exact Or.inl rfl | exact Or.inr rfl)) (pgs_cons (pg_name (i := 5) sc.nd rfl (by first | exact Or.inl rfl | exact Or.inr rfl)) pgs_nil))))))
 (pss_cons (ps_set (i := 6) sc.nd rfl (by first | exact Or.inl rfl | exact Or.inr rfl) (pe_lst pa_nil))
 (pss_cons (ps_for pa rfl (pi_range1 rfl T.f_range (pa_cons (pv 4) pa_nil)) (pg_name (i := 7) sc.nd rfl (by first | exact Or.inl rfl | exact Or.inr rfl)) (pss_cons (ps_set (i := 8) sc.nd rfl (by first | exact Or.inl rfl | exact Or.inr rfl) (pe_callB (r := rSortKT _) call_sortKT rfl T.f_sorted b_sorted (pa_cons (pe_lc (own := [("k", 9)]) (g := (gName 9)) (tt := (tTest (tChain rLeU rLtU (tOp (rIx K) (tOp (rIx K) (tVar 5) (tVar 9)) (tC (.int 1))) (tVar 7) (tOp (rIx K) (tOp (rIx K) (tVar 5) (tVar 9)) (tC (.int 3)))))) rfl sc.nd (pi_range1 rfl T.f_range (pa_cons (pe_callB (r := rLen _) call_len rfl T.f_len b_len (pa_cons (pv 2) pa_nil)) pa_nil)) (blkOk_by (own := [("k", 9)]) (N := N_u_law_picture) (sc := defScope s_u_law_picture) (by decide +kernel)) (fun _ _ _ _ _ => (pg_name (i := 9) sc.nd rfl (by first | exact Or.inl rfl | exact Or.inr rfl))) (fun _ _ _ _ _ => (pts_one (pt_chain op_leU op_ltU (pe_ix ix_seq (pe_ix ix_seq (pv 5) (pv 9) (fun _ _ => rfl)) pe_int (fun _ _ => rfl)) (pv 7) (pe_ix ix_seq (pe_ix ix_seq (pv 5) (pv 9) (fun _ _ => rfl)) pe_int (fun _ _ => rfl))))) (fun _ _ _ _ _ => (pe_tup (pa_cons (pe_ix ix_seq (pe_ix ix_seq (pv 5) (pv 9) (fun _ _ => rfl)) pe_int (fun _ _ => rfl)) (pa_cons (pe_ix ix_seq (pe_ix ix_seq (pv 5) (pv 9) (fun _ _ => rfl)) pe_int (fun _ _ => rfl)) (pa_cons (pe_ix ix_seq (pv 1) (pv 9) (fun _ _ => rfl)) pa_nil)))))) pa_nil)))
 (pss_one (ps_expr (pe_bm PySem.F.plainAttrs_list PySem.F.slot_list_append PySem.F.type_list_append mt_append (pv 6) (pa_cons (pe_joinU pe_str (pe_lc (own := [("west", 10), ("east", 11), ("sign", 12)]) (g := (gTup K 3 (gCons (gName 10) (gCons (gName 11) (gCons (gName 12) gNil))))) (tt := tYes) rfl sc.nd (pi_seqU (pv 8)) (blkOk_by (own := [("west", 10), ("east", 11), ("sign", 12)]) (N := N_u_law_picture) (sc := defScope s_u_law_picture) (by decide +kernel)) (fun _ _ _ _ _ => (pg_tup rfl (pgs_cons (pg_name (i := 10) sc.nd rfl (by first | exact Or.inl rfl | exact Or.inr rfl)) (pgs_cons (pg_name (i := 11) sc.nd rfl (by first | exact Or.inl rfl | exact Or.inr rfl)) (pgs_cons (pg_name (i := 12) sc.nd rfl (by first | exact Or.inl rfl | exact Or.inr rfl)) pgs_nil))))) (fun _ _ _ _ _ => pts_nil) (fun _ _ _ _ _ => (pe_op op_mulU (pv 12) (pe_op op_sub (pv 11) (pv 10)))))) pa_nil))))))
 (pss_cons (ps_set (i := 6) sc.nd rfl (by first | exact Or.inl rfl | exact Or.inr rfl) (pe_op op_addU (pe_revL (pv 6)) (pe_lst (pa_cons pe_str pa_nil))))
 (pss_one (ps_ret (pe_op op_addU (pv 6) (pe_lc (own := [("k", 9)]) (g := (gName 9)) (tt := tYes) rfl sc.nd (pi_range1 rfl T.f_range (pa_cons (pe_callB (r := rLen _) call_len rfl T.f_len b_len (pa_cons (pv 2) pa_nil)) pa_nil)) (blkOk_by (own := [("k", 9)]) (N := N_u_law_picture) (sc := defScope s_u_law_picture) (by decide +kernel)) (fun _ _ _ _ _ => (pg_name (i := 9) sc.nd rfl (by first | exact Or.inl rfl | exact Or.inr rfl))) (fun _ _ _ _ _ => pts_nil) (fun _ _ _ _ _ => (pe_op op_addU (pe_op op_addU (pe_ix ix_seq (pv 1) (pv 9) (fun _ _ => rfl)) pe_str) (pe_ix ix_seq (pv 2) (pv 9) (fun _ _ => rfl))))))))))))
def t_u_law_name (K : PySem.W.Frag) : TS := (tSeq (tIfS (tOr (tTest (tOp rLtU (tCB (rLen K) (tCons (tVar 0) tNil)) (tC (.int 1)))) (tTest (tOp rGtU (tCB (rLen K) (tCons (tVar 0) tNil)) (tC (.int 8))))) (tRet (tC (.bl false))) tNext)
 (tSeq (tFor (iRng1 (tCons (tCB (rLen K) (tCons (tVar 0) tNil)) tNil)) (gName 1) (tIfS (tAnd (tTest (tOp (rNinU K) (tOp (rIx K) (tVar 0) (tVar 1)) (tC (.str "abcdefghijklmnopqrstuvwxyz")))) (tOr (tTest (tOp (rEqU K) (tVar 1) (tC (.int 0)))) (tTest (tOp (rNinU K) (tOp (rIx K) (tVar 0) (tVar 1)) (tC (.str "0123456789")))))) (tRet (tC (.bl false))) tNext))
 (tRet (tC (.bl true)))))
theorem dv_u_law_name (T : Txt K mg)  {f : Addr} (cdv : Value) (A : Around) (outer : List PySem.Env) (s : Shared) (H : Hp) (E : XK) (hr : Room 0 (A.deeper (envOfC "_law_name" (defScope s_u_law_name) s.heap.objs.size f cdv))) :
    PSs (cxOf CX0 P w K mg base N_u_law_name "_law_name" (defScope s_u_law_name) f cdv A outer s H E) (defBody s_u_law_name) (t_u_law_name K) := by
  have sc := sc_u_law_name
  have pa : PassesOwn (model P w) (cxOf CX0 P w K mg base N_u_law_name "_law_name" (defScope s_u_law_name) f cdv A outer s H E).A (cxOf CX0 P w K mg base N_u_law_name "_law_name" (defScope s_u_law_name) f cdv A outer s H E).env (cxOf CX0 P w K mg base N_u_law_name "_law_name" (defScope s_u_law_name) f cdv A outer s H E).xe := passes_of rfl
  exact (pss_cons (ps_if (PW.pt (pw_or (pt_cmpR op_ltU (pe_callB (r := rLen _) call_len rfl T.f_len b_len (pa_cons (pv 0) pa_nil)) pe_int (nomark _)) (pw_or1 (pt_cmpR op_gtU (pe_callB (r := rLen _) call_len rfl T.f_len b_len (pa_cons (pv 0) pa_nil)) pe_int (nomark _))))) (pss_one (ps_ret pe_bl)) pss_nil)
 (pss_cons (ps_for pa rfl (pi_range1 rfl T.f_range (pa_cons (pe_callB (r := rLen _) call_len rfl T.f_len b_len (pa_cons (pv 0) pa_nil)) pa_nil)) (pg_name (i := 1) sc.nd rfl (by first | exact Or.inl rfl | exact Or.inr rfl)) (pss_one (ps_if (PW.pt (pw_and (pt_cmpR op_ninU (pe_ix ix_seq (pv 0) (pv 1) (fun _ _ => rfl)) pe_str rfl) (pw_and1 (PW.pt (pw_or (pt_cmpR (op_eqU hr.units) (pv 1) pe_int (nomark _)) (pw_or1 (pt_cmpR op_ninU (pe_ix ix_seq (pv 0) (pv 1) (fun _ _ => rfl)) pe_str rfl))))))) (pss_one (ps_ret pe_bl)) pss_nil)))
 (pss_one (ps_ret pe_bl))))
def t_u_law_told (K : PySem.W.Frag) : TS := (tSeq (tAsg (tLst tNil) (gName 2))
 (tSeq (tAsg (tLst tNil) (gName 3))
 (tSeq (tFor (iRng2 (tCons (tOp (rAddU K) (tVar 1) (tC (.int 1))) (tCons (tCB (rLen K) (tCons (tVar 0) tNil)) tNil))) (gName 4) (tSeq (tAsg (tLc (iSeqU K (tM1 rSplitU (tOp (rIx K) (tVar 0) (tVar 4)) (tC (.str " ")))) (gName 6) (tTest (tOp (rNeU K) (tVar 6) (tC (.str "")))) (tVar 6) [6]) (gName 5))
 (tSeq (tIfS (tTest (tOp (rNeU K) (tCB (rLen K) (tCons (tVar 5) tNil)) (tC (.int 2)))) (tRet (tTup (tCons (tTup (tCons (tOp (rAddU K) (tVar 4) (tC (.int 1))) (tCons (tC (.str "words")) tNil))) (tCons (tLst tNil) (tCons (tLst tNil) tNil))))) tNext)
 (tSeq (tIfS (tOr (tTest (tOp (rNeU K) (tCB (rLen K) (tCons (tOp (rIx K) (tVar 5) (tC (.int 0))) tNil)) (tC (.int 1)))) (tTest (tOp (rNinU K) (tOp (rIx K) (tVar 5) (tC (.int 0))) (tCall (sp_u_law_signs K) [] E0 (tCons (tC (.int 40)) tNil))))) (tRet (tTup (tCons (tTup (tCons (tOp (rAddU K) (tVar 4) (tC (.int 1))) (tCons (tC (.str "sign")) tNil))) (tCons (tLst tNil) (tCons (tLst tNil) tNil))))) tNext)
 (tSeq (tIfS (tNot (tTr K (tCall (sp_u_law_name K) [] E0 (tCons (tOp (rIx K) (tVar 5) (tC (.int 1))) tNil)))) (tRet (tTup (tCons (tTup (tCons (tOp (rAddU K) (tVar 4) (tC (.int 1))) (tCons (tC (.str "name")) tNil))) (tCons (tLst tNil) (tCons (tLst tNil) tNil))))) tNext)
 (tSeq (tIfS (tTest (tOp (rInU K) (tOp (rIx K) (tVar 5) (tC (.int 0))) (tVar 2))) (tRet (tTup (tCons (tTup (tCons (tOp (rAddU K) (tVar 4) (tC (.int 1))) (tCons (tC (.str "twice")) tNil))) (tCons (tLst tNil) (tCons (tLst tNil) tNil))))) tNext)
 (tSeq (tIfS (tAnd (tTest (tOp rGtU (tCB (rLen K) (tCons (tVar 3) tNil)) (tC (.int 0)))) (tNot (tTest (tOp rLtU (tOp (rIx K) (tVar 3) (tOp rSubU (tCB (rLen K) (tCons (tVar 3) tNil)) (tC (.int 1)))) (tOp (rIx K) (tVar 5) (tC (.int 1))))))) (tRet (tTup (tCons (tTup (tCons (tOp (rAddU K) (tVar 4) (tC (.int 1))) (tCons (tC (.str "order")) tNil))) (tCons (tLst tNil) (tCons (tLst tNil) tNil))))) tNext)
 (tSeq (tDrop (tBM K "list" rAppend (tVar 2) (tCons (tOp (rIx K) (tVar 5) (tC (.int 0))) tNil)))
 (tDrop (tBM K "list" rAppend (tVar 3) (tCons (tOp (rIx K) (tVar 5) (tC (.int 1))) tNil)))))))))))
 (tSeq (tIfS (tTest (tOp (rEqU K) (tCB (rLen K) (tCons (tVar 3) tNil)) (tC (.int 0)))) (tRet (tTup (tCons (tTup (tCons (tOp (rAddU K) (tCB (rLen K) (tCons (tVar 0) tNil)) (tC (.int 1))) (tCons (tC (.str "lacks")) tNil))) (tCons (tLst tNil) (tCons (tLst tNil) tNil))))) tNext)
 (tRet (tTup (tCons (tC .non) (tCons (tVar 2) (tCons (tVar 3) tNil)))))))))
theorem dv_u_law_told (T : Txt K mg) (O_u_law_name : Okd P w K mg base CX0 1 "_law_name" ["thing"] (sp_u_law_name K)) (O_u_law_signs : Okd P w K mg base CX0 1 "_law_signs" ["many"] (sp_u_law_signs K)) {f : Addr} (cdv : Value) (A : Around) (outer : List PySem.Env) (s : Shared) (H : Hp) (E : XK) (hr : Room 1 (A.deeper (envOfC "_law_told" (defScope s_u_law_told) s.heap.objs.size f cdv))) :
    PSs (cxOf CX0 P w K mg base N_u_law_told "_law_told" (defScope s_u_law_told) f cdv A outer s H E) (defBody s_u_law_told) (t_u_law_told K) := by
  have sc := sc_u_law_told
  have pa : PassesOwn (model P w) (cxOf CX0 P w K mg base N_u_law_told "_law_told" (defScope s_u_law_told) f cdv A outer s H E).A (cxOf CX0 P w K mg base N_u_law_told "_law_told" (defScope s_u_law_told) f cdv A outer s H E).env (cxOf CX0 P w K mg base N_u_law_told "_law_told" (defScope s_u_law_told) f cdv A outer s H E).xe := passes_of rfl
  exact (pss_cons (ps_set (i := 2) sc.nd rfl (by first | exact Or.inl rfl | exact Or.inr rfl) (pe_lst pa_nil))
 (pss_cons (ps_set (i := 3) sc.nd rfl (by first | exact Or.inl rfl | exact Or.inr rfl) (pe_lst pa_nil))
 (pss_cons (ps_for pa rfl (pi_range2 rfl T.f_range (pa_cons (pe_op op_addU (pv 1) pe_int) (pa_cons (pe_callB (r := rLen _) call_len rfl T.f_len b_len (pa_cons (pv 0) pa_nil)) pa_nil))) (pg_name (i := 4) sc.nd rfl (by first | exact Or.inl rfl | exact Or.inr rfl)) (pss_cons (ps_setLc (i := 5) (own := [("word", 6)]) (g := (gName 6)) (tt := (tTest (tOp (rNeU K) (tVar 6) (tC (.str ""))))) rfl sc.nd rfl rfl (sw_true rfl rfl rfl (by decide +kernel)) (pi_seqU (pe_splitU (pe_ix ix_seq (pv 0) (pv 4) (fun _ _ => rfl)) pe_str)) (blkOk_by (own := [("word", 6)]) (N := N_u_law_told) (sc := defScope s_u_law_told) (by decide +kernel)) (fun _ _ _ _ _ => (pg_name (i := 6) sc.nd rfl (by first | exact Or.inl rfl | exact Or.inr rfl))) (fun _ _ _ _ _ => (pts_one (pt_cmpR (op_neU hr.units) (pv 6) pe_str (nomark _)))) (fun _ _ _ _ _ => (pv 6)))
 (pss_cons (ps_if (pt_cmpR (op_neU hr.units) (pe_callB (r := rLen _) call_len rfl T.f_len b_len (pa_cons (pv 5) pa_nil)) pe_int (nomark _)) (pss_one (ps_ret (pe_tup (pa_cons (pe_tup (pa_cons (pe_op op_addU (pv 4) pe_int) (pa_cons pe_str pa_nil))) (pa_cons (pe_lst pa_nil) (pa_cons (pe_lst pa_nil) pa_nil)))))) pss_nil)
 (pss_cons (ps_if (PW.pt (pw_or (pt_cmpR (op_neU hr.units) (pe_callB (r := rLen _) call_len rfl T.f_len b_len (pa_cons (pe_ix ix_seq (pv 5) pe_int (fun _ _ => rfl)) pa_nil)) pe_int (nomark _)) (pw_or1 (pt_cmpR op_ninU (pe_ix ix_seq (pv 5) pe_int (fun _ _ => rfl)) (pe_callD O_u_law_signs hr (by decide) (pa_cons pe_int pa_nil)) rfl)))) (pss_one (ps_ret (pe_tup (pa_cons (pe_tup (pa_cons (pe_op op_addU (pv 4) pe_int) (pa_cons pe_str pa_nil))) (pa_cons (pe_lst pa_nil) (pa_cons (pe_lst pa_nil) pa_nil)))))) pss_nil)
 (pss_cons (ps_if (pt_not (pt_tr (pe_callD O_u_law_name hr (by decide) (pa_cons (pe_ix ix_seq (pv 5) pe_int (fun _ _ => rfl)) pa_nil)))) (pss_one (ps_ret (pe_tup (pa_cons (pe_tup (pa_cons (pe_op op_addU (pv 4) pe_int) (pa_cons pe_str pa_nil))) (pa_cons (pe_lst pa_nil) (pa_cons (pe_lst pa_nil) pa_nil)))))) pss_nil)
 (pss_cons (ps_if (pt_cmpR op_inU (pe_ix ix_seq (pv 5) pe_int (fun _ _ => rfl)) (pv 2) rfl) (pss_one (ps_ret (pe_tup (pa_cons (pe_tup (pa_cons (pe_op op_addU (pv 4) pe_int) (pa_cons pe_str pa_nil))) (pa_cons (pe_lst pa_nil) (pa_cons (pe_lst pa_nil) pa_nil)))))) pss_nil)
 (pss_cons (ps_if (PW.pt (pw_and (pt_cmpR op_gtU (pe_callB (r := rLen _) call_len rfl T.f_len b_len (pa_cons (pv 3) pa_nil)) pe_int (nomark _)) (pw_and1 (pt_not (pt_cmpR op_ltU (pe_ix ix_seq (pv 3) (pe_op op_sub (pe_callB (r := rLen _) call_len rfl T.f_len b_len (pa_cons (pv 3) pa_nil)) pe_int) (fun _ _ => rfl)) (pe_ix ix_seq (pv 5) pe_int (fun _ _ => rfl)) (nomark _)))))) (pss_one (ps_ret (pe_tup (pa_cons (pe_tup (pa_cons (pe_op op_addU (pv 4) pe_int) (pa_cons pe_str pa_nil))) (pa_cons (pe_lst pa_nil) (pa_cons (pe_lst pa_nil) pa_nil)))))) pss_nil)
 (pss_cons (ps_expr (pe_bm PySem.F.plainAttrs_list PySem.F.slot_list_append PySem.F.type_list_append mt_append (pv 2) (pa_cons (pe_ix ix_seq (pv 5) pe_int (fun _ _ => rfl)) pa_nil)))
 (pss_one (ps_expr (pe_bm PySem.F.plainAttrs_list PySem.F.slot_list_append PySem.F.type_list_append mt_append (pv 3) (pa_cons (pe_ix ix_seq (pv 5) pe_int (fun _ _ => rfl)) pa_nil))))))))))))
 (pss_cons (ps_if (pt_cmpR (op_eqU hr.units) (pe_callB (r := rLen _) call_len rfl T.f_len b_len (pa_cons (pv 3) pa_nil)) pe_int (nomark _)) (pss_one (ps_ret (pe_tup (pa_cons (pe_tup (pa_cons (pe_op op_addU (pe_callB (r := rLen _) call_len rfl T.f_len b_len (pa_cons (pv 0) pa_nil)) pe_int) (pa_cons pe_str pa_nil))) (pa_cons (pe_lst pa_nil) (pa_cons (pe_lst pa_nil) pa_nil)))))) pss_nil)
 (pss_one (ps_ret (pe_tup (pa_cons pe_non (pa_cons (pv 2) (pa_cons (pv 3) pa_nil))))))))))
def t_u_law_grid (K : PySem.W.Frag) : TS := (tSeq (tFor (iRng1 (tCons (tVar 1) tNil)) (gName 3) (tSeq (tIfS (tOr (tTest (tOp (rEqU K) (tOp (rIx K) (tVar 0) (tVar 3)) (tC (.str "")))) (tTest (tOp (rNeU K) (tCB (rLen K) (tCons (tOp (rIx K) (tVar 0) (tVar 3)) tNil)) (tCB (rLen K) (tCons (tOp (rIx K) (tVar 0) (tC (.int 0))) tNil))))) (tRet (tTup (tCons (tOp (rAddU K) (tVar 3) (tC (.int 1))) (tCons (tC (.str "width")) tNil)))) tNext)
 (tSeq (tIfS (tOr (tTest (tOp rGtU (tCB (rLen K) (tCons (tOp (rIx K) (tVar 0) (tVar 3)) tNil)) (tC (.int 160)))) (tTest (tOp rGtU (tVar 3) (tC (.int 159))))) (tRet (tTup (tCons (tOp (rAddU K) (tVar 3) (tC (.int 1))) (tCons (tC (.str "limit")) tNil)))) tNext)
 (tFor (iSeqU K (tOp (rIx K) (tVar 0) (tVar 3))) (gName 4) (tIfS (tTest (tOp (rNinU K) (tVar 4) (tVar 2))) (tRet (tTup (tCons (tOp (rAddU K) (tVar 3) (tC (.int 1))) (tCons (tC (.str "unknown")) tNil)))) tNext)))))
 (tRet (tIf (tTest (tOp (rEqU K) (tVar 1) (tC (.int 0)))) (tTup (tCons (tC (.int 1)) (tCons (tC (.str "width")) tNil))) (tC .non))))
theorem dv_u_law_grid (T : Txt K mg)  {f : Addr} (cdv : Value) (A : Around) (outer : List PySem.Env) (s : Shared) (H : Hp) (E : XK) (hr : Room 0 (A.deeper (envOfC "_law_grid" (defScope s_u_law_grid) s.heap.objs.size f cdv))) :
    PSs (cxOf CX0 P w K mg base N_u_law_grid "_law_grid" (defScope s_u_law_grid) f cdv A outer s H E) (defBody s_u_law_grid) (t_u_law_grid K) := by
  have sc := sc_u_law_grid
  have pa : PassesOwn (model P w) (cxOf CX0 P w K mg base N_u_law_grid "_law_grid" (defScope s_u_law_grid) f cdv A outer s H E).A (cxOf CX0 P w K mg base N_u_law_grid "_law_grid" (defScope s_u_law_grid) f cdv A outer s H E).env (cxOf CX0 P w K mg base N_u_law_grid "_law_grid" (defScope s_u_law_grid) f cdv A outer s H E).xe := passes_of rfl
  exact (pss_cons (ps_for pa rfl (pi_range1 rfl T.f_range (pa_cons (pv 1) pa_nil)) (pg_name (i := 3) sc.nd rfl (by first | exact Or.inl rfl | exact Or.inr rfl)) (pss_cons (ps_if (PW.pt (pw_or (pt_cmpR (op_eqU hr.units) (pe_ix ix_seq (pv 0) (pv 3) (fun _ _ => rfl)) pe_str (nomark _)) (pw_or1 (pt_cmpR (op_neU hr.units) (pe_callB (r := rLen _) call_len rfl T.f_len b_len (pa_cons (pe_ix ix_seq (pv 0) (pv 3) (fun _ _ => rfl)) pa_nil)) (pe_callB (r := rLen _) call_len rfl T.f_len b_len (pa_cons (pe_ix ix_seq (pv 0) pe_int (fun _ _ => rfl)) pa_nil)) (nomark _))))) (pss_one (ps_ret (pe_tup (pa_cons (pe_op op_addU (pv 3) pe_int) (pa_cons pe_str pa_nil))))) pss_nil)
 (pss_cons (ps_if (PW.pt (pw_or (pt_cmpR op_gtU (pe_callB (r := rLen _) call_len rfl T.f_len b_len (pa_cons (pe_ix ix_seq (pv 0) (pv 3) (fun _ _ => rfl)) pa_nil)) pe_int (nomark _)) (pw_or1 (pt_cmpR op_gtU (pv 3) pe_int (nomark _))))) (pss_one (ps_ret (pe_tup (pa_cons (pe_op op_addU (pv 3) pe_int) (pa_cons pe_str pa_nil))))) pss_nil)
 (pss_one (ps_for pa rfl (pi_seqU (pe_ix ix_seq (pv 0) (pv 3) (fun _ _ => rfl))) (pg_name (i := 4) sc.nd rfl (by first | exact Or.inl rfl | exact Or.inr rfl)) (pss_one (ps_if (pt_cmpR op_ninU (pv 4) (pv 2) rfl) (pss_one (ps_ret (pe_tup (pa_cons (pe_op op_addU (pv 3) pe_int) (pa_cons pe_str pa_nil))))) pss_nil)))))))
 (pss_one (ps_ret (pe_ifExp (pt_cmpR (op_eqU hr.units) (pv 1) pe_int (nomark _)) (pe_tup (pa_cons pe_int (pa_cons pe_str pa_nil))) pe_non))))
def t_u_law_found (K : PySem.W.Frag) : TS := (tSeq (tAsg tDNewK (gName 3))
 (tSeq (tFor (iRng1 (tCons (tVar 1) tNil)) (gName 4) (tFor (iSeqU K (tVar 2)) (gName 5) (tSeq (tAsg (tM1 rFindU (tOp (rIx K) (tVar 0) (tVar 4)) (tVar 5)) (gName 6))
 (tIfS (tTest (tOp rGeU (tVar 6) (tC (.int 0)))) (tSeq (tAsg (tOp (rAddU K) (tM1 rRfindU (tOp (rIx K) (tVar 0) (tVar 4)) (tVar 5)) (tC (.int 1))) (gName 7))
 (tSeq (tAsg (tDGet2 (tVar 3) (tVar 5) (tTup (tCons (tVar 6) (tCons (tOp rSubU (tOp rSubU (tVar 1) (tC (.int 1))) (tVar 4)) (tCons (tVar 7) (tCons (tOp rSubU (tVar 1) (tVar 4)) (tCons (tC (.int 0)) tNil))))))) (gName 8))
 (tSeq (tAsg (tOp (rAddU K) (tOp (rIx K) (tVar 8) (tC (.int 4))) (tM1 rCountU (tOp (rIx K) (tVar 0) (tVar 4)) (tVar 5))) (gName 9))
 (sDPut (tVar 3) (tVar 5) (tTup (tCons (tCB rMin2 (tCons (tOp (rIx K) (tVar 8) (tC (.int 0))) (tCons (tVar 6) tNil))) (tCons (tOp rSubU (tOp rSubU (tVar 1) (tC (.int 1))) (tVar 4)) (tCons (tCB rMax2 (tCons (tOp (rIx K) (tVar 8) (tC (.int 2))) (tCons (tVar 7) tNil))) (tCons (tOp (rIx K) (tVar 8) (tC (.int 3))) (tCons (tVar 9) tNil)))))))))) tNext))))
 (tRet (tVar 3))))
theorem dv_u_law_found (T : Txt K mg)  {f : Addr} (cdv : Value) (A : Around) (outer : List PySem.Env) (s : Shared) (H : Hp) (E : XK) (hr : Room 0 (A.deeper (envOfC "_law_found" (defScope s_u_law_found) s.heap.objs.size f cdv))) :
    PSs (cxOf CX0 P w K mg base N_u_law_found "_law_found" (defScope s_u_law_found) f cdv A outer s H E) (defBody s_u_law_found) (t_u_law_found K) := by
  have sc := sc_u_law_found
  have pa : PassesOwn (model P w) (cxOf CX0 P w K mg base N_u_law_found "_law_found" (defScope s_u_law_found) f cdv A outer s H E).A (cxOf CX0 P w K mg base N_u_law_found "_law_found" (defScope s_u_law_found) f cdv A outer s H E).env (cxOf CX0 P w K mg base N_u_law_found "_law_found" (defScope s_u_law_found) f cdv A outer s H E).xe := passes_of rfl
  exact (pss_cons (ps_set (i := 3) sc.nd rfl (by first | exact Or.inl rfl | exact Or.inr rfl) pe_dnewK)
 (pss_cons (ps_for pa rfl (pi_range1 rfl T.f_range (pa_cons (pv 1) pa_nil)) (pg_name (i := 4) sc.nd rfl (by first | exact Or.inl rfl | exact Or.inr rfl)) (pss_one (ps_for pa rfl (pi_seqU (pv 2)) (pg_name (i := 5) sc.nd rfl (by first | exact Or.inl rfl | exact Or.inr rfl)) (pss_cons (ps_set (i := 6) sc.nd rfl (by first | exact Or.inl rfl | exact Or.inr rfl) (pe_findU (pe_ix ix_seq (pv 0) (pv 4) (fun _ _ => rfl)) (pv 5)))
 (pss_one (ps_if (pt_cmpR op_geU (pv 6) pe_int (nomark _)) (pss_cons (ps_set (i := 7) sc.nd rfl (by first | exact Or.inl rfl | exact Or.inr rfl) (pe_op op_addU (pe_rfindU (pe_ix ix_seq (pv 0) (pv 4) (fun _ _ => rfl)) (pv 5)) pe_int))
 (pss_cons (ps_set (i := 8) sc.nd rfl (by first | exact Or.inl rfl | exact Or.inr rfl) (pe_dget2 (hu_of hr) (pv 3) (pv 5) (pe_tup (pa_cons (pv 6) (pa_cons (pe_op op_sub (pe_op op_sub (pv 1) pe_int) (pv 4)) (pa_cons (pv 7) (pa_cons (pe_op op_sub (pv 1) (pv 4)) (pa_cons pe_int pa_nil)))))) ⟨rfl, rfl, rfl, rfl⟩))
 (pss_cons (ps_set (i := 9) sc.nd rfl (by first | exact Or.inl rfl | exact Or.inr rfl) (pe_op op_addU (pe_ix ix_seq (pv 8) pe_int (fun _ _ => rfl)) (pe_countU (pe_ix ix_seq (pv 0) (pv 4) (fun _ _ => rfl)) (pv 5))))
 (pss_one (ps_dput (hu_of hr) (pv 3) (pv 5) (pe_tup (pa_cons (pe_callB (r := rMin2) (call_minI rfl) rfl T.f_min b_min (pa_cons (pe_ix ix_seq (pv 8) pe_int (fun _ _ => rfl)) (pa_cons (pv 6) pa_nil))) (pa_cons (pe_op op_sub (pe_op op_sub (pv 1) pe_int) (pv 4)) (pa_cons (pe_callB (r := rMax2) (call_maxI rfl) rfl T.f_max b_max (pa_cons (pe_ix ix_seq (pv 8) pe_int (fun _ _ => rfl)) (pa_cons (pv 7) pa_nil))) (pa_cons (pe_ix ix_seq (pv 8) pe_int (fun _ _ => rfl)) (pa_cons (pv 9) pa_nil)))))) rfl))))) pss_nil))))))
 (pss_one (ps_ret (pv 3)))))
def t_u_law_due (K : PySem.W.Frag) : TS := (tSeq (tAsg (tIf (tTest (tOp (rNeU K) (tVar 0) (tC (.str "")))) (tM1 rSplitU (tVar 0) (tC (.str "
"))) (tLst tNil)) (gName 1))
 (tSeq (tIfS (tTest (tOp (rNinU K) (tC (.str "--")) (tVar 1))) (tRet (tTup (tCons (tOp (rAddU K) (tCB (rLen K) (tCons (tVar 1) tNil)) (tC (.int 1))) (tCons (tC (.str "place")) tNil)))) tNext)
 (tSeq (tAsg (tBM K "list" (rIndex K) (tVar 1) (tCons (tC (.str "--")) tNil)) (gName 2))
 (tSeq (tAsg (tCall (sp_u_law_told K) [] E0 (tCons (tVar 1) (tCons (tVar 2) tNil))) (gTup K 3 (gCons (gName 3) (gCons (gName 4) (gCons (gName 5) gNil)))))
 (tSeq (tIfS (tB (tIsN (tVar 3))) (tAsg (tCall (sp_u_law_grid K) [] E0 (tCons (tVar 1) (tCons (tVar 2) (tCons (tVar 4) tNil)))) (gName 3)) tNext)
 (tSeq (tIfS (tB (tNotN (tVar 3))) (tRet (tVar 3)) tNext)
 (tSeq (tAsg (tCall (sp_u_law_found K) [] E0 (tCons (tVar 1) (tCons (tVar 2) (tCons (tVar 4) tNil)))) (gName 6))
 (tSeq (tAsg (tLst tNil) (gName 7))
 (tSeq (tFor (iRng1 (tCons (tCB (rLen K) (tCons (tVar 4) tNil)) tNil)) (gName 8) (tSeq (tIfS (tB (tDNotIn (tOp (rIx K) (tVar 4) (tVar 8)) (tVar 6))) (tRet (tTup (tCons (tOp (rAddU K) (tOp (rAddU K) (tVar 2) (tC (.int 2))) (tVar 8)) (tCons (tC (.str "lacks")) tNil)))) tNext)
 (tSeq (tAsg (tDGet (tVar 6) (tOp (rIx K) (tVar 4) (tVar 8))) (gTup K 5 (gCons (gName 9) (gCons (gName 10) (gCons (gName 11) (gCons (gName 12) (gCons (gName 13) gNil)))))))
 (tSeq (tIfS (tTest (tOp (rNeU K) (tVar 13) (tOp rMulU (tOp rSubU (tVar 11) (tVar 9)) (tOp rSubU (tVar 12) (tVar 10))))) (tRet (tTup (tCons (tOp (rAddU K) (tOp (rAddU K) (tVar 2) (tC (.int 2))) (tVar 8)) (tCons (tC (.str "box")) tNil)))) tNext)
 (tDrop (tBM K "list" rAppend (tVar 7) (tCons (tTup (tCons (tVar 9) (tCons (tVar 10) (tCons (tVar 11) (tCons (tVar 12) tNil))))) tNil)))))))
 (tSeq (tFor (iRng1 (tCons (tOp rSubU (tVar 2) (tC (.int 1))) tNil)) (gName 8) (tSeq (tAsg (tTup (tCons (tOp (rIx K) (tVar 1) (tVar 8)) (tCons (tOp (rIx K) (tVar 1) (tOp (rAddU K) (tVar 8) (tC (.int 1)))) tNil))) (gTup K 2 (gCons (gName 14) (gCons (gName 15) gNil))))
 (tSeq (tAsg (tLc (iRng2 (tCons (tC (.int 1)) (tCons (tCB (rLen K) (tCons (tVar 14) tNil)) tNil))) (gName 17) (tTest (tOp (rNeU K) (tOp (rIx K) (tVar 14) (tOp rSubU (tVar 17) (tC (.int 1)))) (tOp (rIx K) (tVar 14) (tVar 17)))) (tVar 17) [17]) (gName 16))
 (tSeq (tAsg (tLc (iSeqU K (tVar 16)) (gName 17) (tTest (tOp (rNeU K) (tOp (rIx K) (tVar 15) (tOp rSubU (tVar 17) (tC (.int 1)))) (tOp (rIx K) (tVar 15) (tVar 17)))) (tVar 17) [17]) (gName 16))
 (tIfS (tTest (tOp rGtU (tCB (rLen K) (tCons (tLc (iSeqU K (tVar 16)) (gName 17) (tAnd (tTest (tOp (rNeU K) (tOp (rIx K) (tVar 14) (tOp rSubU (tVar 17) (tC (.int 1)))) (tOp (rIx K) (tVar 15) (tOp rSubU (tVar 17) (tC (.int 1)))))) (tTest (tOp (rNeU K) (tOp (rIx K) (tVar 14) (tVar 17)) (tOp (rIx K) (tVar 15) (tVar 17))))) (tVar 17) [17]) tNil)) (tC (.int 0)))) (tRet (tTup (tCons (tOp (rAddU K) (tVar 8) (tC (.int 1))) (tCons (tC (.str "four")) tNil)))) tNext)))))
 (tRet (tTup (tCons (tCB (rTupU K) (tCons (tVar 5) tNil)) (tCons (tCB (rLen K) (tCons (tOp (rIx K) (tVar 1) (tC (.int 0))) tNil)) (tCons (tVar 2) (tCons (tCB (rTupU K) (tCons (tVar 7) tNil)) tNil))))))))))))))))
theorem dv_u_law_due (T : Txt K mg) (O_u_law_told : Okd P w K mg base CX0 2 "_law_told" ["lines", "end"] (sp_u_law_told K)) (O_u_law_found : Okd P w K mg base CX0 1 "_law_found" ["lines", "end", "signs"] (sp_u_law_found K)) (O_u_law_grid : Okd P w K mg base CX0 1 "_law_grid" ["lines", "end", "signs"] (sp_u_law_grid K)) {f : Addr} (cdv : Value) (A : Around) (outer : List PySem.Env) (s : Shared) (H : Hp) (E : XK) (hr : Room 2 (A.deeper (envOfC "_law_due" (defScope s_u_law_due) s.heap.objs.size f cdv))) :
    PSs (cxOf CX0 P w K mg base N_u_law_due "_law_due" (defScope s_u_law_due) f cdv A outer s H E) (defBody s_u_law_due) (t_u_law_due K) := by
  have sc := sc_u_law_due
  have pa : PassesOwn (model P w) (cxOf CX0 P w K mg base N_u_law_due "_law_due" (defScope s_u_law_due) f cdv A outer s H E).A (cxOf CX0 P w K mg base N_u_law_due "_law_due" (defScope s_u_law_due) f cdv A outer s H E).env (cxOf CX0 P w K mg base N_u_law_due "_law_due" (defScope s_u_law_due) f cdv A outer s H E).xe := passes_of rfl
  exact (pss_cons (ps_set (i := 1) sc.nd rfl (by first | exact Or.inl rfl | exact Or.inr rfl) (pe_ifExp (pt_cmpR (op_neU hr.units) (pv 0) pe_str (nomark _)) (pe_splitU (pv 0) pe_str) (pe_lst pa_nil)))
 (pss_cons (ps_if (pt_cmpR op_ninU pe_str (pv 1) rfl) (pss_one (ps_ret (pe_tup (pa_cons (pe_op op_addU (pe_callB (r := rLen _) call_len rfl T.f_len b_len (pa_cons (pv 1) pa_nil)) pe_int) (pa_cons pe_str pa_nil))))) pss_nil)
 (pss_cons (ps_set (i := 2) sc.nd rfl (by first | exact Or.inl rfl | exact Or.inr rfl) (pe_bm PySem.F.plainAttrs_list PySem.F.slot_list_index PySem.F.type_list_index mt_index (pv 1) (pa_cons pe_str pa_nil)))
 (pss_cons (ps_asg (pe_callD O_u_law_told hr (by decide) (pa_cons (pv 1) (pa_cons (pv 2) pa_nil))) (pg_tup rfl (pgs_cons (pg_name (i := 3) sc.nd rfl (by first | exact Or.inl rfl | exact Or.inr rfl)) (pgs_cons (pg_name (i := 4) sc.nd rfl (by first | exact Or.inl rfl | exact Or.inr rfl)) (pgs_cons (pg_name (i := 5) sc.nd rfl (by first | exact Or.inl rfl | exact Or.inr rfl)) pgs_nil)))))
 (pss_cons (ps_if (pt_cmp (pc_isN (pv 3))) (pss_one (ps_set (i := 3) sc.nd rfl (by first | exact Or.inl rfl | exact Or.inr rfl) (pe_callD O_u_law_grid hr (by decide) (pa_cons (pv 1) (pa_cons (pv 2) (pa_cons (pv 4) pa_nil)))))) pss_nil)
 (pss_cons (ps_if (pt_cmp (pc_notN (pv 3))) (pss_one (ps_ret (pv 3))) pss_nil)
 (pss_cons (ps_set (i := 6) sc.nd rfl (by first | exact Or.inl rfl | exact Or.inr rfl) (pe_callD O_u_law_found hr (by decide) (pa_cons (pv 1) (pa_cons (pv 2) (pa_cons (pv 4) pa_nil)))))
 (pss_cons (ps_set (i := 7) sc.nd rfl (by first | exact Or.inl rfl | exact Or.inr rfl) (pe_lst pa_nil))
 (pss_cons (ps_for pa rfl (pi_range1 rfl T.f_range (pa_cons (pe_callB (r := rLen _) call_len rfl T.f_len b_len (pa_cons (pv 4) pa_nil)) pa_nil)) (pg_name (i := 8) sc.nd rfl (by first | exact Or.inl rfl | exact Or.inr rfl)) (pss_cons (ps_if (pt_cmp (pc_dnotin (hu_of hr) (pe_ix ix_seq (pv 4) (pv 8) (fun _ _ => rfl)) (pv 6)) rfl) (pss_one (ps_ret (pe_tup (pa_cons (pe_op op_addU (pe_op op_addU (pv 2) pe_int) (pv 8)) (pa_cons pe_str pa_nil))))) pss_nil)
 (pss_cons (ps_asg (pe_dget (hu_of hr) (pv 6) (pe_ix ix_seq (pv 4) (pv 8) (fun _ _ => rfl)) (fun _ _ => rfl)) (pg_tup rfl (pgs_cons (pg_name (i := 9) sc.nd rfl (by first | exact Or.inl rfl | exact Or.inr rfl)) (pgs_cons (pg_name (i := 10) sc.nd rfl (by first | exact Or.inl rfl | exact Or.inr rfl)) (pgs_cons (pg_name (i := 11) sc.nd rfl (by first | exact Or.inl rfl | exact Or.inr rfl)) (pgs_cons (pg_name (i := 12) sc.nd rfl (by first | exact Or.inl rfl | exact Or.inr rfl)) (pgs_cons (pg_name (i := 13) sc.nd rfl (by first | exact Or.inl rfl | exact Or.inr rfl)) pgs_nil)))))))
 (pss_cons (ps_if (pt_cmpR (op_neU hr.units) (pv 13) (pe_op op_mulU (pe_op op_sub (pv 11) (pv 9)) (pe_op op_sub (pv 12) (pv 10))) (nomark _)) (pss_one (ps_ret (pe_tup (pa_cons (pe_op op_addU (pe_op op_addU (pv 2) pe_int) (pv 8)) (pa_cons pe_str pa_nil))))) pss_nil)
 (pss_one (ps_expr (pe_bm PySem.F.plainAttrs_list PySem.F.slot_list_append PySem.F.type_list_append mt_append (pv 7) (pa_cons (pe_tup (pa_cons (pv 9) (pa_cons (pv 10) (pa_cons (pv 11) (pa_cons (pv 12) pa_nil))))) pa_nil))))))))
 (pss_cons (ps_for pa rfl (pi_range1 rfl T.f_range (pa_cons (pe_op op_sub (pv 2) pe_int) pa_nil)) (pg_name (i := 8) sc.nd rfl (by first | exact Or.inl rfl | exact Or.inr rfl)) (pss_cons (ps_asg (pe_tup (pa_cons (pe_ix ix_seq (pv 1) (pv 8) (fun _ _ => rfl)) (pa_cons (pe_ix ix_seq (pv 1) (pe_op op_addU (pv 8) pe_int) (fun _ _ => rfl)) pa_nil))) (pg_tup rfl (pgs_cons (pg_name (i := 14) sc.nd rfl (by first | exact Or.inl rfl | exact Or.inr rfl)) (pgs_cons (pg_name (i := 15) sc.nd rfl (by first | exact Or.inl rfl | exact Or.inr rfl)) pgs_nil))))
 (pss_cons (ps_setLc (i := 16) (own := [("x", 17)]) (g := (gName 17)) (tt := (tTest (tOp (rNeU K) (tOp (rIx K) (tVar 14) (tOp rSubU (tVar 17) (tC (.int 1)))) (tOp (rIx K) (tVar 14) (tVar 17))))) rfl sc.nd rfl rfl (sw_true rfl rfl rfl (by decide +kernel)) (pi_range2 rfl T.f_range (pa_cons pe_int (pa_cons (pe_callB (r := rLen _) call_len rfl T.f_len b_len (pa_cons (pv 14) pa_nil)) pa_nil))) (blkOk_by (own := [("x", 17)]) (N := N_u_law_due) (sc := defScope s_u_law_due) (by decide +kernel)) (fun _ _ _ _ _ => (pg_name (i := 17) sc.nd rfl (by first | exact Or.inl rfl | exact Or.inr rfl))) (fun _ _ _ _ _ => (pts_one (pt_cmpR (op_neU hr.units) (pe_ix ix_seq (pv 14) (pe_op op_sub (pv 17) pe_int) (fun _ _ => rfl)) (pe_ix ix_seq (pv 14) (pv 17) (fun _ _ => rfl)) (nomark _)))) (fun _ _ _ _ _ => (pv 17)))
 (pss_cons (ps_setLc (i := 16) (own := [("x", 17)]) (g := (gName 17)) (tt := (tTest (tOp (rNeU K) (tOp (rIx K) (tVar 15) (tOp rSubU (tVar 17) (tC (.int 1)))) (tOp (rIx K) (tVar 15) (tVar 17))))) rfl sc.nd rfl rfl (sw_true rfl rfl rfl (by decide +kernel)) (pi_seqU (pv 16)) (blkOk_by (own := [("x", 17)]) (N := N_u_law_due) (sc := defScope s_u_law_due) (by decide +kernel)) (fun _ _ _ _ _ => (pg_name (i := 17) sc.nd rfl (by first | exact Or.inl rfl | exact Or.inr rfl))) (fun _ _ _ _ _ => (pts_one (pt_cmpR (op_neU hr.units) (pe_ix ix_seq (pv 15) (pe_op op_sub (pv 17) pe_int) (fun _ _ => rfl)) (pe_ix ix_seq (pv 15) (pv 17) (fun _ _ => rfl)) (nomark _)))) (fun _ _ _ _ _ => (pv 17)))
 (pss_one (ps_if (pt_cmpR op_gtU (pe_callB (r := rLen _) call_len rfl T.f_len b_len (pa_cons (pe_lc (own := [("x", 17)]) (g := (gName 17)) (tt := (tAnd (tTest (tOp (rNeU K) (tOp (rIx K) (tVar 14) (tOp rSubU (tVar 17) (tC (.int 1)))) (tOp (rIx K) (tVar 15) (tOp rSubU (tVar 17) (tC (.int 1)))))) (tTest (tOp (rNeU K) (tOp (rIx K) (tVar 14) (tVar 17)) (tOp (rIx K) (tVar 15) (tVar 17)))))) rfl sc.nd (pi_seqU (pv 16)) (blkOk_by (own := [("x", 17)]) (N := N_u_law_due) (sc := defScope s_u_law_due) (by decide +kernel)) (fun _ _ _ _ _ => (pg_name (i := 17) sc.nd rfl (by first | exact Or.inl rfl | exact Or.inr rfl))) (fun _ _ _ _ _ => (pts_one (PW.pt (pw_and (pt_cmpR (op_neU hr.units) (pe_ix ix_seq (pv 14) (pe_op op_sub (pv 17) pe_int) (fun _ _ => rfl)) (pe_ix ix_seq (pv 15) (pe_op op_sub (pv 17) pe_int) (fun _ _ => rfl)) (nomark _)) (pw_and1 (pt_cmpR (op_neU hr.units) (pe_ix ix_seq (pv 14) (pv 17) (fun _ _ => rfl)) (pe_ix ix_seq (pv 15) (pv 17) (fun _ _ => rfl)) (nomark _))))))) (fun _ _ _ _ _ => (pv 17))) pa_nil)) pe_int (nomark _)) (pss_one (ps_ret (pe_tup (pa_cons (pe_op op_addU (pv 8) pe_int) (pa_cons pe_str pa_nil))))) pss_nil))))))
 (pss_one (ps_ret (pe_tup (pa_cons (pe_callTy (r := rTupU _) call_tupleU rfl T.f_tuple b_tuple (pa_cons (pv 5) pa_nil)) (pa_cons (pe_callB (r := rLen _) call_len rfl T.f_len b_len (pa_cons (pe_ix ix_seq (pv 1) pe_int (fun _ _ => rfl)) pa_nil)) (pa_cons (pv 2) (pa_cons (pe_callTy (r := rTupU _) call_tupleU rfl T.f_tuple b_tuple (pa_cons (pv 7) pa_nil)) pa_nil)))))))))))))))))
def ts_u_law_ask (K : PySem.W.Frag) (a : Addr) (cls : Value) (d : Option Addr) : TS := (tSeq (tIfS (tOr (tNot (tTr K (tCB (rIsX K cls d a) (tCons (tVar 6) (tCons (tC (.ref (He.ga K "TextError"))) tNil))))) (tOr (tNot (tTr K (tCB (rIsX K cls d a) (tCons (tVar 6) (tCons (tC (.ref (He.ga K "PlanError"))) tNil))))) (tNot (tTr K (tCB (rIsX K cls d a) (tCons (tVar 6) (tCons (tC (.ty "ValueError")) tNil))))))) (tRet (tC (.bl false))) tNext)
 (tSeq (tIfS (tOr (tTr K (tCB (rIsX K cls d a) (tCons (tVar 6) (tCons (tC (.ref (He.ga K "DataError"))) tNil)))) (tOr (tTr K (tCB (rIsX K cls d a) (tCons (tVar 6) (tCons (tC (.ref (He.ga K "CallError"))) tNil)))) (tTr K (tCB (rIsX K cls d a) (tCons (tVar 6) (tCons (tC (.ref (He.ga K "DeskError"))) tNil)))))) (tRet (tC (.bl false))) tNext)
 (tSeq (tAsg (tC (.bl true)) (gName 3))
 (tPar 4 5 (tCons (tXf a cls d (He.ga K "BadText") "line" (tVar 6)) (tCons (tXf a cls d (He.ga K "BadText") "word" (tVar 6)) tNil))))))
def t_u_law_ask (K : PySem.W.Frag) : TS := (tSeq (tAsg (tCall (sp_u_law_due K) [] E0 (tCons (tVar 0) tNil)) (gName 1))
 (tSeq (tAsg (tC .non) (gName 2))
 (tSeq (tAsg (tC (.bl false)) (gName 3))
 (tSeq (tAsg (tTup (tCons (tC .non) (tCons (tC .non) tNil))) (gTup K 2 (gCons (gName 4) (gCons (gName 5) gNil))))
 (tSeq (tTryA K (.ref (He.ga K "BadText")) 6 (ts_u_law_ask K) (sp_read_picture K) (tCons (tVar 0) tNil) 2)
 (tSeq (tIfS (tTest (tOp (rEqU K) (tCB (rLen K) (tCons (tVar 1) tNil)) (tC (.int 2)))) (tRet (tAndV (tVar 3) (tCall (sp_u_law_same K) [] E0 (tCons (tTup (tCons (tVar 4) (tCons (tVar 5) tNil))) (tCons (tVar 1) tNil))))) tNext)
 (tRet (tAndV (tNotV (tVar 3)) (tCall (sp_u_law_same K) [] E0 (tCons (tVar 2) (tCons (tVar 1) tNil)))))))))))
theorem dv_u_law_ask (T : Txt K mg) (O_u_law_due : Okd P w K mg base CX0 3 "_law_due" ["text"] (sp_u_law_due K)) (O_read_picture : Okd P w K mg base (L2N.CX P w) 5 "read_picture" ["text"] (sp_read_picture K)) (O_u_law_same : Okd P w K mg base CX0 2 "_law_same" ["told", "due"] (sp_u_law_same K)) (X_BadText : ExOk P w K mg base 1 "BadText" ["line", "word"]) {f : Addr} (cdv : Value) (A : Around) (outer : List PySem.Env) (s : Shared) (H : Hp) (E : XK) (hr : Room 5 (A.deeper (envOfC "_law_ask" (defScope s_u_law_ask) s.heap.objs.size f cdv))) :
    PSs (cxOf CX0 P w K mg base N_u_law_ask "_law_ask" (defScope s_u_law_ask) f cdv A outer s H E) (defBody s_u_law_ask) (t_u_law_ask K) := by
  have sc := sc_u_law_ask
  exact (pss_cons (ps_set (i := 1) sc.nd rfl (by first | exact Or.inl rfl | exact Or.inr rfl) (pe_callD O_u_law_due hr (by decide) (pa_cons (pv 0) pa_nil)))
 (pss_cons (ps_set (i := 2) sc.nd rfl (by first | exact Or.inl rfl | exact Or.inr rfl) pe_non)
 (pss_cons (ps_set (i := 3) sc.nd rfl (by first | exact Or.inl rfl | exact Or.inr rfl) pe_bl)
 (pss_cons (ps_asg (pe_tup (pa_cons pe_non (pa_cons pe_non pa_nil))) (pg_tup rfl (pgs_cons (pg_name (i := 4) sc.nd rfl (by first | exact Or.inl rfl | exact Or.inr rfl)) (pgs_cons (pg_name (i := 5) sc.nd rfl (by first | exact Or.inl rfl | exact Or.inr rfl)) pgs_nil))))
 (pss_cons (L2N.ps_try_as (i := 6) (tb := fun W => tAsg (tCallS (sp_read_picture K) (WE W) (tCons (tVar 0) tNil)) (gName 2)) (ts := ts_u_law_ask K) (Wout := fun _ _ _ _ => False) rfl rfl sc.nd rfl rfl ⟨rfl, by decide, .inl T.g_BadText⟩ takes0N
 (fun W pn xe tk _ => pss_one (ps_set (i := 2) sc.nd rfl (by first | exact Or.inl rfl | exact Or.inr rfl) (by exact (pe_callDSN O_read_picture hr (by decide) tk (pa_cons (pv 0) pa_nil)))))
 (fun a oe cls d pn hz hf => (pss_cons (ps_if (PW.pt (pw_or (pt_not (pt_tr (pe_callB (r := rIsX _ cls d a) (call_isX hz.zc hf) rfl T.f_isinstance b_isinstance (pa_cons (pv 6) (pa_cons (pe_gref T.g_TextError) pa_nil))))) (pw_or (pt_not (pt_tr (pe_callB (r := rIsX _ cls d a) (call_isX hz.zc hf) rfl T.f_isinstance b_isinstance (pa_cons (pv 6) (pa_cons (pe_gref T.g_PlanError) pa_nil))))) (pw_or1 (pt_not (pt_tr (pe_callB (r := rIsX _ cls d a) (call_isX hz.zc hf) rfl T.f_isinstance b_isinstance (pa_cons (pv 6) (pa_cons (pe_bltn (v := .ty "ValueError") rfl T.f_ValueError b_ValueError rfl) pa_nil))))))))) (pss_one (ps_ret pe_bl)) pss_nil)
 (pss_cons (ps_if (PW.pt (pw_or (pt_tr (pe_callB (r := rIsX _ cls d a) (call_isX hz.zc hf) rfl T.f_isinstance b_isinstance (pa_cons (pv 6) (pa_cons (pe_gref T.g_DataError) pa_nil)))) (pw_or (pt_tr (pe_callB (r := rIsX _ cls d a) (call_isX hz.zc hf) rfl T.f_isinstance b_isinstance (pa_cons (pv 6) (pa_cons (pe_gref T.g_CallError) pa_nil)))) (pw_or1 (pt_tr (pe_callB (r := rIsX _ cls d a) (call_isX hz.zc hf) rfl T.f_isinstance b_isinstance (pa_cons (pv 6) (pa_cons (pe_gref T.g_DeskError) pa_nil)))))))) (pss_one (ps_ret pe_bl)) pss_nil)
 (pss_cons (ps_set (i := 3) sc.nd rfl (by first | exact Or.inl rfl | exact Or.inr rfl) pe_bl)
 (pss_one (ps_parH (i := 4) (j := 5) (hot_suite hz hf) sc.nd rfl rfl (by decide) rfl rfl (pa_cons (pe_xf X_BadText.ef.xf T.n_BadText_line hz.zc hf (pv 6)) (pa_cons (pe_xf X_BadText.ef.xf T.n_BadText_word hz.zc hf (pv 6)) pa_nil)) rfl)))))))
 (pss_cons (ps_if (pt_cmpR (op_eqU hr.units) (pe_callB (r := rLen _) call_len rfl T.f_len b_len (pa_cons (pv 1) pa_nil)) pe_int (nomark _)) (pss_one (ps_ret (pe_and (pv 3) (pe_one (pe_callD O_u_law_same hr (by decide) (pa_cons (pe_tup (pa_cons (pv 4) (pa_cons (pv 5) pa_nil))) (pa_cons (pv 1) pa_nil))))))) pss_nil)
 (pss_one (ps_ret (pe_and (pe_not (pv 3)) (pe_one (pe_callD O_u_law_same hr (by decide) (pa_cons (pv 2) (pa_cons (pv 1) pa_nil)))))))))))))
def ts_u_law_wide (K : PySem.W.Frag) (a : Addr) (cls : Value) (d : Option Addr) : TS := (tAsg (tXf a cls d (He.ga K "BadStep") "word" (tVar 2)) (gName 1))
def t_u_law_wide (K : PySem.W.Frag) : TS := (tSeq (tAsg (tC (.str "")) (gName 1))
 (tSeq (tTryE K (.ref (He.ga K "BadStep")) 2 (ts_u_law_wide K) (sp_picture_of K) (tCons (tVar 0) tNil))
 (tRet (tAndV (tCB (rIsi K) (tCons (tVar 1) (tCons (tC (.ty "str")) tNil))) (tOp (rEqU K) (tVar 1) (tC (.str "wide")))))))
theorem dv_u_law_wide (T : Txt K mg) (O_picture_of : Okd P w K mg base (L2N.CX P w) 3 "picture_of" ["plan"] (sp_picture_of K)) (X_BadStep : ExOk P w K mg base 1 "BadStep" ["word"]) {f : Addr} (cdv : Value) (A : Around) (outer : List PySem.Env) (s : Shared) (H : Hp) (E : XK) (hr : Room 3 (A.deeper (envOfC "_law_wide" (defScope s_u_law_wide) s.heap.objs.size f cdv))) :
    PSs (cxOf CX0 P w K mg base N_u_law_wide "_law_wide" (defScope s_u_law_wide) f cdv A outer s H E) (defBody s_u_law_wide) (t_u_law_wide K) := by
  have sc := sc_u_law_wide
  exact (pss_cons (ps_set (i := 1) sc.nd rfl (by first | exact Or.inl rfl | exact Or.inr rfl) pe_str)
 (pss_cons (L2N.ps_try_as (i := 2) (tb := fun W => tDrop (tCallS (sp_picture_of K) (WE W) (tCons (tVar 0) tNil))) (ts := ts_u_law_wide K) (Wout := fun _ _ _ _ => False) rfl rfl sc.nd rfl rfl ⟨rfl, by decide, .inl T.g_BadStep⟩ takes0N
 (fun W pn xe tk _ => pss_one (ps_expr (by exact (pe_callDSN O_picture_of hr (by decide) tk (pa_cons (pv 0) pa_nil)))))
 (fun a oe cls d pn hz hf => (pss_one (ps_set (i := 1) sc.nd rfl (by first | exact Or.inl rfl | exact Or.inr rfl) (pe_xf X_BadStep.ef.xf T.n_BadStep_word hz.zc hf (pv 2))))))
 (pss_one (ps_ret (pe_and (pe_callB (r := rIsi _) call_isi rfl T.f_isinstance b_isinstance (pa_cons (pv 1) (pa_cons (pe_bltn (v := .ty "str") rfl T.f_str b_str rfl) pa_nil))) (pe_one (pe_cmpR (op_eqU hr.units) (pv 1) pe_str (nomark _))))))))
def t_u_law_change (K : PySem.W.Frag) : TS := (tSeq (tIfS (tTest (tOp (rEqU K) (tVar 1) (tC (.str "")))) (tRet (tOp (rIx K) (tLst (tCons (tC (.str "a")) (tCons (tC (.str " ")) (tCons (tC (.str "-")) (tCons (tC (.str "--")) tNil))))) (tCall (sp_u_law_take K) [] E0 (tCons (tVar 0) (tCons (tC (.int 4)) tNil))))) tNext)
 (tSeq (tAsg (tCall (sp_u_law_take K) [] E0 (tCons (tVar 0) (tCons (tCB (rLen K) (tCons (tVar 1) tNil)) tNil))) (gName 3))
 (tSeq (tAsg (tOp (rAddU K) (tOp (rAddU K) (tVar 2) (tC (.str "O-Z aM0#"))) (tVar 1)) (gName 4))
 (tSeq (tAsg (tOp (rIx K) (tVar 4) (tCall (sp_u_law_take K) [] E0 (tCons (tVar 0) (tCons (tCB (rLen K) (tCons (tVar 4) tNil)) tNil)))) (gName 5))
 (tSeq (tAsg (tLst (tCons (tOp (rAddU K) (tOp (rAddU K) (tSl (rSlU K) (tVar 1) tNoPart (tPart (tVar 3))) (tVar 5)) (tSl (rSlU K) (tVar 1) (tPart (tOp (rAddU K) (tVar 3) (tC (.int 1)))) tNoPart)) (tCons (tOp (rAddU K) (tSl (rSlU K) (tVar 1) tNoPart (tPart (tVar 3))) (tSl (rSlU K) (tVar 1) (tPart (tOp (rAddU K) (tVar 3) (tC (.int 1)))) tNoPart)) (tCons (tOp (rAddU K) (tOp (rAddU K) (tSl (rSlU K) (tVar 1) tNoPart (tPart (tVar 3))) (tVar 5)) (tSl (rSlU K) (tVar 1) (tPart (tVar 3)) tNoPart)) (tCons (tOp (rAddU K) (tVar 1) (tVar 5)) tNil))))) (gName 6))
 (tRet (tOp (rIx K) (tOp (rAddU K) (tVar 6) (tLst (tCons (tC (.str "")) (tCons (tOp (rAddU K) (tVar 1) (tVar 1)) (tCons (tOp (rAddU K) (tC (.str " ")) (tVar 1)) (tCons (tOp (rAddU K) (tVar 1) (tC (.str " "))) tNil)))))) (tCall (sp_u_law_take K) [] E0 (tCons (tVar 0) (tCons (tC (.int 8)) tNil))))))))))
theorem dv_u_law_change (T : Txt K mg) (O_u_law_take : Okd P w K mg base CX0 1 "_law_take" ["state", "many"] (sp_u_law_take K)) {f : Addr} (cdv : Value) (A : Around) (outer : List PySem.Env) (s : Shared) (H : Hp) (E : XK) (hr : Room 1 (A.deeper (envOfC "_law_change" (defScope s_u_law_change) s.heap.objs.size f cdv))) :
    PSs (cxOf CX0 P w K mg base N_u_law_change "_law_change" (defScope s_u_law_change) f cdv A outer s H E) (defBody s_u_law_change) (t_u_law_change K) := by
  have sc := sc_u_law_change
  exact (pss_cons (ps_if (pt_cmpR (op_eqU hr.units) (pv 1) pe_str (nomark _)) (pss_one (ps_ret (pe_ix ix_seq (pe_lst (pa_cons pe_str (pa_cons pe_str (pa_cons pe_str (pa_cons pe_str pa_nil))))) (pe_callD O_u_law_take hr (by decide) (pa_cons (pv 0) (pa_cons pe_int pa_nil))) (fun _ _ => rfl)))) pss_nil)
 (pss_cons (ps_set (i := 3) sc.nd rfl (by first | exact Or.inl rfl | exact Or.inr rfl) (pe_callD O_u_law_take hr (by decide) (pa_cons (pv 0) (pa_cons (pe_callB (r := rLen _) call_len rfl T.f_len b_len (pa_cons (pv 1) pa_nil)) pa_nil))))
 (pss_cons (ps_set (i := 4) sc.nd rfl (by first | exact Or.inl rfl | exact Or.inr rfl) (pe_op op_addU (pe_op op_addU (pv 2) pe_str) (pv 1)))
 (pss_cons (ps_set (i := 5) sc.nd rfl (by first | exact Or.inl rfl | exact Or.inr rfl) (pe_ix ix_seq (pv 4) (pe_callD O_u_law_take hr (by decide) (pa_cons (pv 0) (pa_cons (pe_callB (r := rLen _) call_len rfl T.f_len b_len (pa_cons (pv 4) pa_nil)) pa_nil))) (fun _ _ => rfl)))
 (pss_cons (ps_set (i := 6) sc.nd rfl (by first | exact Or.inl rfl | exact Or.inr rfl) (pe_lst (pa_cons (pe_op op_addU (pe_op op_addU (pe_slice sl_U (pv 1) po_none (po_some (pv 3))) (pv 5)) (pe_slice sl_U (pv 1) (po_some (pe_op op_addU (pv 3) pe_int)) po_none)) (pa_cons (pe_op op_addU (pe_slice sl_U (pv 1) po_none (po_some (pv 3))) (pe_slice sl_U (pv 1) (po_some (pe_op op_addU (pv 3) pe_int)) po_none)) (pa_cons (pe_op op_addU (pe_op op_addU (pe_slice sl_U (pv 1) po_none (po_some (pv 3))) (pv 5)) (pe_slice sl_U (pv 1) (po_some (pv 3)) po_none)) (pa_cons (pe_op op_addU (pv 1) (pv 5)) pa_nil))))))
 (pss_one (ps_ret (pe_ix ix_seq (pe_op op_addU (pv 6) (pe_lst (pa_cons pe_str (pa_cons (pe_op op_addU (pv 1) (pv 1)) (pa_cons (pe_op op_addU pe_str (pv 1)) (pa_cons (pe_op op_addU (pv 1) pe_str) pa_nil)))))) (pe_callD O_u_law_take hr (by decide) (pa_cons (pv 0) (pa_cons pe_int pa_nil))) (fun _ _ => rfl)))))))))
def t_u_law_bend (K : PySem.W.Frag) : TS := (tSeq (tAsg (tCall (sp_u_law_take K) [] E0 (tCons (tVar 0) (tCons (tCB (rLen K) (tCons (tVar 1) tNil)) tNil))) (gName 3))
 (tSeq (tAsg (tCall (sp_u_law_take K) [] E0 (tCons (tVar 0) (tCons (tCB (rLen K) (tCons (tVar 1) tNil)) tNil))) (gName 4))
 (tSeq (tIfS (tAnd (tTest (tOp (rEqU K) (tCall (sp_u_law_take K) [] E0 (tCons (tVar 0) (tCons (tC (.int 3)) tNil))) (tC (.int 0)))) (tTest (tOp (rInU K) (tC (.str "--")) (tVar 1)))) (tAsg (tCB rMin2 (tCons (tOp rSubU (tCB (rLen K) (tCons (tVar 1) tNil)) (tC (.int 1))) (tCons (tOp (rAddU K) (tBM K "list" (rIndex K) (tVar 1) (tCons (tC (.str "--")) tNil)) (tCall (sp_u_law_take K) [] E0 (tCons (tVar 0) (tCons (tC (.int 3)) tNil)))) tNil))) (gName 3)) tNext)
 (tSeq (tAsg (tCall (sp_u_law_take K) [] E0 (tCons (tVar 0) (tCons (tC (.int 9)) tNil))) (gName 5))
 (tSeq (tIfS (tTest (tOp rLtU (tVar 5) (tC (.int 4)))) (tRet (tOp (rAddU K) (tOp (rAddU K) (tSl (rSlU K) (tVar 1) tNoPart (tPart (tVar 3))) (tLst (tCons (tCall (sp_u_law_change K) [] E0 (tCons (tVar 0) (tCons (tOp (rIx K) (tVar 1) (tVar 3)) (tCons (tVar 2) tNil)))) tNil))) (tSl (rSlU K) (tVar 1) (tPart (tOp (rAddU K) (tVar 3) (tC (.int 1)))) tNoPart))) tNext)
 (tSeq (tIfS (tTest (tOp (rEqU K) (tVar 5) (tC (.int 4)))) (tRet (tOp (rAddU K) (tSl (rSlU K) (tVar 1) tNoPart (tPart (tVar 3))) (tSl (rSlU K) (tVar 1) (tPart (tOp (rAddU K) (tVar 3) (tC (.int 1)))) tNoPart))) tNext)
 (tSeq (tIfS (tTest (tOp (rEqU K) (tVar 5) (tC (.int 5)))) (tRet (tOp (rAddU K) (tOp (rAddU K) (tSl (rSlU K) (tVar 1) tNoPart (tPart (tVar 3))) (tLst (tCons (tOp (rIx K) (tVar 1) (tVar 4)) tNil))) (tSl (rSlU K) (tVar 1) (tPart (tVar 3)) tNoPart))) tNext)
 (tSeq (tIfS (tTest (tOp (rEqU K) (tVar 5) (tC (.int 6)))) (tSeq (tAsg (tCB (rListU K) (tCons (tVar 1) tNil)) (gName 6))
 (tSeq (tAsg (tOp (rIx K) (tVar 1) (tVar 4)) (gSub (tVar 6) (tVar 3) rSetL))
 (tSeq (tAsg (tOp (rIx K) (tVar 1) (tVar 3)) (gSub (tVar 6) (tVar 4) rSetL))
 (tRet (tVar 6))))) tNext)
 (tSeq (tIfS (tTest (tOp (rEqU K) (tVar 5) (tC (.int 7)))) (tRet (tOp (rAddU K) (tOp (rAddU K) (tSl (rSlU K) (tVar 1) tNoPart (tPart (tVar 3))) (tLst (tCons (tOp (rIx K) (tLst (tCons (tC (.str "")) (tCons (tC (.str "--")) (tCons (tC (.str "# a")) (tCons (tC (.str "a b")) (tCons (tOp (rAddU K) (tOp (rIx K) (tVar 2) (tC (.int 0))) (tC (.str " zz"))) (tCons (tC (.str "a  b ")) (tCons (tC (.str "N n")) (tCons (tC (.str "O o")) tNil))))))))) (tCall (sp_u_law_take K) [] E0 (tCons (tVar 0) (tCons (tC (.int 8)) tNil)))) tNil))) (tSl (rSlU K) (tVar 1) (tPart (tVar 3)) tNoPart))) tNext)
 (tSeq (tAsg (tM1 rSplitU (tOp (rIx K) (tVar 1) (tVar 3)) (tC (.str " "))) (gName 7))
 (tSeq (tAsg (tOp (rIx K) (tLst (tCons (tC (.str "A")) (tCons (tC (.str "")) (tCons (tC (.str "1a")) (tCons (tC (.str "abcdefghi")) (tCons (tC (.str "a")) (tCons (tC (.str "zzzzzzzz")) (tCons (tOp (rAddU K) (tOp (rIx K) (tVar 7) (tOp rSubU (tCB (rLen K) (tCons (tVar 7) tNil)) (tC (.int 1)))) (tC (.str "0"))) (tCons (tC (.str "a-b")) tNil))))))))) (tCall (sp_u_law_take K) [] E0 (tCons (tVar 0) (tCons (tC (.int 8)) tNil)))) (gName 8))
 (tRet (tOp (rAddU K) (tOp (rAddU K) (tSl (rSlU K) (tVar 1) tNoPart (tPart (tVar 3))) (tLst (tCons (tOp (rAddU K) (tOp (rAddU K) (tOp (rIx K) (tVar 7) (tC (.int 0))) (tC (.str " "))) (tVar 8)) tNil))) (tSl (rSlU K) (tVar 1) (tPart (tOp (rAddU K) (tVar 3) (tC (.int 1)))) tNoPart))))))))))))))
theorem dv_u_law_bend (T : Txt K mg) (O_u_law_take : Okd P w K mg base CX0 1 "_law_take" ["state", "many"] (sp_u_law_take K)) (O_u_law_change : Okd P w K mg base CX0 2 "_law_change" ["state", "line", "signs"] (sp_u_law_change K)) {f : Addr} (cdv : Value) (A : Around) (outer : List PySem.Env) (s : Shared) (H : Hp) (E : XK) (hr : Room 2 (A.deeper (envOfC "_law_bend" (defScope s_u_law_bend) s.heap.objs.size f cdv))) :
    PSs (cxOf CX0 P w K mg base N_u_law_bend "_law_bend" (defScope s_u_law_bend) f cdv A outer s H E) (defBody s_u_law_bend) (t_u_law_bend K) := by
  have sc := sc_u_law_bend
  exact (pss_cons (ps_set (i := 3) sc.nd rfl (by first | exact Or.inl rfl | exact Or.inr rfl) (pe_callD O_u_law_take hr (by decide) (pa_cons (pv 0) (pa_cons (pe_callB (r := rLen _) call_len rfl T.f_len b_len (pa_cons (pv 1) pa_nil)) pa_nil))))
 (pss_cons (ps_set (i := 4) sc.nd rfl (by first | exact Or.inl rfl | exact Or.inr rfl) (pe_callD O_u_law_take hr (by decide) (pa_cons (pv 0) (pa_cons (pe_callB (r := rLen _) call_len rfl T.f_len b_len (pa_cons (pv 1) pa_nil)) pa_nil))))
 (pss_cons (ps_if (PW.pt (pw_and (pt_cmpR (op_eqU hr.units) (pe_callD O_u_law_take hr (by decide) (pa_cons (pv 0) (pa_cons pe_int pa_nil))) pe_int (nomark _)) (pw_and1 (pt_cmpR op_inU pe_str (pv 1) rfl)))) (pss_one (ps_set (i := 3) sc.nd rfl (by first | exact Or.inl rfl | exact Or.inr rfl) (pe_callB (r := rMin2) (call_minI rfl) rfl T.f_min b_min (pa_cons (pe_op op_sub (pe_callB (r := rLen _) call_len rfl T.f_len b_len (pa_cons (pv 1) pa_nil)) pe_int) (pa_cons (pe_op op_addU (pe_bm PySem.F.plainAttrs_list PySem.F.slot_list_index PySem.F.type_list_index mt_index (pv 1) (pa_cons pe_str pa_nil)) (pe_callD O_u_law_take hr (by decide) (pa_cons (pv 0) (pa_cons pe_int pa_nil)))) pa_nil))))) pss_nil)
 (pss_cons (ps_set (i := 5) sc.nd rfl (by first | exact Or.inl rfl | exact Or.inr rfl) (pe_callD O_u_law_take hr (by decide) (pa_cons (pv 0) (pa_cons pe_int pa_nil))))
 (pss_cons (ps_if (pt_cmpR op_ltU (pv 5) pe_int (nomark _)) (pss_one (ps_ret (pe_op op_addU (pe_op op_addU (pe_slice sl_U (pv 1) po_none (po_some (pv 3))) (pe_lst (pa_cons (pe_callD O_u_law_change hr (by decide) (pa_cons (pv 0) (pa_cons (pe_ix ix_seq (pv 1) (pv 3) (fun _ _ => rfl)) (pa_cons (pv 2) pa_nil)))) pa_nil))) (pe_slice sl_U (pv 1) (po_some (pe_op op_addU (pv 3) pe_int)) po_none)))) pss_nil)
 (pss_cons (ps_if (pt_cmpR (op_eqU hr.units) (pv 5) pe_int (nomark _)) (pss_one (ps_ret (pe_op op_addU (pe_slice sl_U (pv 1) po_none (po_some (pv 3))) (pe_slice sl_U (pv 1) (po_some (pe_op op_addU (pv 3) pe_int)) po_none)))) pss_nil)
 (pss_cons (ps_if (pt_cmpR (op_eqU hr.units) (pv 5) pe_int (nomark _)) (pss_one (ps_ret (pe_op op_addU (pe_op op_addU (pe_slice sl_U (pv 1) po_none (po_some (pv 3))) (pe_lst (pa_cons (pe_ix ix_seq (pv 1) (pv 4) (fun _ _ => rfl)) pa_nil))) (pe_slice sl_U (pv 1) (po_some (pv 3)) po_none)))) pss_nil)
 (pss_cons (ps_if (pt_cmpR (op_eqU hr.units) (pv 5) pe_int (nomark _)) (pss_cons (ps_set (i := 6) sc.nd rfl (by first | exact Or.inl rfl | exact Or.inr rfl) (pe_callTy (r := rListU _) call_listU rfl T.f_list b_list (pa_cons (pv 1) pa_nil)))
 (pss_cons (ps_asg (pe_ix ix_seq (pv 1) (pv 4) (fun _ _ => rfl)) (pg_sub (pv 6) (pv 3) set_list))
 (pss_cons (ps_asg (pe_ix ix_seq (pv 1) (pv 3) (fun _ _ => rfl)) (pg_sub (pv 6) (pv 4) set_list))
 (pss_one (ps_ret (pv 6)))))) pss_nil)
 (pss_cons (ps_if (pt_cmpR (op_eqU hr.units) (pv 5) pe_int (nomark _)) (pss_one (ps_ret (pe_op op_addU (pe_op op_addU (pe_slice sl_U (pv 1) po_none (po_some (pv 3))) (pe_lst (pa_cons (pe_ix ix_seq (pe_lst (pa_cons pe_str (pa_cons pe_str (pa_cons pe_str (pa_cons pe_str (pa_cons (pe_op op_addU (pe_ix ix_seq (pv 2) pe_int (fun _ _ => rfl)) pe_str) (pa_cons pe_str (pa_cons pe_str (pa_cons pe_str pa_nil))))))))) (pe_callD O_u_law_take hr (by decide) (pa_cons (pv 0) (pa_cons pe_int pa_nil))) (fun _ _ => rfl)) pa_nil))) (pe_slice sl_U (pv 1) (po_some (pv 3)) po_none)))) pss_nil)
 (pss_cons (ps_set (i := 7) sc.nd rfl (by first | exact Or.inl rfl | exact Or.inr rfl) (pe_splitU (pe_ix ix_seq (pv 1) (pv 3) (fun _ _ => rfl)) pe_str))
 (pss_cons (ps_set (i := 8) sc.nd rfl (by first | exact Or.inl rfl | exact Or.inr rfl) (pe_ix ix_seq (pe_lst (pa_cons pe_str (pa_cons pe_str (pa_cons pe_str (pa_cons pe_str (pa_cons pe_str (pa_cons pe_str (pa_cons (pe_op op_addU (pe_ix ix_seq (pv 7) (pe_op op_sub (pe_callB (r := rLen _) call_len rfl T.f_len b_len (pa_cons (pv 7) pa_nil)) pe_int) (fun _ _ => rfl)) pe_str) (pa_cons pe_str pa_nil))))))))) (pe_callD O_u_law_take hr (by decide) (pa_cons (pv 0) (pa_cons pe_int pa_nil))) (fun _ _ => rfl)))
 (pss_one (ps_ret (pe_op op_addU (pe_op op_addU (pe_slice sl_U (pv 1) po_none (po_some (pv 3))) (pe_lst (pa_cons (pe_op op_addU (pe_op op_addU (pe_ix ix_seq (pv 7) pe_int (fun _ _ => rfl)) pe_str) (pv 8)) pa_nil))) (pe_slice sl_U (pv 1) (po_some (pe_op op_addU (pv 3) pe_int)) po_none)))))))))))))))
def t_u_law_fixed (K : PySem.W.Frag) : TS := (tSeq (tAsg (tOp (rAddU K) (tOp rMulU (tC (.str "a")) (tOp rSubU (tVar 0) (tC (.int 1)))) (tC (.str "b"))) (gName 1))
 (tSeq (tAsg (tLst (tCons (tC (.str "ab")) (tCons (tC (.str "ab")) (tCons (tC (.str "cd")) (tCons (tC (.str "cd")) (tCons (tC (.str "--")) (tCons (tC (.str "a a")) (tCons (tC (.str "b b")) (tCons (tC (.str "c c")) (tCons (tC (.str "d d")) tNil)))))))))) (gName 2))
 (tSeq (tAsg (tLst (tCons (tC (.str "aab")) (tCons (tC (.str "ccb")) (tCons (tC (.str "ccd")) (tCons (tC (.str "--")) (tCons (tC (.str "a x")) (tCons (tC (.str "b x0")) (tCons (tC (.str "c x00")) (tCons (tC (.str "d y")) tNil))))))))) (gName 3))
 (tSeq (tAsg (tLst (tCons (tC (.str "abb")) (tCons (tC (.str "acd")) (tCons (tC (.str "aec")) (tCons (tC (.str "--")) (tCons (tC (.str "a a")) (tCons (tC (.str "b b")) (tCons (tC (.str "c c")) (tCons (tC (.str "d d")) (tCons (tC (.str "e e")) tNil)))))))))) (gName 4))
 (tSeq (tAsg (tOp (rAddU K) (tOp rMulU (tLst (tCons (tVar 1) tNil)) (tC (.int 160))) (tLst (tCons (tC (.str "--")) (tCons (tC (.str "a x")) (tCons (tC (.str "b y")) tNil))))) (gName 5))
 (tSeq (tAsg (tLst (tCons (tVar 2) (tCons (tVar 3) (tCons (tVar 4) (tCons (tVar 5) (tCons (tOp (rAddU K) (tLst (tCons (tVar 1) tNil)) (tVar 5)) (tCons (tLst (tCons (tC (.str "--")) (tCons (tC (.str "a a")) tNil))) (tCons (tLst (tCons (tC (.str "a")) (tCons (tC (.str "--")) tNil))) (tCons (tLst (tCons (tC (.str "")) (tCons (tC (.str "--")) (tCons (tC (.str "a a")) tNil)))) (tCons (tLst (tCons (tC (.str "a")) (tCons (tC (.str "--")) (tCons (tC (.str "a a")) (tCons (tC (.str "")) tNil))))) (tCons (tLst (tCons (tC (.str "a")) tNil)) tNil))))))))))) (gName 6))
 (tSeq (tAug 6 (tLst (tCons (tLst (tCons (tOp rMulU (tC (.str "a")) (tC (.int 161))) (tCons (tC (.str "--")) (tCons (tC (.str "a a")) tNil)))) (tCons (tLst (tCons (tC (.str "a")) (tCons (tC (.str "--")) (tCons (tC (.str "a a")) (tCons (tC (.str "--")) tNil))))) (tCons (tLst (tCons (tC (.str "--")) tNil)) (tCons (tLst (tCons (tC (.str " a")) (tCons (tC (.str "--")) (tCons (tC (.str "a a")) tNil)))) (tCons (tLst (tCons (tC (.str "a")) (tCons (tC (.str "")) (tCons (tC (.str "--")) (tCons (tC (.str "a a")) tNil))))) tNil)))))) rIAddU)
 (tSeq (tAug 6 (tLst (tCons (tLst (tCons (tC (.str "ab")) (tCons (tC (.str "ab")) (tCons (tC (.str "--")) (tCons (tC (.str "b a")) (tCons (tC (.str "a b")) tNil)))))) (tCons (tLst (tCons (tC (.str "ab")) (tCons (tC (.str "ab")) (tCons (tC (.str "--")) (tCons (tC (.str " b   a ")) (tCons (tC (.str "a b")) tNil)))))) (tCons (tLst (tCons (tC (.str "a")) (tCons (tC (.str "--")) (tCons (tC (.str "a a")) (tCons (tC (.str "b b")) tNil))))) (tCons (tLst (tCons (tC (.str "a")) (tCons (tC (.str " --")) (tCons (tC (.str "a a")) tNil)))) tNil))))) rIAddU)
 (tRet (tVar 6))))))))))
theorem dv_u_law_fixed (T : Txt K mg)  {f : Addr} (cdv : Value) (A : Around) (outer : List PySem.Env) (s : Shared) (H : Hp) (E : XK) (hr : Room 0 (A.deeper (envOfC "_law_fixed" (defScope s_u_law_fixed) s.heap.objs.size f cdv))) :
    PSs (cxOf CX0 P w K mg base N_u_law_fixed "_law_fixed" (defScope s_u_law_fixed) f cdv A outer s H E) (defBody s_u_law_fixed) (t_u_law_fixed K) := by
  have sc := sc_u_law_fixed
  exact (pss_cons (ps_set (i := 1) sc.nd rfl (by first | exact Or.inl rfl | exact Or.inr rfl) (pe_op op_addU (pe_op op_mulU pe_str (pe_op op_sub (pv 0) pe_int)) pe_str))
 (pss_cons (ps_set (i := 2) sc.nd rfl (by first | exact Or.inl rfl | exact Or.inr rfl) (pe_lst (pa_cons pe_str (pa_cons pe_str (pa_cons pe_str (pa_cons pe_str (pa_cons pe_str (pa_cons pe_str (pa_cons pe_str (pa_cons pe_str (pa_cons pe_str pa_nil)))))))))))
 (pss_cons (ps_set (i := 3) sc.nd rfl (by first | exact Or.inl rfl | exact Or.inr rfl) (pe_lst (pa_cons pe_str (pa_cons pe_str (pa_cons pe_str (pa_cons pe_str (pa_cons pe_str (pa_cons pe_str (pa_cons pe_str (pa_cons pe_str pa_nil))))))))))
 (pss_cons (ps_set (i := 4) sc.nd rfl (by first | exact Or.inl rfl | exact Or.inr rfl) (pe_lst (pa_cons pe_str (pa_cons pe_str (pa_cons pe_str (pa_cons pe_str (pa_cons pe_str (pa_cons pe_str (pa_cons pe_str (pa_cons pe_str (pa_cons pe_str pa_nil)))))))))))
 (pss_cons (ps_set (i := 5) sc.nd rfl (by first | exact Or.inl rfl | exact Or.inr rfl) (pe_op op_addU (pe_op op_mulU (pe_lst (pa_cons (pv 1) pa_nil)) pe_int) (pe_lst (pa_cons pe_str (pa_cons pe_str (pa_cons pe_str pa_nil))))))
 (pss_cons (ps_set (i := 6) sc.nd rfl (by first | exact Or.inl rfl | exact Or.inr rfl) (pe_lst (pa_cons (pv 2) (pa_cons (pv 3) (pa_cons (pv 4) (pa_cons (pv 5) (pa_cons (pe_op op_addU (pe_lst (pa_cons (pv 1) pa_nil)) (pv 5)) (pa_cons (pe_lst (pa_cons pe_str (pa_cons pe_str pa_nil))) (pa_cons (pe_lst (pa_cons pe_str (pa_cons pe_str pa_nil))) (pa_cons (pe_lst (pa_cons pe_str (pa_cons pe_str (pa_cons pe_str pa_nil)))) (pa_cons (pe_lst (pa_cons pe_str (pa_cons pe_str (pa_cons pe_str (pa_cons pe_str pa_nil))))) (pa_cons (pe_lst (pa_cons pe_str pa_nil)) pa_nil))))))))))))
 (pss_cons (ps_aug (i := 6) sc.nd rfl (by first | exact Or.inl rfl | exact Or.inr rfl) (pe_lst (pa_cons (pe_lst (pa_cons (pe_op op_mulU pe_str pe_int) (pa_cons pe_str (pa_cons pe_str pa_nil)))) (pa_cons (pe_lst (pa_cons pe_str (pa_cons pe_str (pa_cons pe_str (pa_cons pe_str pa_nil))))) (pa_cons (pe_lst (pa_cons pe_str pa_nil)) (pa_cons (pe_lst (pa_cons pe_str (pa_cons pe_str (pa_cons pe_str pa_nil)))) (pa_cons (pe_lst (pa_cons pe_str (pa_cons pe_str (pa_cons pe_str (pa_cons pe_str pa_nil))))) pa_nil)))))) ip_addU)
 (pss_cons (ps_aug (i := 6) sc.nd rfl (by first | exact Or.inl rfl | exact Or.inr rfl) (pe_lst (pa_cons (pe_lst (pa_cons pe_str (pa_cons pe_str (pa_cons pe_str (pa_cons pe_str (pa_cons pe_str pa_nil)))))) (pa_cons (pe_lst (pa_cons pe_str (pa_cons pe_str (pa_cons pe_str (pa_cons pe_str (pa_cons pe_str pa_nil)))))) (pa_cons (pe_lst (pa_cons pe_str (pa_cons pe_str (pa_cons pe_str (pa_cons pe_str pa_nil))))) (pa_cons (pe_lst (pa_cons pe_str (pa_cons pe_str (pa_cons pe_str pa_nil)))) pa_nil))))) ip_addU)
 (pss_one (ps_ret (pv 6)))))))))))
def t_law (K : PySem.W.Frag) : TS := (tSeq (tAsg (tCall (sp_u_law_state K) [] E0 (tCons (tVar 0) tNil)) (gName 1))
 (tSeq (tAsg (tOp (rEqU K) (tCall (sp_u_law_take K) [] E0 (tCons (tVar 1) (tCons (tC (.int 7)) tNil))) (tC (.int 2))) (gName 2))
 (tSeq (tAsg (tIf (tTr K (tVar 2)) (tC (.int 40)) (tOp (rAddU K) (tC (.int 1)) (tCall (sp_u_law_take K) [] E0 (tCons (tVar 1) (tCons (tC (.int 9)) tNil))))) (gName 3))
 (tSeq (tAsg (tIf (tTr K (tVar 2)) (tC (.int 160)) (tC (.int 12))) (gName 4))
 (tSeq (tPar 5 6 (tCons (tOp (rAddU K) (tC (.int 1)) (tCall (sp_u_law_take K) [] E0 (tCons (tVar 1) (tCons (tVar 4) tNil)))) (tCons (tOp (rAddU K) (tC (.int 1)) (tCall (sp_u_law_take K) [] E0 (tCons (tVar 1) (tCons (tVar 4) tNil)))) tNil)))
 (tSeq (tIfS (tAnd (tTr K (tVar 2)) (tTest (tOp (rEqU K) (tCall (sp_u_law_take K) [] E0 (tCons (tVar 1) (tCons (tC (.int 2)) tNil))) (tC (.int 0))))) (tAsg (tTup (tCons (tC (.int 160)) (tCons (tC (.int 160)) tNil))) (gTup K 2 (gCons (gName 5) (gCons (gName 6) gNil)))) tNext)
 (tSeq (tAsg (tCall (sp_u_law_plan K) [] E0 (tCons (tVar 1) (tCons (tVar 3) (tCons (tVar 5) (tCons (tVar 6) (tCons (tC (.bl true)) tNil)))))) (gName 7))
 (tSeq (tAsg (tCB (rLen K) (tCons (tOp (rIx K) (tVar 7) (tC (.int 0))) tNil)) (gName 3))
 (tSeq (tAsg (tCall (sp_u_law_signs K) [] E0 (tCons (tVar 3) tNil)) (gName 8))
 (tSeq (tAsg (tCall (sp_u_law_picture K) [] E0 (tCons (tVar 7) (tCons (tVar 8) tNil))) (gName 9))
 (tSeq (tIfS (tOr (tNot (tTr K (tCall (sp_u_law_same K) [] E0 (tCons (tCall (sp_room_signs K) [] E0 (tCons (tOp (rIx K) (tVar 7) (tC (.int 0))) tNil)) (tCons (tVar 8) tNil))))) (tNot (tTr K (tCall (sp_u_law_same K) [] E0 (tCons (tCallS (sp_picture_of K) (WE fun _ _ _ _ => False) (tCons (tVar 7) tNil)) (tCons (tM1 (rJoinU K) (tC (.str "
")) (tVar 9)) tNil)))))) (tRet (tC (.bl false))) tNext)
 (tSeq (tAsg (tOp (rAddU K) (tC (.int 161)) (tOp (rIx K) (tLst (tCons (tC (.int 0)) (tCons (tC (.int 0)) (tCons (tC (.int 39)) (tCons (tC (.int 9839)) tNil))))) (tCall (sp_u_law_take K) [] E0 (tCons (tVar 1) (tCons (tC (.int 4)) tNil))))) (gName 10))
 (tSeq (tFor (iSeqU K (tLst (tCons (tTup (tCons (tVar 10) (tCons (tC (.int 2)) tNil))) (tCons (tTup (tCons (tC (.int 1)) (tCons (tVar 10) tNil))) (tCons (tTup (tCons (tC (.int 161)) (tCons (tC (.int 160)) tNil))) (tCons (tTup (tCons (tC (.int 160)) (tCons (tC (.int 161)) tNil))) tNil)))))) (gName 11) (tIfS (tNot (tTr K (tCall (sp_u_law_wide K) [] E0 (tCons (tTup (tCons (tTup (tCons (tC (.str "a")) (tCons (tC (.str "b")) tNil))) (tCons (tOp (rIx K) (tVar 11) (tC (.int 0))) (tCons (tOp (rIx K) (tVar 11) (tC (.int 1))) (tCons (tTup (tCons (tTup (tCons (tC (.int 0)) (tCons (tC (.int 0)) (tCons (tOp (rIx K) (tVar 11) (tC (.int 0))) (tCons (tC (.int 1)) tNil))))) (tCons (tTup (tCons (tC (.int 0)) (tCons (tC (.int 1)) (tCons (tOp (rIx K) (tVar 11) (tC (.int 0))) (tCons (tOp (rIx K) (tVar 11) (tC (.int 1))) tNil))))) tNil))) tNil))))) tNil)))) (tRet (tC (.bl false))) tNext))
 (tSeq (tAsg (tCall (sp_u_law_take K) [] E0 (tCons (tVar 1) (tCons (tC (.int 40)) tNil))) (gName 12))
 (tSeq (tAsg (tSl (rSlU K) (tOp (rAddU K) (tCall (sp_u_law_signs K) [] E0 (tCons (tC (.int 40)) tNil)) (tCall (sp_u_law_signs K) [] E0 (tCons (tC (.int 40)) tNil))) (tPart (tVar 12)) (tPart (tOp (rAddU K) (tVar 12) (tVar 3)))) (gName 13))
 (tSeq (tAsg (tIf (tTest (tOp (rEqU K) (tCall (sp_u_law_take K) [] E0 (tCons (tVar 1) (tCons (tC (.int 2)) tNil))) (tC (.int 0)))) (tRevS (tVar 13)) (tVar 13)) (gName 13))
 (tSeq (tAsg (tLst (tCons (tVar 9) (tCons (tCall (sp_u_law_picture K) [] E0 (tCons (tVar 7) (tCons (tVar 13) tNil))) tNil))) (gName 14))
 (tSeq (tIfS (tNot (tTr K (tCall (sp_u_law_same K) [] E0 (tCons (tCall (sp_u_law_due K) [] E0 (tCons (tM1 (rJoinU K) (tC (.str "
")) (tVar 9)) tNil)) (tCons (tVar 7) tNil))))) (tRet (tC (.bl false))) tNext)
 (tSeq (tFor (iRng1 (tCons (tIf (tTr K (tVar 2)) (tC (.int 4)) (tC (.int 14))) tNil)) (gName 15) (tSeq (tAsg (tCall (sp_u_law_bend K) [] E0 (tCons (tVar 1) (tCons (tOp (rIx K) (tVar 14) (tCall (sp_u_law_take K) [] E0 (tCons (tVar 1) (tCons (tC (.int 2)) tNil)))) (tCons (tVar 8) tNil)))) (gName 16))
 (tSeq (tDrop (tBM K "list" rAppend (tVar 14) (tCons (tVar 16) tNil)))
 (tIfS (tAnd (tTest (tOp rGtU (tCB (rLen K) (tCons (tVar 16) tNil)) (tC (.int 0)))) (tTest (tOp (rEqU K) (tCall (sp_u_law_take K) [] E0 (tCons (tVar 1) (tCons (tC (.int 2)) tNil))) (tC (.int 0))))) (tDrop (tBM K "list" rAppend (tVar 14) (tCons (tCall (sp_u_law_bend K) [] E0 (tCons (tVar 1) (tCons (tVar 16) (tCons (tVar 8) tNil)))) tNil))) tNext))))
 (tSeq (tAsg (tCall (sp_u_law_plan K) [] E0 (tCons (tVar 1) (tCons (tOp (rAddU K) (tC (.int 2)) (tCall (sp_u_law_take K) [] E0 (tCons (tVar 1) (tCons (tC (.int 6)) tNil)))) (tCons (tOp (rAddU K) (tC (.int 2)) (tCall (sp_u_law_take K) [] E0 (tCons (tVar 1) (tCons (tC (.int 4)) tNil)))) (tCons (tOp (rAddU K) (tC (.int 2)) (tCall (sp_u_law_take K) [] E0 (tCons (tVar 1) (tCons (tC (.int 4)) tNil)))) (tCons (tC (.bl false)) tNil)))))) (gName 17))
 (tSeq (tDrop (tBM K "list" rAppend (tVar 14) (tCons (tCall (sp_u_law_picture K) [] E0 (tCons (tVar 17) (tCons (tCall (sp_u_law_signs K) [] E0 (tCons (tCB (rLen K) (tCons (tOp (rIx K) (tVar 17) (tC (.int 0))) tNil)) tNil)) tNil))) tNil)))
 (tSeq (tFor (iSeqU K (tOp (rAddU K) (tVar 14) (tCall (sp_u_law_fixed K) [] E0 (tCons (tIf (tTr K (tVar 2)) (tOp (rIx K) (tLst (tCons (tC (.int 160)) (tCons (tC (.int 2)) tNil))) (tCall (sp_u_law_take K) [] E0 (tCons (tVar 1) (tCons (tC (.int 2)) tNil)))) (tC (.int 2))) tNil)))) (gName 18) (tIfS (tNot (tTr K (tCall (sp_u_law_ask K) [] E0 (tCons (tM1 (rJoinU K) (tC (.str "
")) (tVar 18)) tNil)))) (tRet (tC (.bl false))) tNext))
 (tRet (tAndV (tCall (sp_u_law_ask K) [] E0 (tCons (tC (.str "")) tNil)) (tAndV (tCall (sp_u_law_ask K) [] E0 (tCons (tC (.str "
")) tNil)) (tCall (sp_u_law_same K) [] E0 (tCons (tCallS (sp_picture_of K) (WE fun _ _ _ _ => False) (tCons (tVar 7) tNil)) (tCons (tM1 (rJoinU K) (tC (.str "
")) (tVar 9)) tNil))))))))))))))))))))))))))))
theorem dv_law (T : Txt K mg) (O_u_law_state : Okd P w K mg base CX0 1 "_law_state" ["script"] (sp_u_law_state K)) (O_u_law_plan : Okd P w K mg base CX0 4 "_law_plan" ["state", "many", "wide", "high", "strict"] (sp_u_law_plan K)) (O_u_law_signs : Okd P w K mg base CX0 1 "_law_signs" ["many"] (sp_u_law_signs K)) (O_u_law_picture : Okd P w K mg base CX0 1 "_law_picture" ["plan", "signs"] (sp_u_law_picture K)) (O_u_law_take : Okd P w K mg base CX0 1 "_law_take" ["state", "many"] (sp_u_law_take K)) (O_u_law_same : Okd P w K mg base CX0 2 "_law_same" ["told", "due"] (sp_u_law_same K)) (O_u_law_bend : Okd P w K mg base CX0 3 "_law_bend" ["state", "lines", "signs"] (sp_u_law_bend K)) (O_u_law_fixed : Okd P w K mg base CX0 1 "_law_fixed" ["wide"] (sp_u_law_fixed K)) (O_u_law_ask : Okd P w K mg base CX0 6 "_law_ask" ["text"] (sp_u_law_ask K)) (O_u_law_wide : Okd P w K mg base CX0 4 "_law_wide" ["plan"] (sp_u_law_wide K)) (O_u_law_due : Okd P w K mg base CX0 3 "_law_due" ["text"] (sp_u_law_due K)) (O_picture_of : Okd P w K mg base (L2N.CX P w) 3 "picture_of" ["plan"] (sp_picture_of K)) (O_room_signs : Okd P w K mg base CX0 1 "room_signs" ["rooms"] (sp_room_signs K)) {f : Addr} (cdv : Value) (A : Around) (outer : List PySem.Env) (s : Shared) (H : Hp) (E : XK) (hr : Room 6 (A.deeper (envOfC "law" (defScope s_law) s.heap.objs.size f cdv))) :
    PSs (cxOf CX0 P w K mg base N_law "law" (defScope s_law) f cdv A outer s H E) (defBody s_law) (t_law K) := by
  have sc := sc_law
  have pa : PassesOwn (model P w) (cxOf CX0 P w K mg base N_law "law" (defScope s_law) f cdv A outer s H E).A (cxOf CX0 P w K mg base N_law "law" (defScope s_law) f cdv A outer s H E).env (cxOf CX0 P w K mg base N_law "law" (defScope s_law) f cdv A outer s H E).xe := passes_of rfl
  exact (pss_cons (ps_set (i := 1) sc.nd rfl (by first | exact Or.inl rfl | exact Or.inr rfl) (pe_callD O_u_law_state hr (by decide) (pa_cons (pv 0) pa_nil)))
 (pss_cons (ps_set (i := 2) sc.nd rfl (by first | exact Or.inl rfl | exact Or.inr rfl) (pe_cmpR (op_eqU hr.units) (pe_callD O_u_law_take hr (by decide) (pa_cons (pv 1) (pa_cons pe_int pa_nil))) pe_int (nomark _)))
 (pss_cons (ps_set (i := 3) sc.nd rfl (by first | exact Or.inl rfl | exact Or.inr rfl) (pe_ifExp (pt_tr (pv 2)) pe_int (pe_op op_addU pe_int (pe_callD O_u_law_take hr (by decide) (pa_cons (pv 1) (pa_cons pe_int pa_nil))))))
 (pss_cons (ps_set (i := 4) sc.nd rfl (by first | exact Or.inl rfl | exact Or.inr rfl) (pe_ifExp (pt_tr (pv 2)) pe_int pe_int))
 (pss_cons (ps_par (i := 5) (j := 6) rfl sc.nd rfl rfl (by decide) rfl rfl (pa_cons (pe_op op_addU pe_int (pe_callD O_u_law_take hr (by decide) (pa_cons (pv 1) (pa_cons (pv 4) pa_nil)))) (pa_cons (pe_op op_addU pe_int (pe_callD O_u_law_take hr (by decide) (pa_cons (pv 1) (pa_cons (pv 4) pa_nil)))) pa_nil)) rfl)
 (pss_cons (ps_if (PW.pt (pw_and (pt_tr (pv 2)) (pw_and1 (pt_cmpR (op_eqU hr.units) (pe_callD O_u_law_take hr (by decide) (pa_cons (pv 1) (pa_cons pe_int pa_nil))) pe_int (nomark _))))) (pss_one (ps_asg (pe_tup (pa_cons pe_int (pa_cons pe_int pa_nil))) (pg_tup rfl (pgs_cons (pg_name (i := 5) sc.nd rfl (by first | exact Or.inl rfl | exact Or.inr rfl)) (pgs_cons (pg_name (i := 6) sc.nd rfl (by first | exact Or.inl rfl | exact Or.inr rfl)) pgs_nil))))) pss_nil)
 (pss_cons (ps_set (i := 7) sc.nd rfl (by first | exact Or.inl rfl | exact Or.inr rfl) (pe_callD O_u_law_plan hr (by decide) (pa_cons (pv 1) (pa_cons (pv 3) (pa_cons (pv 5) (pa_cons (pv 6) (pa_cons pe_bl pa_nil)))))))
 (pss_cons (ps_set (i := 3) sc.nd rfl (by first | exact Or.inl rfl | exact Or.inr rfl) (pe_callB (r := rLen _) call_len rfl T.f_len b_len (pa_cons (pe_ix ix_seq (pv 7) pe_int (fun _ _ => rfl)) pa_nil)))
 (pss_cons (ps_set (i := 8) sc.nd rfl (by first | exact Or.inl rfl | exact Or.inr rfl) (pe_callD O_u_law_signs hr (by decide) (pa_cons (pv 3) pa_nil)))
 (pss_cons (ps_set (i := 9) sc.nd rfl (by first | exact Or.inl rfl | exact Or.inr rfl) (pe_callD O_u_law_picture hr (by decide) (pa_cons (pv 7) (pa_cons (pv 8) pa_nil))))
 (pss_cons (ps_if (PW.pt (pw_or (pt_not (pt_tr (pe_callD O_u_law_same hr (by decide) (pa_cons (pe_callD O_room_signs hr (by decide) (pa_cons (pe_ix ix_seq (pv 7) pe_int (fun _ _ => rfl)) pa_nil)) (pa_cons (pv 8) pa_nil))))) (pw_or1 (pt_not (pt_tr (pe_callD O_u_law_same hr (by decide) (pa_cons (pe_callDSN O_picture_of hr (by decide) takes0N (pa_cons (pv 7) pa_nil)) (pa_cons (pe_joinU pe_str (pv 9)) pa_nil)))))))) (pss_one (ps_ret pe_bl)) pss_nil)
 (pss_cons (ps_set (i := 10) sc.nd rfl (by first | exact Or.inl rfl | exact Or.inr rfl) (pe_op op_addU pe_int (pe_ix ix_seq (pe_lst (pa_cons pe_int (pa_cons pe_int (pa_cons pe_int (pa_cons pe_int pa_nil))))) (pe_callD O_u_law_take hr (by decide) (pa_cons (pv 1) (pa_cons pe_int pa_nil))) (fun _ _ => rfl))))
 (pss_cons (ps_for pa rfl (pi_seqU (pe_lst (pa_cons (pe_tup (pa_cons (pv 10) (pa_cons pe_int pa_nil))) (pa_cons (pe_tup (pa_cons pe_int (pa_cons (pv 10) pa_nil))) (pa_cons (pe_tup (pa_cons pe_int (pa_cons pe_int pa_nil))) (pa_cons (pe_tup (pa_cons pe_int (pa_cons pe_int pa_nil))) pa_nil)))))) (pg_name (i := 11) sc.nd rfl (by first | exact Or.inl rfl | exact Or.inr rfl)) (pss_one (ps_if (pt_not (pt_tr (pe_callD O_u_law_wide hr (by decide) (pa_cons (pe_tup (pa_cons (pe_tup (pa_cons pe_str (pa_cons pe_str pa_nil))) (pa_cons (pe_ix ix_seq (pv 11) pe_int (fun _ _ => rfl)) (pa_cons (pe_ix ix_seq (pv 11) pe_int (fun _ _ => rfl)) (pa_cons (pe_tup (pa_cons (pe_tup (pa_cons pe_int (pa_cons pe_int (pa_cons (pe_ix ix_seq (pv 11) pe_int (fun _ _ => rfl)) (pa_cons pe_int pa_nil))))) (pa_cons (pe_tup (pa_cons pe_int (pa_cons pe_int (pa_cons (pe_ix ix_seq (pv 11) pe_int (fun _ _ => rfl)) (pa_cons (pe_ix ix_seq (pv 11) pe_int (fun _ _ => rfl)) pa_nil))))) pa_nil))) pa_nil))))) pa_nil)))) (pss_one (ps_ret pe_bl)) pss_nil)))
 (pss_cons (ps_set (i := 12) sc.nd rfl (by first | exact Or.inl rfl | exact Or.inr rfl) (pe_callD O_u_law_take hr (by decide) (pa_cons (pv 1) (pa_cons pe_int pa_nil))))
 (pss_cons (ps_set (i := 13) sc.nd rfl (by first | exact Or.inl rfl | exact Or.inr rfl) (pe_slice sl_U (pe_op op_addU (pe_callD O_u_law_signs hr (by decide) (pa_cons pe_int pa_nil)) (pe_callD O_u_law_signs hr (by decide) (pa_cons pe_int pa_nil))) (po_some (pv 12)) (po_some (pe_op op_addU (pv 12) (pv 3)))))
 (pss_cons (ps_set (i := 13) sc.nd rfl (by first | exact Or.inl rfl | exact Or.inr rfl) (pe_ifExp (pt_cmpR (op_eqU hr.units) (pe_callD O_u_law_take hr (by decide) (pa_cons (pv 1) (pa_cons pe_int pa_nil))) pe_int (nomark _)) (pe_revS (pv 13)) (pv 13)))
 (pss_cons (ps_set (i := 14) sc.nd rfl (by first | exact Or.inl rfl | exact Or.inr rfl) (pe_lst (pa_cons (pv 9) (pa_cons (pe_callD O_u_law_picture hr (by decide) (pa_cons (pv 7) (pa_cons (pv 13) pa_nil))) pa_nil))))
 (pss_cons (ps_if (pt_not (pt_tr (pe_callD O_u_law_same hr (by decide) (pa_cons (pe_callD O_u_law_due hr (by decide) (pa_cons (pe_joinU pe_str (pv 9)) pa_nil)) (pa_cons (pv 7) pa_nil))))) (pss_one (ps_ret pe_bl)) pss_nil)
 (pss_cons (ps_for pa rfl (pi_range1 rfl T.f_range (pa_cons (pe_ifExp (pt_tr (pv 2)) pe_int pe_int) pa_nil)) (pg_name (i := 15) sc.nd rfl (by first | exact Or.inl rfl | exact Or.inr rfl)) (pss_cons (ps_set (i := 16) sc.nd rfl (by first | exact Or.inl rfl | exact Or.inr rfl) (pe_callD O_u_law_bend hr (by decide) (pa_cons (pv 1) (pa_cons (pe_ix ix_seq (pv 14) (pe_callD O_u_law_take hr (by decide) (pa_cons (pv 1) (pa_cons pe_int pa_nil))) (fun _ _ => rfl)) (pa_cons (pv 8) pa_nil)))))
 (pss_cons (ps_expr (pe_bm PySem.F.plainAttrs_list PySem.F.slot_list_append PySem.F.type_list_append mt_append (pv 14) (pa_cons (pv 16) pa_nil)))
 (pss_one (ps_if (PW.pt (pw_and (pt_cmpR op_gtU (pe_callB (r := rLen _) call_len rfl T.f_len b_len (pa_cons (pv 16) pa_nil)) pe_int (nomark _)) (pw_and1 (pt_cmpR (op_eqU hr.units) (pe_callD O_u_law_take hr (by decide) (pa_cons (pv 1) (pa_cons pe_int pa_nil))) pe_int (nomark _))))) (pss_one (ps_expr (pe_bm PySem.F.plainAttrs_list PySem.F.slot_list_append PySem.F.type_list_append mt_append (pv 14) (pa_cons (pe_callD O_u_law_bend hr (by decide) (pa_cons (pv 1) (pa_cons (pv 16) (pa_cons (pv 8) pa_nil)))) pa_nil)))) pss_nil)))))
 (pss_cons (ps_set (i := 17) sc.nd rfl (by first | exact Or.inl rfl | exact Or.inr rfl) (pe_callD O_u_law_plan hr (by decide) (pa_cons (pv 1) (pa_cons (pe_op op_addU pe_int (pe_callD O_u_law_take hr (by decide) (pa_cons (pv 1) (pa_cons pe_int pa_nil)))) (pa_cons (pe_op op_addU pe_int (pe_callD O_u_law_take hr (by decide) (pa_cons (pv 1) (pa_cons pe_int pa_nil)))) (pa_cons (pe_op op_addU pe_int (pe_callD O_u_law_take hr (by decide) (pa_cons (pv 1) (pa_cons pe_int pa_nil)))) (pa_cons pe_bl pa_nil)))))))
 (pss_cons (ps_expr (pe_bm PySem.F.plainAttrs_list PySem.F.slot_list_append PySem.F.type_list_append mt_append (pv 14) (pa_cons (pe_callD O_u_law_picture hr (by decide) (pa_cons (pv 17) (pa_cons (pe_callD O_u_law_signs hr (by decide) (pa_cons (pe_callB (r := rLen _) call_len rfl T.f_len b_len (pa_cons (pe_ix ix_seq (pv 17) pe_int (fun _ _ => rfl)) pa_nil)) pa_nil)) pa_nil))) pa_nil)))
 (pss_cons (ps_for pa rfl (pi_seqU (pe_op op_addU (pv 14) (pe_callD O_u_law_fixed hr (by decide) (pa_cons (pe_ifExp (pt_tr (pv 2)) (pe_ix ix_seq (pe_lst (pa_cons pe_int (pa_cons pe_int pa_nil))) (pe_callD O_u_law_take hr (by decide) (pa_cons (pv 1) (pa_cons pe_int pa_nil))) (fun _ _ => rfl)) pe_int) pa_nil)))) (pg_name (i := 18) sc.nd rfl (by first | exact Or.inl rfl | exact Or.inr rfl)) (pss_one (ps_if (pt_not (pt_tr (pe_callD O_u_law_ask hr (by decide) (pa_cons (pe_joinU pe_str (pv 18)) pa_nil)))) (pss_one (ps_ret pe_bl)) pss_nil)))
 (pss_one (ps_ret (pe_and (pe_callD O_u_law_ask hr (by decide) (pa_cons pe_str pa_nil)) (pe_and (pe_callD O_u_law_ask hr (by decide) (pa_cons pe_str pa_nil)) (pe_one (pe_callD O_u_law_same hr (by decide) (pa_cons (pe_callDSN O_picture_of hr (by decide) takes0N (pa_cons (pv 7) pa_nil)) (pa_cons (pe_joinU pe_str (pv 9)) pa_nil))))))))))))))))))))))))))))))
end
end K19
set_option maxHeartbeats 4000000
namespace K19
open PySem PySem.Spec PyProof.Rows L2 DL
local macro_rules | `(tactic| walk_at "sz") => `(tactic| first
  | assumption
  | decide
  | omega
  | (rw [sizeLine_eq]; omega)
  | (simp only [sizeLine_eq, len_app, len_rep, len_one, List.length_append, List.length_cons, List.length_nil, List.length_map, List.length_replicate] <;> omega)
  | (simp only [sizeLine_eq, len_app, len_rep, len_one, List.length_append, List.length_cons, List.length_nil, List.length_map, List.length_replicate] at * <;> omega))
local macro_rules | `(tactic| walk_at "flat") => `(tactic| first
  | rfl
  | assumption
  | exact strs_flat _
  | decide)
local macro_rules | `(tactic| walk_at "ix") => `(tactic| first
  | rfl
  | exact atI_ints (by walk_at "sz") (by walk_at "sz")
  | exact atI_strs (by walk_at "sz") (by walk_at "sz")
  | exact atI_nn PyData.none (by walk_at "sz") (by walk_at "sz")
  | exact atI_nn (α := Nat) 0 (by walk_at "sz") (by walk_at "sz"))
local macro_rules | `(tactic| walk_at "odx") => `(tactic| first
  | fail "odx")
local macro_rules | `(tactic| walk_at "od") => `(tactic| first
  | ((with_reducible apply od_addI))
  | ((with_reducible apply od_sub))
  | ((with_reducible apply od_cmpI))
  | ((with_reducible apply od_eqI))
  | ((with_reducible apply od_neI))
  | ((with_reducible apply od_cmpS))
  | ((with_reducible apply od_eqS))
  | ((with_reducible apply od_neS))
  | ((with_reducible apply od_eqB))
  | ((with_reducible apply od_neB))
  | ((with_reducible apply od_isB))
  | ((with_reducible apply od_notB))
  | ((with_reducible apply od_inC))
  | ((with_reducible apply od_ninC))
  | ((with_reducible apply od_mod); (· walk_at "sz"))
  | ((with_reducible apply od_div); (· walk_at "sz"))
  | ((with_reducible apply od_mulI); (· first | exact Or.inr (by decide) | exact Or.inl (by decide) | exact Or.inr (by omega) | exact Or.inl (by omega)))
  | ((with_reducible apply od_addS); (· walk_at "sz"))
  | ((with_reducible apply od_addT); (· walk_at "sz"))
  | ((with_reducible apply od_ixL); (· walk_at "ix"))
  | ((with_reducible apply od_ixT); (· walk_at "ix"))
  | ((with_reducible apply od_ixS); (· walk_at "sz"); (· walk_at "ix"))
  | ((with_reducible apply od_inT); (· walk_at "flat"); (· walk_at "flat"))
  | ((with_reducible apply od_ninT); (· walk_at "flat"); (· walk_at "flat"))
  | ((with_reducible apply od_inL); (· walk_at "flat"); (· walk_at "flat"))
  | ((with_reducible apply od_ninL); (· walk_at "flat"); (· walk_at "flat"))
  | ((with_reducible apply od_pow); (· walk_at "sz"))
  | ((with_reducible apply od_mulS); (· walk_at "sz"); (· walk_at "sz"); (· walk_at "sz"))
  | ((with_reducible apply od_ltQ))
  | ((with_reducible apply od_geQ))
  | exact od_inC
  | exact od_ninC
  | walk_at "odx")
local macro_rules | `(tactic| walk_at "ea") => `(tactic| first
  | ((with_reducible apply ea_nil))
  | ((with_reducible apply ea_cons); (· walk_at "ev"); (· walk_at "ea")))
local macro_rules | `(tactic| walk_at "cdx") => `(tactic| first
  | fail "cdx")
local macro_rules | `(tactic| walk_at "cd") => `(tactic| first
  | ((with_reducible apply cd_max))
  | ((with_reducible apply cd_min))
  | ((with_reducible apply cd_abs))
  | ((with_reducible apply cd_lenL))
  | ((with_reducible apply cd_lenT))
  | ((with_reducible apply cd_lenS); (· walk_at "sz"))
  | ((with_reducible apply cd_int))
  | ((with_reducible apply cd_strI); (· walk_at "sz"))
  | ((with_reducible apply cd_tupL))
  | ((with_reducible apply cd_tupT))
  | walk_at "cdx")
local macro_rules | `(tactic| walk_at "eo") => `(tactic| first
  | ((with_reducible apply eo_none))
  | ((with_reducible apply eo_some); (· walk_at "ev")))
local macro_rules | `(tactic| walk_at "cnx") => `(tactic| first
  | fail "cnx")
local macro_rules | `(tactic| walk_at "evnx") => `(tactic| first
  | fail "evnx")
local macro_rules | `(tactic| walk_at "evn") => `(tactic| first
  | ((with_reducible apply en_lst); (· walk_at "ea"); (· walk_at "sz"))
  | ((with_reducible apply en_slL); (· walk_at "ev"); (· walk_at "eo"); (· walk_at "eo"))
  | ((with_reducible apply en_slScr); (· walk_at "ev"); (· walk_at "eo"); (· walk_at "eo"))
  | ((with_reducible apply en_revL); (· walk_at "ev"))
  | ((with_reducible apply en_dnewT))
  | ((with_reducible apply en_dnewK))
  | ((with_reducible apply en_op); (· walk_at "ev"); (· walk_at "ev"); (· first | ((with_reducible apply on_addL); (· walk_at "sz")) | ((with_reducible apply on_mulL); (· walk_at "sz"); (· walk_at "sz"); (· walk_at "sz"))))
  | ((with_reducible apply en_cb); (· walk_at "ea"); (· first | with_reducible exact cn_listL | with_reducible exact cn_listT | with_reducible exact cn_sortS (by walk_at "sz") | walk_at "cnx"))
  | walk_at "evnx")
local macro_rules | `(tactic| walk_at "sd") => `(tactic| first
  | assumption
  | rfl
  | omega
  | decide
  | (constructor <;> omega)
  | (simp only [*]; done))
local macro_rules | `(tactic| walk_at "relx") => `(tactic| first
  | fail "relx")
local macro_rules | `(tactic| walk_at "rel") => `(tactic| first
  | exact ⟨_, rfl, by rfl⟩
  | exact ⟨_, rfl, by walk_at "sd", by rfl⟩
  | exact ⟨_, _, rfl, by rfl⟩
  | exact ⟨_, _, rfl, by walk_at "sd", by rfl⟩
  | exact ⟨_, _, rfl, by walk_at "sd", by walk_at "sd", by rfl⟩
  | walk_at "relx")
local macro_rules | `(tactic| walk_at "evx") => `(tactic| first
  | fail "evx")
local macro_rules | `(tactic| walk_at "isi") => `(tactic| first
  | rfl
  | assumption
  | (simp only [isDicD, tyD]; done))
local macro_rules | `(tactic| walk_at "ok") => `(tactic| first
  | rfl
  | assumption
  | decide
  | (simp only [*]; done))
local macro_rules | `(tactic| walk_at "ev") => `(tactic| first
  | ((with_reducible apply ev_var); (· exact rfl))
  | ((with_reducible apply ev_int))
  | ((with_reducible apply ev_str))
  | ((with_reducible apply ev_bl))
  | ((with_reducible apply ev_non))
  | ((with_reducible apply ev_neg); (· walk_at "ev"))
  | ((with_reducible apply ev_ixO); (· exact rfl); (· walk_at "ev"); (· walk_at "ix"))
  | ((with_reducible apply ev_lenO); (· exact rfl))
  | ((with_reducible apply ev_inO); (· walk_at "ev"); (· exact rfl); (· walk_at "flat"); (· walk_at "flat"))
  | ((with_reducible apply ev_ninO); (· walk_at "ev"); (· exact rfl); (· walk_at "flat"); (· walk_at "flat"))
  | ((with_reducible apply ev_op); (· walk_at "ev"); (· walk_at "ev"); (· walk_at "od"))
  | ((with_reducible apply ev_cb); (· walk_at "ea"); (· walk_at "cd"))
  | ((with_reducible apply ev_call); (· walk_at "ea"); (· walk_at "rel"))
  | ((with_reducible apply ev_tup); (· walk_at "ea"); (· walk_at "sz"))
  | ((with_reducible apply ev_isi); (· walk_at "ev"); (· walk_at "isi"); (· first | exact (show kitB _ _ = some true from rfl) | exact (show kitB _ _ = some false from rfl)))
  | ((with_reducible apply ev_isN); (· walk_at "ev"))
  | ((with_reducible apply ev_notN); (· walk_at "ev"))
  | ((with_reducible apply ev_inDS); (· walk_at "ev"); (· walk_at "ev"))
  | ((with_reducible apply ev_ninDS); (· walk_at "ev"); (· walk_at "ev"))
  | ((with_reducible apply ev_and0); (· exact ev_is (by walk_at "ev") (congrArg PyData.bool (by walk_at "ok"))))
  | ((with_reducible apply ev_or1); (· exact ev_is (by walk_at "ev") (congrArg PyData.bool (by walk_at "ok"))))
  | ((with_reducible apply ev_andV); (· walk_at "ev"); (· intro _; walk_at "ev"))
  | ((with_reducible apply ev_orV); (· walk_at "ev"); (· intro _; walk_at "ev"))
  | ((with_reducible apply ev_notV); (· walk_at "ev"))
  | ((with_reducible apply ev_if1); (· exact et_is (by walk_at "et") (by walk_at "ok")); (· walk_at "ev"))
  | ((with_reducible apply ev_if0); (· exact et_is (by walk_at "et") (by walk_at "ok")); (· walk_at "ev"))
  | ((with_reducible apply ev_ite); (· walk_at "et"); (· intro _; walk_at "ev"); (· intro _; walk_at "ev"))
  | ((with_reducible apply ev_slS); (· walk_at "ev"); (· walk_at "sz"); (· walk_at "eo"); (· walk_at "eo"))
  | ((with_reducible apply ev_slT); (· walk_at "ev"); (· walk_at "eo"); (· walk_at "eo"))
  | ((with_reducible apply ev_chain); (· walk_at "ev"); (· walk_at "ev"); (· walk_at "od"); (· intro _; walk_at "ev"); (· intro _; walk_at "od"))
  | ((with_reducible apply ev_N); (· walk_at "evn"))
  | walk_at "evx")
local macro_rules | `(tactic| walk_at "et!") => `(tactic| first
  | exact et_is (by walk_at "et") (by walk_at "ok"))
local macro_rules | `(tactic| walk_at "et") => `(tactic| first
  | ((with_reducible apply et_or1); (· exact et_is (by walk_at "et") (by walk_at "ok")))
  | ((with_reducible apply et_and0); (· exact et_is (by walk_at "et") (by walk_at "ok")))
  | ((with_reducible apply et_test); (· walk_at "ev"))
  | ((with_reducible apply et_B); (· walk_at "ev"))
  | ((with_reducible apply et_not); (· walk_at "et"))
  | ((with_reducible apply et_and); (· walk_at "et"); (· intro _; walk_at "et"))
  | ((with_reducible apply et_or); (· walk_at "et"); (· intro _; walk_at "et"))
  | ((with_reducible apply et_trB); (· walk_at "ev"))
  | ((with_reducible apply et_trO); (· exact rfl))
  | ((with_reducible apply et_tr); (· walk_at "ev"); (· walk_at "isi"); (· walk_at "sz")))
section
variable {P : Program} {w : World} {K : PySem.W.Frag} {mg : Str → Option Value} {base : Heap}
abbrev FnP (K : PySem.W.Frag) (x : Str) (st : Stmt) : Prop := ∃ fd, FunD K x x (defArgs st) (defBody st) (defScope st) [] [] (He.ga K x) fd
theorem ok_name_fault (T : Txt K mg) (hd : FnP K "name_fault" s_name_fault) (hm : mg "name_fault" = some (.ref (He.ga K "name_fault")))  : Okd P w K mg base CX0 1 "name_fault" ["thing"] (sp_name_fault K) := by
  obtain ⟨fd, F⟩ := hd
  refine ⟨hm, fd, fn_pf F sc_name_fault ?_ (fun cdv A outer s H E hr => ⟨_, dv_name_fault T  cdv A outer s H E hr, ?_⟩), F.bindsN (fun _ _ _ _ _ _ us hl => match us, hl with | [_], _ => rfl), F.kp⟩
  · rintro ds d ⟨x0, rfl, _⟩
    rfl
  · rintro ds d ⟨z, rfl, hz, rfl⟩
    refine ST.mono (P := fun o => o = .rt (nfS z)) ?_ fun o h => .inl h
    show ST K E0 (t_name_fault K) [.fr (.str z), .no, .no] _
    unfold t_name_fault
    have hz' : z.length ≤ sizeLine := by rw [sizeLine_eq]; omega
    refine q_when (b := !lenOk z) (by walk_at "et!") (fun hb => st_ret (by walk_at "ev") ?_) fun hb => ?_
    · show Oc.rt _ = Oc.rt (if lenOk z = true then _ else _)
      rw [if_neg (by simpa using hb)]
    · refine q_for (ei_enumS (by walk_at "ea")) (fun i ρ => (∀ j, j < i → badAt z j = false) ∧ ∃ s1 s2, ρ = [.fr (.str z), s1, s2]) ⟨fun j hj => absurd hj (Nat.not_lt_zero _), _, _, rfl⟩ ?_ ?_
      · rintro i ρ hi ⟨hb2, s1, s2, rfl⟩
        refine ⟨_, _, gt_tup rfl (gts_cons gt_name (gts_cons gt_name gts_nil)), ?_⟩
        refine st_if (b := badAt z i) (by walk_at "et!") (fun hb3 => st_ret (by walk_at "ev") ?_) (fun hb3 => st_next ?_)
        · show Oc.rt _ = Oc.rt (if lenOk z = true then _ else _)
          rw [if_pos (by simpa using hb), firstP_some hi hb2 hb3]
          rfl
        · refine ⟨fun j hj => ?_, _, _, rfl⟩
          by_cases e : j = i
          · rw [e]; exact hb3
          · exact hb2 j (by omega)
      · rintro ρ ⟨hb2, s1, s2, rfl⟩
        refine st_ret (by walk_at "ev") ?_
        show Oc.rt _ = Oc.rt (if lenOk z = true then _ else _)
        rw [if_pos (by simpa using hb), firstP_none hb2]
        rfl
theorem ok_is_name (T : Txt K mg) (hd : FnP K "is_name" s_is_name) (hm : mg "is_name" = some (.ref (He.ga K "is_name"))) (O_name_fault : Okd P w K mg base CX0 1 "name_fault" ["thing"] (sp_name_fault K)) : Okd P w K mg base CX0 2 "is_name" ["thing"] (sp_is_name K) := by
  obtain ⟨fd, F⟩ := hd
  refine ⟨hm, fd, fn_pf F sc_is_name ?_ (fun cdv A outer s H E hr => ⟨_, dv_is_name T O_name_fault cdv A outer s H E hr, ?_⟩), F.bindsN (fun _ _ _ _ _ _ us hl => match us, hl with | [_], _ => rfl), F.kp⟩
  · rintro ds d ⟨x0, rfl, _⟩
    rfl
  · rintro ds d ⟨z, rfl, hz, rfl⟩
    refine ST.mono (P := fun o => o = .rt (.bool (nameB z))) ?_ fun o h => .inl h
    show ST K E0 (t_is_name K) [.fr (.str z)] _
    unfold t_is_name sp_name_fault
    exact st_ret (ev_isN (ev_call (ea_cons (ev_var rfl) ea_nil) ⟨z, rfl, hz, rfl⟩)) rfl
theorem ok_text_lines (T : Txt K mg) (hd : FnP K "text_lines" s_text_lines) (hm : mg "text_lines" = some (.ref (He.ga K "text_lines")))  : Okd P w K mg base CX0 1 "text_lines" ["text"] (sp_text_lines K) := by
  obtain ⟨fd, F⟩ := hd
  refine ⟨hm, fd, fn_pf F sc_text_lines ?_ (fun cdv A outer s H E hr => ⟨_, dv_text_lines T  cdv A outer s H E hr, ?_⟩), F.bindsN (fun _ _ _ _ _ _ us hl => match us, hl with | [_], _ => rfl), F.kp⟩
  · rintro ds d ⟨x0, rfl, _⟩
    rfl
  · rintro ds d ⟨z, rfl, hz, rfl⟩
    refine ST.mono (P := fun o => o = .rt (.list ((linesT z).map PyData.str))) ?_ fun o h => .inl h
    show ST K E0 (t_text_lines K) [.fr (.str z)] _
    unfold t_text_lines
    refine st_ret (ev_ite (d1 := .list ((piecesT 10 z).map PyData.str)) (d2 := .list []) (et_test (ev_op (ev_var (by rfl)) ev_str od_neS)) (fun _ => ev_N (en_is (en_split (ev_var (by rfl)) ev_str (by decide +kernel) (by rw [sizeLine_eq]; omega)) (by rw [split_nl]))) (fun _ => ev_N (en_lst ea_nil (Nat.zero_le _)))) ?_
    unfold linesT
    by_cases h : z = ""
    · rw [decide_eq_true h, if_pos h]; rfl
    · rw [decide_eq_false h, if_neg h]; rfl
theorem wipe_len : ∀ (vs : List Nat) (ρ : List Sl), (wipeS ρ vs).length = ρ.length
  | [], _ => rfl
  | v :: vs, ρ => by
    unfold wipeS
    rw [List.length_set]
    exact wipe_len vs ρ
theorem words_lc (z : Str) : lcD (piecesT 32 z).length (fun i => (fun w : Str => !decide (w = "")) ((piecesT 32 z).getD i Str.empty)) (fun i => PyData.str ((piecesT 32 z).getD i Str.empty)) = (wordsT z).map PyData.str := lc_filterA (p := fun w : Str => !decide (w = "")) (h := PyData.str) Str.empty (piecesT 32 z)
theorem en_words {ρ : List Sl} {te : TE} {vs : List Nat} {n : Nat} {z : Str} (hn : n ∈ vs) (hl : n < ρ.length) (h : EV K te ρ (.str z)) (hz : z.length ≤ 10000000) : EVN K (tLc (iSeqU K (tM1 rSplitU te (tC (.str " ")))) (gName n) (tTest (tOp (rNeU K) (tVar n) (tC (.str "")))) (tVar n) vs) ρ (.list ((wordsT z).map PyData.str)) := by
  have hp := pieces_len 32 z
  refine en_is (en_lc (b := fun i => (fun w : Str => !decide (w = "")) ((piecesT 32 z).getD i Str.empty)) (f := fun i => PyData.str ((piecesT 32 z).getD i Str.empty)) (ei_listS (zs := piecesT 32 z) (ev_N (en_is (en_split h ev_str (by decide +kernel) (by rw [sizeLine_eq]; omega)) (by rw [split_sp])))) (by omega) fun i hi => ⟨_, _, gt_name, by simpa using hn, ?_, fun _ => ?_⟩) (congrArg PyData.list (words_lc z))
  · exact et_test (ev_op (ev_var (by rw [List.getElem?_set_self (by rw [wipe_len]; exact hl)])) ev_str od_neS)
  · exact ev_var (by rw [List.getElem?_set_self (by rw [wipe_len]; exact hl)])
theorem ok_words_of (T : Txt K mg) (hd : FnP K "words_of" s_words_of) (hm : mg "words_of" = some (.ref (He.ga K "words_of")))  : Okd P w K mg base CX0 1 "words_of" ["line"] (sp_words_of K) := by
  obtain ⟨fd, F⟩ := hd
  refine ⟨hm, fd, fn_pf F sc_words_of ?_ (fun cdv A outer s H E hr => ⟨_, dv_words_of T  cdv A outer s H E hr, ?_⟩), F.bindsN (fun _ _ _ _ _ _ us hl => match us, hl with | [_], _ => rfl), F.kp⟩
  · rintro ds d ⟨x0, rfl, _⟩
    rfl
  · rintro ds d ⟨z, rfl, hz, rfl⟩
    refine ST.mono (P := fun o => o = .rt (.list ((wordsT z).map PyData.str))) ?_ fun o h => .inl h
    show ST K E0 (t_words_of K) [.fr (.str z), .no] _
    unfold t_words_of
    exact st_ret (ev_N (en_words (n := 1) (by simp) (Nat.lt_succ_self 1) (ev_var (by rfl)) hz)) (by rfl)
theorem s2 : 2 ≤ sizeLine := by rw [sizeLine_eq]; decide
theorem s4 : 4 ≤ sizeLine := by rw [sizeLine_eq]; decide
theorem getD_bx {bs : List Bx} {i : Nat} (hi : i < bs.length) : (bs.map bxD).getD i .none = bxD (bA bs i) := by
  unfold bA
  rw [List.getD_eq_getElem?_getD, List.getD_eq_getElem?_getD, List.getElem?_map, List.getElem?_eq_getElem hi]
  rfl
theorem bA_mem {bs : List Bx} {i : Nat} (hi : i < bs.length) : bA bs i ∈ bs := DL.getD_mem hi
theorem sIx_from (n k : Nat) : HT.sIx n 0 (some ((k : Int) + 1)) = min (k + 1) n := by
  have := HT.sIx_nat n 0 (k + 1)
  rwa [show ((k + 1 : Nat) : Int) = (k : Int) + 1 from by omega] at this
theorem cut_from {ds : List D} {k : Nat} (h : k < ds.length) : cutDs ds (some ((k : Int) + 1)) none = ds.drop (k + 1) := by
  unfold cutDs
  rw [sIx_from, Nat.min_eq_left (by omega)]
  show (ds.drop (k + 1)).take (ds.length - (k + 1)) = _
  exact List.take_of_length_le (by rw [List.length_drop]; exact Nat.le_refl _)
theorem ev_bx {ρ : List Sl} {te : TE} {b : Bx} (hp : EV K te ρ (bxD b)) : EV K (tOp (rIx K) te (tC (.int 0))) ρ (.int b.w) ∧ EV K (tOp (rIx K) te (tC (.int 1))) ρ (.int b.s) ∧ EV K (tOp (rIx K) te (tC (.int 2))) ρ (.int b.e) ∧ EV K (tOp (rIx K) te (tC (.int 3))) ρ (.int b.n) :=
  ⟨ev_op hp ev_int (od_ixT rfl), ev_op hp ev_int (od_ixT rfl), ev_op hp ev_int (od_ixT rfl), ev_op hp ev_int (od_ixT rfl)⟩
/-- four names take a box, a plan -/
theorem gt_bx {ρ : List Sl} {b : Bx} {i j k l : Nat} : GT K (gTup K 4 (gCons (gName i) (gCons (gName j) (gCons (gName k) (gCons (gName l) gNil))))) ρ (bxD b) ((((ρ.set i (.fr (.int b.w))).set j (.fr (.int b.s))).set k (.fr (.int b.e))).set l (.fr (.int b.n))) [i, j, k, l] := gt_tup rfl (gts_cons gt_name (gts_cons gt_name (gts_cons gt_name (gts_cons gt_name gts_nil))))
/-- for x in the script -/
theorem ei_scr {te : TE} {ρ : List Sl} {ns : List Int} (h : EV K te ρ (.dict [(.none, .list (ns.map PyData.int))])) : EI K (iSeqU K te) ρ ns.length (fun i => .int (ns.getD i 0)) := fun G0 H0 G H σ R E q =>
  h G0 H0 G H σ _ E fun v G1 H1 e1 hv => by
    generalize hk : [((PyData.none : D), (PyData.list (ns.map PyData.int) : D))] = kvs at hv
    cases hv with
    | dK a b => cases b with
      | nil => cases hk
      | @cons k => cases k <;> cases hk
    | dT a b => cases hk
    | sta _ _ => cases hk
    | opq _ => cases hk
    | raw _ => cases hk
    | @scr a ms sq =>
      have e2 : ms.map PyData.int = ns.map PyData.int := by
        injection hk with h1 h2
        injection h1 with h1 h2
        injection h2 with h2
        exact h2.symm
      have e4 : ms = ns := by
        have inj : ∀ (as bs : List Int), as.map PyData.int = bs.map PyData.int → as = bs := by
          intro as
          induction as with
          | nil => intro bs h; cases bs with
            | nil => rfl
            | cons b bs => exact nomatch h
          | cons a as ih => intro bs h; cases bs with
            | nil => exact nomatch h
            | cons b bs =>
              rw [List.map_cons, List.map_cons] at h
              injection h with h1 h2
              injection h1 with h1
              rw [h1, ih bs h2]
        exact inj _ _ e2
      subst e4
      refine .inl ⟨a, _, rfl, e1.gh.l sq, ?_⟩
      have q' := q
      rw [← List.length_map (f := V.int) (as := ms)] at q'
      refine q' _ G1 H1 _ _ e1 (walk_list (K := K) (a := a)) (fun G2 H2 hg gh => gh.l ((Sub.of hg).l sq)) fun i G2 H2 x H3 hi hg gh hy => ?_
      obtain ⟨rfl, hx⟩ := hy
      refine ⟨G2, .refl gh, ?_⟩
      rw [List.getElem?_map] at hx
      cases hm : ms[i]? with
      | none => rw [hm] at hx; exact nomatch hx
      | some m =>
        rw [hm] at hx
        obtain rfl : V.int m = x := by injection hx
        show Dq K G2 (.int m) (.int (ms.getD i 0))
        rw [getD_of hm]
        exact .int m
theorem lcI {n : Nat} (b : Nat → Bool) (g : Nat → Int) : ∃ ms : List Int, lcD n b (fun i => .int (g i)) = ms.map PyData.int := by
  induction n with
  | zero => exact ⟨[], rfl⟩
  | succ n ih =>
    obtain ⟨ms, e⟩ := ih
    unfold lcD
    by_cases hb : b n = true
    · rw [if_pos hb, e]
      exact ⟨ms ++ [g n], by rw [List.map_append]; rfl⟩
    · rw [if_neg hb]
      exact ⟨ms, e⟩
theorem ok_u_law_state (T : Txt K mg) (hd : FnP K "_law_state" s_u_law_state) (hm : mg "_law_state" = some (.ref (He.ga K "_law_state")))  : Okd P w K mg base CX0 1 "_law_state" ["script"] (sp_u_law_state K) := by
  obtain ⟨fd, F⟩ := hd
  refine ⟨hm, fd, fn_pf F sc_u_law_state ?_ (fun cdv A outer s H E hr => ⟨_, dv_u_law_state T  cdv A outer s H E hr, ?_⟩), F.bindsN (fun _ _ _ _ _ _ us hl => match us, hl with | [_], _ => rfl), F.kp⟩
  · rintro ds d ⟨x0, rfl, _⟩
    rfl
  · rintro ds d ⟨ns, rfl, hn, rfl⟩
    refine ST.mono (P := fun o => o = .rt stD) ?_ fun o h => .inl h
    show ST K E0 (t_u_law_state K) [.fr (.dict [(.none, .list (ns.map PyData.int))]), .no, .no] _
    unfold t_u_law_state
    refine q_asg (d := .int 8087) ev_int ?_
    refine q_for (ei_scr (ns := ns) (ev_var rfl)) (fun _ ρ => ∃ (x : Int) (s2 : Sl), ρ = [.fr (.dict [(.none, .list (ns.map PyData.int))]), .fr (.int x), s2]) ⟨_, _, rfl⟩ ?_ ?_
    · rintro i ρ hi ⟨x, s2, rfl⟩
      refine ⟨_, _, gt_name, ?_⟩
      exact st_asg (ev_op (ev_op (ev_op (ev_op (ev_var (d := .int x) rfl) ev_int (od_mulI (.inr (by decide)))) (ev_op (ev_cb (ea_cons (ev_var (d := .int (ns.getD i 0)) rfl) ea_nil) cd_int) ev_int (od_mod (by decide))) od_addI) ev_int od_addI) ev_int (od_mod (by decide))) ⟨_, _, rfl⟩
    · rintro ρ ⟨x, s2, rfl⟩
      obtain ⟨ms, hms⟩ := lcI (n := ns.length) (fun i => decide ((10 : Int) ^ (18 : Int).toNat ≤ (if ns.getD i 0 < 0 then - ns.getD i 0 else ns.getD i 0))) (fun i => if ns.getD i 0 < 0 then - ns.getD i 0 else ns.getD i 0)
      refine st_ret (ev_stNew (evnx_of (en_lc (ei_scr (ns := ns) (ev_var rfl)) (by omega) fun i hi => ⟨_, _, gt_name, by simp, ?_, fun _ => ?_⟩) ⟨ms, congrArg PyData.list hms⟩) (ev_var rfl)) (by rfl)
      · exact et_test (ev_op (ev_cb (ea_cons (ev_cb (ea_cons (ev_var (d := .int (ns.getD i 0)) rfl) ea_nil) cd_int) ea_nil) cd_abs) (ev_op ev_int ev_int (od_pow (by decide))) od_cmpI)
      · exact ev_cb (ea_cons (ev_cb (ea_cons (ev_var (d := .int (ns.getD i 0)) rfl) ea_nil) cd_int) ea_nil) cd_abs
/-- some int -/
def AnyI : D → Prop := fun d => ∃ i : Int, d = .int i
def IntB (m : Int) : D → Prop := fun d => ∃ i : Int, d = .int i ∧ 0 ≤ i ∧ i < m
theorem evx_mod {ρ : List Sl} {ta tb : TE} {m : Int} (h : EVX K ta ρ AnyI) (hb : EV K tb ρ (.int m)) (h0 : 0 < m) : EVX K (tOp rModU ta tb) ρ (IntB m) := evx_op (Pc := fun d => d = .int m) h (evx_of hb rfl) (by
  rintro a b ⟨i, rfl⟩ rfl
  exact ⟨_, od_mod h0, _, rfl, Int.emod_nonneg _ (by omega), Int.emod_lt_of_pos _ h0⟩)
theorem evx_add {ρ : List Sl} {ta tb : TE} (h : EVX K ta ρ AnyI) (hb : EVX K tb ρ AnyI) : EVX K (tOp (rAddU K) ta tb) ρ AnyI := evx_op h hb (by
  rintro a b ⟨i, rfl⟩ ⟨j, rfl⟩
  exact ⟨_, od_addI, _, rfl⟩)
theorem evx_mulC {ρ : List Sl} {ta tb : TE} {c : Int} (h : EVX K ta ρ AnyI) (hb : EV K tb ρ (.int c)) (hc : -(2 ^ 64) < c ∧ c < 2 ^ 64) : EVX K (tOp rMulU ta tb) ρ AnyI := evx_op (Pc := fun d => d = .int c) h (evx_of hb rfl) (by
  rintro a b ⟨i, rfl⟩ rfl
  exact ⟨_, od_mulI (.inr hc), _, rfl⟩)
theorem evx_int {ρ : List Sl} {ta : TE} (h : EVX K ta ρ AnyI) : EVX K (tCB rIntU (tCons ta tNil)) ρ AnyI := evx_cb (Pl := fun ds => ∃ i : Int, ds = [.int i]) (eax_one h (by rintro d ⟨i, rfl⟩; exact ⟨i, rfl⟩)) (by
  rintro ds ⟨i, rfl⟩
  exact ⟨_, cd_int, _, rfl⟩)
theorem evx_st {ρ : List Sl} {k : Int} {n : Nat} (hi : ρ[n]? = some (.fr stD)) (hk : k = 0 ∨ k = 2 ∨ k = 3) : EVX K (tOp (rIx K) (tVar n) (tC (.int k))) ρ AnyI := evx_stI (ev_var hi) ev_int hk fun i => ⟨i, rfl⟩
theorem ok_u_law_take (T : Txt K mg) (hd : FnP K "_law_take" s_u_law_take) (hm : mg "_law_take" = some (.ref (He.ga K "_law_take")))  : Okd P w K mg base CX0 1 "_law_take" ["state", "many"] (sp_u_law_take K) := by
  obtain ⟨fd, F⟩ := hd
  refine ⟨hm, fd, fn_pq F sc_u_law_take ?_ (fun cdv A outer s H E hr => ⟨_, dv_u_law_take T  cdv A outer s H E hr, ?_⟩), F.bindsN (fun _ _ _ _ _ _ us hl => match us, hl with | [_, _], _ => rfl), F.kp⟩
  · rintro ds ⟨x0, rfl, _⟩
    rfl
  · rintro ds ⟨m, rfl, h0, h1⟩
    show ST K E0 (t_u_law_take K) [.fr stD, .fr (.int m), .no, .no] _
    unfold t_u_law_take
    refine st_seq (st_stPop (n := 0) rfl ?_)
    refine q_whenV (Pb := fun _ => True) (etx_test (Pd := fun d => ∃ b, d = .bool b) (evx_op (evx_st (n := 0) rfl (.inl rfl)) (evx_of (Pd := fun d => d = .int 0) ev_int rfl) ?_) (by rintro d ⟨b, rfl⟩; exact ⟨b, rfl, trivial⟩)) (fun _ => ?_) fun _ => ?_
    · rintro a b ⟨i, rfl⟩ rfl
      exact ⟨_, od_cmpI, _, rfl⟩
    · refine q_asgV (evx_mod (evx_int (evx_st (n := 0) rfl (.inl rfl))) (ev_var (d := .int m) rfl) h0) ?_
      rintro d ⟨v, rfl, v0, v1⟩
      refine st_seq (st_stSet (Pd := AnyI) (n := 0) rfl (.inl rfl) (evx_op (Pc := fun d => d = .int m) (evx_int (evx_st (n := 0) rfl (.inl rfl))) (evx_of (ev_var (d := .int m) rfl) rfl) ?_) (fun d h => h) ?_)
      · rintro a b ⟨i, rfl⟩ rfl
        exact ⟨_, od_div ⟨h0, by omega⟩, _, rfl⟩
      · exact st_ret (ev_var (d := .int v) rfl) ⟨_, rfl, m, v, rfl, rfl, v0, v1⟩
    · refine st_seq (st_stAug (n := 0) rfl ?_)
      refine q_asgV (evx_mod (evx_add (evx_add (evx_mulC (evx_int (evx_st (n := 0) rfl (.inr (.inl rfl)))) ev_int (by decide)) (evx_mulC (evx_int (evx_st (n := 0) rfl (.inr (.inr rfl)))) ev_int (by decide))) (evx_of ev_int ⟨_, rfl⟩)) ev_int (by decide)) ?_
      rintro d ⟨x, rfl, x0, x1⟩
      refine q_asgV (evx_mod (evx_add (evx_of (ev_op (ev_var (d := .int x) rfl) (ev_var (d := .int x) rfl) (od_mulI (.inl (by omega)))) ⟨_, rfl⟩) (evx_int (evx_st (n := 0) rfl (.inr (.inl rfl))))) ev_int (by decide)) ?_
      rintro d ⟨y, rfl, y0, y1⟩
      refine q_asgV (evx_mod (evx_add (evx_of (ev_op (ev_var (d := .int y) rfl) (ev_var (d := .int y) rfl) (od_mulI (.inl (by omega)))) ⟨_, rfl⟩) (evx_int (evx_st (n := 0) rfl (.inr (.inr rfl))))) ev_int (by decide)) ?_
      rintro d ⟨z, rfl, z0, z1⟩
      exact st_ret (ev_op (ev_op (ev_var (d := .int z) rfl) ev_int (od_div (by decide))) (ev_var (d := .int m) rfl) (od_mod h0)) ⟨_, rfl, m, _, rfl, rfl, Int.emod_nonneg _ (by omega), Int.emod_lt_of_pos _ h0⟩
theorem ev_take {ρ : List Sl} {n : Nat} {m : Int} {tb : TE} {Pd : D → Prop} (hi : ρ[n]? = some (.fr stD)) (hb : EV K tb ρ (.int m)) (h0 : 0 < m) (h1 : m ≤ 1000000) (k : ∀ v : Int, 0 ≤ v → v < m → Pd (.int v)) : EVX K (tCall (sp_u_law_take K) [] E0 (tCons (tVar n) (tCons tb tNil))) ρ Pd := by
  unfold sp_u_law_take
  refine evx_callQ (Pl := fun ds => ds = [stD, .int m]) (eax_of (ea_cons (ev_var hi) (ea_cons hb ea_nil)) rfl) ?_
  rintro ds rfl
  refine ⟨⟨m, rfl, h0, h1⟩, ?_⟩
  rintro d ⟨m', v, e, rfl, a, b⟩
  obtain rfl : m = m' := by injection e with _ e; injection e with e; injection e
  exact k v a b
def Chars (z : Str) : Prop := ∀ x ∈ z.cps.toList, x ∈ lowC.cps.toList ∨ x ∈ numC.cps.toList
theorem HeadLow.chars {z : Str} (h : HeadLow z) : Chars z := by
  obtain ⟨c, r, e, m, k⟩ := h
  intro x hx
  rw [e] at hx
  rcases List.mem_cons.mp hx with rfl | hx
  · exact .inl m
  · exact k x hx
theorem head_app {a b : Str} (h : HeadLow a) (k : Chars b) : HeadLow (a ++ b) := by
  obtain ⟨c, r, e, m, kr⟩ := h
  refine ⟨c, r ++ b.cps.toList, by rw [PyProof.Rows.cps_toList_append, e]; rfl, m, ?_⟩
  intro x hx
  rcases List.mem_append.mp hx with hx | hx
  · exact kr x hx
  · exact k x hx
theorem len_app (a b : Str) : (a ++ b).length = a.length + b.length := by
  have e := congrArg List.length (PyProof.Rows.cps_toList_append a b)
  rw [List.length_append, Array.length_toList, Array.length_toList, Array.length_toList] at e
  exact e
theorem cut8_list (z : Str) : (cutS z none (some 8)).cps.toList = z.cps.toList.take 8 := by
  unfold cutS
  show List.take (HT.sIx z.cps.size z.cps.size (some ((8 : Nat) : Int)) - 0) (z.cps.toList.drop 0) = z.cps.toList.take 8
  rw [HT.sIx_nat, List.drop_zero, Nat.sub_zero]
  by_cases h : z.cps.size ≤ 8
  · rw [Nat.min_eq_right h, List.take_of_length_le (by rw [Array.length_toList]; exact Nat.le_refl _), List.take_of_length_le (by rw [Array.length_toList]; exact h)]
  · rw [Nat.min_eq_left (by omega)]
theorem cut8_head {z : Str} (h : HeadLow z) : HeadLow (cutS z none (some 8)) ∧ (cutS z none (some 8)).length ≤ 8 := by
  constructor
  · obtain ⟨c, r, e, m, k⟩ := h
    exact ⟨c, r.take 7, by rw [cut8_list, e]; rfl, m, fun x hx => k x (List.mem_of_mem_take hx)⟩
  · have e := congrArg List.length (cut8_list z)
    rw [Array.length_toList, List.length_take] at e
    show (cutS z none (some 8)).cps.size ≤ 8
    omega
theorem ofc_len (c : Nat) : (⟨#[c]⟩ : Str).length = 1 := rfl
theorem n_inj : ∀ i : Fin 41, ∀ j : Fin 41, ("n" : Str) ++ strI ((i.1 : Nat) : Int) = ("n" : Str) ++ strI ((j.1 : Nat) : Int) → i = j := by decide +kernel
theorem n_len : ∀ i : Fin 41, (("n" : Str) ++ strI ((i.1 : Nat) : Int)).length ≤ 3 := by decide +kernel
theorem n_short : ∀ i : Fin 41, (("n" : Str)).length + (strI ((i.1 : Nat) : Int)).length ≤ 10 := by decide +kernel
def nS (i : Nat) : Str := "n" ++ strI ((i : Nat) : Int)
theorem n_char : ∀ i : Fin 41, ∀ x ∈ (strI ((i.1 : Nat) : Int)).cps.toList, x ∈ lowC.cps.toList ∨ x ∈ numC.cps.toList := by decide +kernel
theorem n_head (i : Nat) (h : i < 41) : HeadLow (nS i) := head_app ⟨110, [], by rfl, by decide +kernel, fun x hx => nomatch hx⟩ (n_char ⟨i, h⟩)
theorem n_nodup (n : Nat) (h : n ≤ 41) : ((List.range n).map nS).Nodup := by
  rw [List.nodup_iff_pairwise_ne, List.pairwise_map]
  refine (List.nodup_iff_pairwise_ne.mp List.nodup_range).imp_of_mem ?_
  intro a b ha hb ne e
  have ha := List.mem_range.mp ha
  have hb := List.mem_range.mp hb
  exact ne (congrArg Fin.val (n_inj ⟨a, by omega⟩ ⟨b, by omega⟩ e))
theorem spare_cons {ys zs : List Str} (nd : ys.Nodup) (h : zs.length < ys.length) : ∃ x, x ∈ ys ∧ x ∉ zs := by
  refine Classical.byContradiction fun hn => ?_
  have hs : ∀ x ∈ ys, x ∈ zs := fun x hx => Classical.byContradiction fun hz => hn ⟨x, hx, hz⟩
  have := nodup_le nd hs
  omega
theorem strict_of {zs : List Str} (nd : zs.Nodup) : (srt ltS zs).Pairwise fun a b => ltS a b = true := by
  have p := srt_pw stoS zs
  have n2 : (srt ltS zs).Nodup := (srt_perm zs).nodup_iff.mpr nd
  refine (p.and (List.nodup_iff_pairwise_ne.mp n2)).imp ?_
  rintro a b ⟨h1, h2⟩
  cases h : ltS a b with
  | true => rfl
  | false => exact absurd (ltS_eq h h1) h2
theorem low_at {v : Int} (h0 : 0 ≤ v) (h1 : v < 26) : ∃ c, atI lowC.cps.toList v = some c ∧ c ∈ lowC.cps.toList := by
  refine ⟨_, atI_nn 0 h0 h1, ?_⟩
  exact DL.getD_mem (zs := lowC.cps.toList) (by show v.toNat < 26; omega)
theorem any_at {v : Int} (h0 : 0 ≤ v) (h1 : v < 36) : ∃ c, atI (lowC ++ numC).cps.toList v = some c ∧ (c ∈ lowC.cps.toList ∨ c ∈ numC.cps.toList) := by
  refine ⟨_, atI_nn 0 h0 h1, ?_⟩
  have := DL.getD_mem (zs := (lowC ++ numC).cps.toList) (z := 0) (i := v.toNat) (by show v.toNat < 36; omega)
  rw [PyProof.Rows.cps_toList_append] at this ⊢
  exact List.mem_append.mp this
theorem one_char {c : Nat} (h : c ∈ lowC.cps.toList ∨ c ∈ numC.cps.toList) : Chars ⟨#[c]⟩ := fun x hx => by
  have e : x = c := by simpa using hx
  exact e ▸ h
theorem six_at {v : Int} (h0 : 0 ≤ v) (h1 : v < 6) : ∃ n : Int, atI ([.int 0, .int 0, .int 1, .int 1, .int 2, .int 7] : List D) v = some (.int n) ∧ 0 ≤ n ∧ n ≤ 7 := by
  refine ⟨([0, 0, 1, 1, 2, 7] : List Int).getD v.toNat 0, atI_ints (ns := [0, 0, 1, 1, 2, 7]) h0 h1, ?_⟩
  have : v.toNat < 6 := by omega
  generalize v.toNat = n at this
  match n, this with
  | 0, _ => decide
  | 1, _ => decide
  | 2, _ => decide
  | 3, _ => decide
  | 4, _ => decide
  | 5, _ => decide
theorem lc_nS (n : Nat) : lcD n (fun _ => true) (fun i => .str (nS i)) = ((List.range n).map nS).map PyData.str := by
  induction n with
  | zero => rfl
  | succ n ih =>
    unfold lcD
    rw [if_pos rfl, ih, List.range_succ, List.map_append, List.map_append]
    rfl
theorem ok_u_law_names (T : Txt K mg) (hd : FnP K "_law_names" s_u_law_names) (hm : mg "_law_names" = some (.ref (He.ga K "_law_names"))) (O_u_law_take : Okd P w K mg base CX0 1 "_law_take" ["state", "many"] (sp_u_law_take K)) : Okd P w K mg base CX0 2 "_law_names" ["state", "many"] (sp_u_law_names K) := by
  obtain ⟨fd, F⟩ := hd
  refine ⟨hm, fd, fn_pq F sc_u_law_names ?_ (fun cdv A outer s H E hr => ⟨_, dv_u_law_names T O_u_law_take cdv A outer s H E hr, ?_⟩), F.bindsN (fun _ _ _ _ _ _ us hl => match us, hl with | [_, _], _ => rfl), F.kp⟩
  · rintro ds ⟨x0, rfl, _⟩
    rfl
  · rintro ds ⟨m, rfl, hm⟩
    show ST K E0 (t_u_law_names K) [.fr stD, .fr (.int (m : Int)), .no, .no, .no, .no, .no, .no, .no] _
    unfold t_u_law_names
    refine q_asg (d := .str lowC) ev_str ?_
    refine q_asgN (d := .list []) (en_lst ea_nil (by decide)) ?_
    refine q_for (ei_rng1 (ea_cons (ev_var (d := .int (m : Int)) rfl) ea_nil) (by omega) (by omega)) (fun k ρ => ∃ (zs : List Str) (s4 s5 s6 s7 s8 : Sl), zs.length = k ∧ zs.Nodup ∧ (∀ z ∈ zs, Name z) ∧ ρ = [.fr stD, .fr (.int (m : Int)), .fr (.str lowC), .ow (.list (zs.map PyData.str)), s4, s5, s6, s7, s8]) ⟨[], _, _, _, _, _, rfl, List.nodup_nil, (fun z h => nomatch h), rfl⟩ ?_ ?_
    · rintro k ρ hk ⟨zs, s4, s5, s6, s7, s8, hz, nd, nm, rfl⟩
      refine ⟨_, _, gt_name, ?_⟩
      have hk' : k < m := by omega
      refine q_asgV (Pd := fun d => ∃ z, d = .str z ∧ HeadLow z ∧ z.length ≤ 1) (evx_op (Pc := fun d => ∃ v : Int, d = .int v ∧ 0 ≤ v ∧ v < 26) (evx_of (Pd := fun d => d = .str lowC) (ev_var rfl) rfl) (ev_take (n := 0) rfl ev_int (by decide) (by decide) fun v a b => ⟨v, rfl, a, b⟩) ?_) ?_
      · rintro a b rfl ⟨v, rfl, v0, v1⟩
        obtain ⟨c, e, hc⟩ := low_at v0 v1
        exact ⟨_, od_ixS (by decide) e, _, rfl, ⟨c, [], rfl, hc, fun x hx => nomatch hx⟩, by rw [ofc_len]; exact Nat.le_refl _⟩
      rintro d ⟨z, rfl, hz1, hz2⟩
      refine q_cut (fun ρ => ∃ (z : Str) (s6 : Sl), HeadLow z ∧ z.length ≤ 8 ∧ ρ = [.fr stD, .fr (.int (m : Int)), .fr (.str lowC), .ow (.list (zs.map PyData.str)), .fr (.int (k : Nat)), .fr (.str z), s6, s7, s8]) ?_ ?_
      · refine st_forV (Pi := fun n item => n ≤ 7 ∧ item = fun i => .int (i : Nat)) (eix_rng1 (Pl := fun ds => ∃ n : Int, ds = [.int n] ∧ 0 ≤ n ∧ n ≤ 7) (eax_one (Pa := fun d => ∃ n : Int, d = .int n ∧ 0 ≤ n ∧ n ≤ 7) (evx_op (Pc := fun d => ∃ v : Int, d = .int v ∧ 0 ≤ v ∧ v < 6) (evx_of (Pd := fun d => d = .list [.int 0, .int 0, .int 1, .int 1, .int 2, .int 7]) (ev_N (by walk_at "evn")) rfl) (ev_take (n := 0) rfl ev_int (by decide) (by decide) fun v a b => ⟨v, rfl, a, b⟩) ?_) ?_) ?_) ?_
        · rintro a b rfl ⟨v, rfl, v0, v1⟩
          obtain ⟨n, e, hn⟩ := six_at v0 v1
          exact ⟨_, od_ixL e, n, rfl, hn⟩
        · rintro d ⟨n, rfl, hn⟩
          exact ⟨n, rfl, hn⟩
        · rintro ds ⟨n, rfl, n0, n1⟩
          exact ⟨n, rfl, by omega, by omega, by omega, rfl⟩
        · rintro n item ⟨hn, rfl⟩
          refine ⟨fun i ρ => ∃ (z : Str) (s6 : Sl), HeadLow z ∧ z.length ≤ 1 + i ∧ ρ = [.fr stD, .fr (.int (m : Int)), .fr (.str lowC), .ow (.list (zs.map PyData.str)), .fr (.int (k : Nat)), .fr (.str z), s6, s7, s8], ⟨z, _, hz1, hz2, rfl⟩, ?_, ?_⟩
          · rintro i ρ hi ⟨z, s6, h1, h2, rfl⟩
            refine ⟨_, _, gt_name, ?_⟩
            refine st_asgV (Pd := fun d => ∃ z, d = .str z ∧ HeadLow z ∧ z.length ≤ 1 + (i + 1)) (evx_op (Pc := fun d => ∃ c, d = .str (⟨#[c]⟩ : Str) ∧ (c ∈ lowC.cps.toList ∨ c ∈ numC.cps.toList)) (evx_of (Pd := fun d => d = .str z) (ev_var rfl) rfl) (evx_op (Pc := fun d => ∃ v : Int, d = .int v ∧ 0 ≤ v ∧ v < 36) (evx_of (Pd := fun d => d = .str (lowC ++ numC)) (ev_op (ev_var (d := .str lowC) rfl) ev_str (od_addS (by decide))) rfl) (ev_take (n := 0) rfl ev_int (by decide) (by decide) fun v a b => ⟨v, rfl, a, b⟩) ?_) ?_) ?_
            · rintro a b rfl ⟨v, rfl, v0, v1⟩
              obtain ⟨c, e, hc⟩ := any_at v0 v1
              exact ⟨_, od_ixS (by rw [len_app]; decide) e, c, rfl, hc⟩
            · rintro a b rfl ⟨c, rfl, hc⟩
              exact ⟨_, od_addS (by rw [ofc_len, sizeLine_eq]; omega), _, rfl, head_app h1 (one_char hc), by rw [len_app, ofc_len]; omega⟩
            · rintro d ⟨z', rfl, h3, h4⟩
              exact ⟨z', _, h3, h4, rfl⟩
          · rintro ρ ⟨z, s6, h1, h2, rfl⟩
            exact ⟨z, s6, h1, by omega, rfl⟩
      · rintro ρ ⟨z, s6, h1, h2, rfl⟩
        refine q_cut (fun ρ => ∃ (z : Str) (s6 : Sl), HeadLow z ∧ z.length ≤ 8 ∧ ρ = [.fr stD, .fr (.int (m : Int)), .fr (.str lowC), .ow (.list (zs.map PyData.str)), .fr (.int (k : Nat)), .fr (.str z), s6, s7, s8]) ?_ ?_
        · refine st_ifV (Pb := fun b => b = true → 0 < k) (etx_and (Pb := fun b => b = decide ((k : Int) > 0)) (Pe := fun _ => True) (etx_of (et_test (ev_op (ev_var (d := .int (k : Nat)) rfl) ev_int od_cmpI)) rfl) (fun _ => etx_test (Pd := fun d => ∃ b, d = .bool b) (evx_op (Pa := AnyI) (Pc := fun d => d = .int 0) (ev_take (n := 0) rfl ev_int (by decide) (by decide) fun v _ _ => ⟨v, rfl⟩) (evx_of ev_int rfl) (by rintro a b ⟨i, rfl⟩ rfl; exact ⟨_, od_eqI, _, rfl⟩)) (by rintro d ⟨b, rfl⟩; exact ⟨b, rfl, trivial⟩)) (by intro _ z; exact nomatch z) (by
            intro b h _ _
            have := of_decide_eq_true h.symm
            omega)) (fun hb => ?_) (fun _ => st_next ⟨z, s6, h1, h2, rfl⟩)
          have hk0 := hb rfl
          have hp : (zs.getD (k - 1) Str.empty) ∈ zs := DL.getD_mem (by omega)
          have hn := nm _ hp
          have ee : EV K (tOp (rIx K) (tVar 3) (tOp rSubU (tVar 4) (tC (.int 1)))) [.fr stD, .fr (.int (m : Int)), .fr (.str lowC), .ow (.list (zs.map PyData.str)), .fr (.int (k : Nat)), .fr (.str z), s6, s7, s8] (.str (zs.getD (k - 1) Str.empty)) := by
            refine ev_ixO (n := 3) rfl (ev_op (ev_var (d := .int (k : Nat)) rfl) ev_int od_sub) ?_
            have := atI_strs (ys := zs) (i := (k : Int) - 1) (by omega) (by omega)
            rw [show ((k : Int) - 1).toNat = k - 1 by omega] at this
            exact this
          have hl := hn.2
          refine st_asg (ev_slS (hi := some 8) (lo := none) (ev_op ee (ev_var (d := .str z) rfl) (od_addS (by rw [sizeLine_eq]; omega))) (by rw [len_app, sizeLine_eq]; omega) eo_none (eo_some ev_int)) ?_
          have c8 := cut8_head (head_app (b := z) hn.1 h1.chars)
          exact ⟨_, s6, c8.1, c8.2, rfl⟩
        · rintro ρ ⟨z, s6, h1, h2, rfl⟩
          refine q_cut (fun ρ => ∃ (z : Str) (s6 s7 s8 : Sl), HeadLow z ∧ z.length ≤ 8 ∧ z ∉ zs ∧ ρ = [.fr stD, .fr (.int (m : Int)), .fr (.str lowC), .ow (.list (zs.map PyData.str)), .fr (.int (k : Nat)), .fr (.str z), s6, s7, s8]) ?_ ?_
          · refine st_if (b := decide (z ∈ zs)) (et_is (et_test (ev_inO (n := 3) (ev_var (d := .str z) rfl) rfl rfl (strs_flat zs))) inD_str) (fun hb => ?_) fun hb => st_next ⟨z, s6, s7, s8, h1, h2, of_decide_eq_false hb, rfl⟩
            refine q_asg (d := .list (((List.range (k + 1)).map nS).map PyData.str)) (ev_N (en_is (en_lc (b := fun _ => true) (f := fun i => .str (nS i)) (ei_rng1 (n := ((zs.map PyData.str).length : Int) + 1) (ea_cons (ev_op (ev_lenO (n := 3) rfl) ev_int od_addI) ea_nil) (by rw [List.length_map]; omega) (by rw [List.length_map]; omega)) (by rw [List.length_map]; omega) fun i hi => ⟨_, _, gt_name, by simp, et_yes, fun _ => ?_⟩) ?_)) ?_
            · rw [List.length_map] at hi
              have hi' : i < 41 := by omega
              refine ev_op (d := .str (nS i)) ev_str (ev_cb (d := .str (strI ((i : Nat) : Int))) (ea_cons (ev_var (d := .int (i : Nat)) rfl) ea_nil) (cd_strI ?_)) (od_addS ?_)
              · have : (i : Int).natAbs = i := by omega
                rw [this]
                exact Nat.lt_of_le_of_lt (Nat.log2_le_self i) (by omega)
              · have := n_short ⟨i, hi'⟩
                rw [sizeLine_eq]
                dsimp only at this
                omega
            · rw [List.length_map, hz, show ((k : Int) + 1).toNat = k + 1 by omega, lc_nS]
            refine q_asg (d := .list ((((List.range (k + 1)).map nS).filter fun x => !decide (x ∈ zs)).map PyData.str)) (ev_N (en_is (en_lc (b := fun i => !decide (((List.range (k + 1)).map nS).getD i Str.empty ∈ zs)) (f := fun i => .str (((List.range (k + 1)).map nS).getD i Str.empty)) (ei_listS (zs := (List.range (k + 1)).map nS) (ev_var rfl)) (by rw [List.length_map, List.length_range]; omega) fun i hi => ⟨_, _, gt_name, by simp, et_is (et_test (ev_ninO (n := 3) (ev_var (d := .str (((List.range (k + 1)).map nS).getD i Str.empty)) rfl) rfl rfl (strs_flat zs))) (by rw [inD_str]), fun _ => ev_var rfl⟩) (congrArg PyData.list (lc_filterA (p := fun x => !decide (x ∈ zs)) (h := fun x => PyData.str x) Str.empty ((List.range (k + 1)).map nS))))) ?_
            obtain ⟨x, x1, x2⟩ := spare_cons (n_nodup (k + 1) (by omega)) (show zs.length < ((List.range (k + 1)).map nS).length by rw [List.length_map, List.length_range]; omega)
            have hx : x ∈ ((List.range (k + 1)).map nS).filter fun x => !decide (x ∈ zs) := List.mem_filter.mpr ⟨x1, by rw [decide_eq_false x2]; rfl⟩
            generalize hq : (((List.range (k + 1)).map nS).filter fun x => !decide (x ∈ zs)) = qs at hx
            cases qs with
            | nil => exact nomatch hx
            | cons y ys =>
              have hy : y ∈ ((List.range (k + 1)).map nS).filter fun x => !decide (x ∈ zs) := by rw [hq]; exact List.mem_cons_self
              obtain ⟨y1, y2⟩ := List.mem_filter.mp hy
              obtain ⟨i, i1, rfl⟩ := List.mem_map.mp y1
              have i1 := List.mem_range.mp i1
              refine st_asg (ev_op (ev_var (d := .list ((nS i :: ys).map PyData.str)) rfl) ev_int (od_ixL (d := .str (nS i)) (atI_nat (j := 0) (by rfl)))) ⟨nS i, _, _, _, n_head i (by omega), ?_, ?_, rfl⟩
              · have := n_len ⟨i, by omega⟩
                exact Nat.le_trans this (by decide)
              · intro hh
                rw [decide_eq_true hh] at y2
                exact nomatch y2
          · rintro ρ ⟨z, s6, s7, s8, h1, h2, h3, rfl⟩
            refine st_append (n := 3) rfl (ev_var (d := .str z) rfl) (by rw [List.length_map]; omega) ⟨zs ++ [z], _, _, _, _, _, ?_, ?_, ?_, by rw [List.map_append]; rfl⟩
            · rw [List.length_append, hz]; rfl
            · refine List.nodup_append.mpr ⟨nd, by simp, ?_⟩
              rintro a ha b hb rfl
              exact h3 (List.mem_singleton.mp hb ▸ ha)
            · intro y hy
              rcases List.mem_append.mp hy with a | a
              · exact nm y a
              · obtain rfl := List.mem_singleton.mp a
                exact ⟨h1, h2⟩
    · rintro ρ ⟨zs, s4, s5, s6, s7, s8, hz, nd, nm, rfl⟩
      refine q_frz (i := 3) rfl ?_
      have hz : zs.length = m := by omega
      exact st_ret (ev_N (en_cb (ea_cons (ev_var (d := .list (zs.map PyData.str)) rfl) ea_nil) (cn_sortS (by omega)))) ⟨_, rfl, m, srt ltS zs, rfl, rfl, by rw [srt_len, hz], strict_of nd, fun z h => nm z (mem_srt.mp h)⟩
theorem ev_l2 {ρ : List Sl} {n : Nat} {a b : Int} (h : ρ[n]? = some (.fr (.list [.int a, .int b]))) : EV K (tOp (rIx K) (tVar n) (tC (.int 0))) ρ (.int a) ∧ EV K (tOp (rIx K) (tVar n) (tC (.int 1))) ρ (.int b) :=
  ⟨ev_op (ev_var h) ev_int (od_ixL (atI_nat (j := 0) (by rfl))), ev_op (ev_var h) ev_int (od_ixL (atI_nat (j := 1) (by rfl)))⟩
theorem ev_b4 {ρ : List Sl} {t1 t2 t3 t4 : TE} {a b c d : Int} (h1 : EV K t1 ρ (.int a)) (h2 : EV K t2 ρ (.int b)) (h3 : EV K t3 ρ (.int c)) (h4 : EV K t4 ρ (.int d)) : EV K (tTup (tCons t1 (tCons t2 (tCons t3 (tCons t4 tNil))))) ρ (bxD ⟨a, b, c, d⟩) :=
  ev_tup (ea_cons h1 (ea_cons h2 (ea_cons h3 (ea_cons h4 ea_nil)))) (by show 4 ≤ sizeLine; exact s4)
/-- one drawn cut within a .. b -/
def CutP (a b : Int) : D → Prop := fun d => ∃ x : Int, d = .int x ∧ a < x ∧ x ≤ b ∧ (x < b ∨ x = a + 1)
theorem evx_cut {ρ : List Sl} {i j n : Nat} {a b : Int} (hs : ρ[n]? = some (.fr stD)) (hi : ρ[i]? = some (.fr (.int a))) (hj : ρ[j]? = some (.fr (.int b))) (h : a < b) (h1 : b - a ≤ 1000000) :
    EVX K (tOp (rAddU K) (tOp (rAddU K) (tVar i) (tC (.int 1))) (tCall (sp_u_law_take K) [] E0 (tCons (tVar n) (tCons (tCB rMax2 (tCons (tC (.int 1)) (tCons (tOp rSubU (tOp rSubU (tVar j) (tVar i)) (tC (.int 1))) tNil))) tNil)))) ρ (CutP a b) := by
  refine evx_op (Pc := fun d => ∃ v : Int, d = .int v ∧ 0 ≤ v ∧ v < max 1 (b - a - 1)) (evx_of (Pd := fun d => d = .int (a + 1)) (ev_op (ev_var hi) ev_int od_addI) rfl) (ev_take hs (ev_cb (ea_cons ev_int (ea_cons (ev_op (ev_op (ev_var hj) (ev_var hi) od_sub) ev_int od_sub) ea_nil)) cd_max) (by omega) (by omega) fun v h0 h1 => ⟨v, rfl, h0, h1⟩) ?_
  rintro x y rfl ⟨v, rfl, v0, v1⟩
  exact ⟨_, od_addI, _, rfl, by omega, by omega, by omega⟩
def Two (a b : Int) : D → Prop := fun d => ∃ x y : Int, d = .list [.int x, .int y] ∧ a < x ∧ x ≤ y ∧ y ≤ b
theorem two_perm {ms : List Int} {x y : Int} (p : ms.Perm [x, y]) (h : ms.Pairwise (· ≤ ·)) : ∃ u v, ms = [u, v] ∧ u ≤ v ∧ (u = x ∨ u = y) ∧ (v = x ∨ v = y) := by
  have hl := p.length_eq
  match ms, hl with
  | [u, v], _ =>
    refine ⟨u, v, rfl, List.rel_of_pairwise_cons h (List.mem_singleton.mpr rfl), ?_, ?_⟩
    · simpa using p.mem_iff.mp (show u ∈ [u, v] from List.mem_cons_self)
    · simpa using p.mem_iff.mp (show v ∈ [u, v] from List.mem_cons_of_mem _ List.mem_cons_self)
theorem evx_two {ρ : List Sl} {t1 t2 : TE} {a b : Int} (h1 : EVX K t1 ρ (CutP a b)) (h2 : EVX K t2 ρ (CutP a b)) : EVX K (tCB (rSorted K) (tCons (tLst (tCons t1 (tCons t2 tNil))) tNil)) ρ (Two a b) := by
  refine evx_N (evnx_sortI (Pl := fun ds => ∃ x y : Int, ds = [.list [.int x, .int y]] ∧ a < x ∧ x ≤ b ∧ a < y ∧ y ≤ b) (eax_one (Pa := fun d => ∃ x y : Int, d = .list [.int x, .int y] ∧ a < x ∧ x ≤ b ∧ a < y ∧ y ≤ b) (evx_N (evnx_lst (Pl := fun ds => ∃ x y : Int, ds = [.int x, .int y] ∧ a < x ∧ x ≤ b ∧ a < y ∧ y ≤ b) (eax_cons (Pl := fun ds => ∃ y : Int, ds = [.int y] ∧ a < y ∧ y ≤ b) h1 (eax_one h2 ?_) ?_) ?_)) ?_) ?_)
  · rintro d ⟨y, rfl, y1, y2, _⟩
    exact ⟨y, rfl, y1, y2⟩
  · rintro d ds ⟨x, rfl, x1, x2, _⟩ ⟨y, rfl, y1, y2⟩
    exact ⟨x, y, rfl, x1, x2, y1, y2⟩
  · rintro ds ⟨x, y, rfl, h⟩
    exact ⟨by show 2 ≤ sizeLine; exact s2, x, y, rfl, h⟩
  · rintro d ⟨x, y, rfl, h⟩
    exact ⟨x, y, rfl, h⟩
  · rintro ds ⟨x, y, rfl, h1, h2, h3, h4⟩
    refine ⟨[x, y], rfl, by show 2 < 64; decide, ?_⟩
    intro ms p hs
    obtain ⟨u, v, rfl, huv, hu, hv⟩ := two_perm p hs
    refine ⟨u, v, rfl, ?_, huv, ?_⟩
    · rcases hu with rfl | rfl <;> omega
    · rcases hv with rfl | rfl <;> omega
theorem areas_cons (b : Bx) (bs : List Bx) : areas (b :: bs) = area b + areas bs := by
  unfold areas
  rw [List.map_cons, List.sum_cons]
theorem areas_nil : areas [] = 0 := rfl
theorem five_sum {w s e n x0 x1 y0 y1 : Int} : area ⟨x0, y0, x1, y1⟩ + (area ⟨w, y1, x1, n⟩ + (area ⟨x1, y0, e, n⟩ + (area ⟨x0, s, e, y0⟩ + (area ⟨w, s, x0, y1⟩ + 0)))) = area ⟨w, s, e, n⟩ := by
  unfold area
  dsimp only
  grind
theorem five_sum2 {w s e n x0 x1 y0 y1 : Int} : area ⟨x0, y0, x1, y1⟩ + (area ⟨x0, y1, e, n⟩ + (area ⟨w, y0, x0, n⟩ + (area ⟨w, s, x1, y0⟩ + (area ⟨x1, s, e, y1⟩ + 0)))) = area ⟨w, s, e, n⟩ := by
  unfold area
  dsimp only
  grind
theorem five_ok {b : Bx} {x0 x1 y0 y1 : Int} (a1 : b.w < x0) (a2 : x0 < x1) (a3 : x1 < b.e) (b1 : b.s < y0) (b2 : y0 < y1) (b3 : y1 < b.n) :
    Gives b ⟨x0, y0, x1, y1⟩ [⟨b.w, y1, x1, b.n⟩, ⟨x1, y0, b.e, b.n⟩, ⟨x0, b.s, b.e, y0⟩, ⟨b.w, b.s, x0, y1⟩] [x0, x1] [y0, y1] := by
  constructor
  · simp only [List.pairwise_cons, List.mem_cons, List.not_mem_nil, or_false, forall_eq_or_imp, forall_eq, List.Pairwise.nil, Dis, acr, alo, and_true, false_imp_iff, implies_true]
    omega
  · simp only [List.mem_cons, List.not_mem_nil, or_false, forall_eq_or_imp, forall_eq, Pos, SubB]
    omega
  · rw [areas_cons, areas_cons, areas_cons, areas_cons, areas_cons, areas_nil]
    exact five_sum
  · simp only [List.mem_cons, List.not_mem_nil, or_false, forall_eq_or_imp, forall_eq, Dia]
    omega
  · simp only [List.mem_cons, List.not_mem_nil, or_false, forall_eq_or_imp, forall_eq]
    omega
  · simp only [List.mem_cons, List.not_mem_nil, or_false, forall_eq_or_imp, forall_eq]
    omega
  · simp
  · simp
theorem five_ok2 {b : Bx} {x0 x1 y0 y1 : Int} (a1 : b.w < x0) (a2 : x0 < x1) (a3 : x1 < b.e) (b1 : b.s < y0) (b2 : y0 < y1) (b3 : y1 < b.n) :
    Gives b ⟨x0, y0, x1, y1⟩ [⟨x0, y1, b.e, b.n⟩, ⟨b.w, y0, x0, b.n⟩, ⟨b.w, b.s, x1, y0⟩, ⟨x1, b.s, b.e, y1⟩] [x0, x1] [y0, y1] := by
  constructor
  · simp only [List.pairwise_cons, List.mem_cons, List.not_mem_nil, or_false, forall_eq_or_imp, forall_eq, List.Pairwise.nil, Dis, acr, alo, and_true, false_imp_iff, implies_true]
    omega
  · simp only [List.mem_cons, List.not_mem_nil, or_false, forall_eq_or_imp, forall_eq, Pos, SubB]
    omega
  · rw [areas_cons, areas_cons, areas_cons, areas_cons, areas_cons, areas_nil]
    exact five_sum2
  · simp only [List.mem_cons, List.not_mem_nil, or_false, forall_eq_or_imp, forall_eq, Dia]
    omega
  · simp only [List.mem_cons, List.not_mem_nil, or_false, forall_eq_or_imp, forall_eq]
    omega
  · simp only [List.mem_cons, List.not_mem_nil, or_false, forall_eq_or_imp, forall_eq]
    omega
  · simp
  · simp
theorem one_ok {b : Bx} (h : Pos b) : Gives b b [] [] [] := by
  have m : ∀ c, c ∈ b :: ([] : List Bx) → c = b := fun c hc => List.mem_singleton.mp hc
  refine ⟨List.pairwise_singleton _ _, ?_, ?_, ?_, (fun x hx => nomatch hx), (fun x hx => nomatch hx), ?_, ?_⟩
  · intro c hc
    obtain rfl := m c hc
    exact ⟨h, by unfold SubB; omega⟩
  · rw [areas_cons, areas_nil]; omega
  · intro c hc d hd
    obtain rfl := m c hc
    obtain rfl := m d hd
    unfold Pos at h
    unfold Dia
    omega
  · intro c hc
    obtain rfl := m c hc
    exact ⟨.inl rfl, .inl rfl⟩
  · intro c hc
    obtain rfl := m c hc
    exact ⟨.inl rfl, .inl rfl⟩
theorem box_inj {b c : Bx} (h : bxD b = bxD c) : b = c := by
  unfold bxD at h
  injection h with e
  cases c
  cases b
  injection e with e1 e
  injection e with e2 e
  injection e with e3 e
  injection e with e4 e
  injection e1 with e1
  injection e2 with e2
  injection e3 with e3
  injection e4 with e4
  dsimp only at e1 e2 e3 e4
  subst e1 e2 e3 e4
  rfl
def MillP (b : Bx) (ns ms : List Int) (d : D) (ns' ms' : List Int) : Prop := ∃ (b' p : Bx) (ps : List Bx) (xs ys : List Int), [stD, bxD b] = [stD, bxD b'] ∧ d = .list ((p :: ps).map bxD) ∧ ps.length ≤ 4 ∧ ns' = ns ++ xs ∧ ms' = ms ++ ys ∧ xs.length ≤ 2 ∧ ys.length ≤ 2 ∧ (∀ x ∈ xs, x ∉ ns) ∧ (∀ y ∈ ys, y ∉ ms) ∧ Gives b' p ps xs ys
theorem MillP.one {b : Bx} (h : Pos b) (ns ms : List Int) : MillP b ns ms (.list [bxD b]) ns ms := ⟨b, b, [], [], [], rfl, rfl, Nat.zero_le _, (List.append_nil _).symm, (List.append_nil _).symm, Nat.zero_le _, Nat.zero_le _, (fun x hx => nomatch hx), (fun x hx => nomatch hx), one_ok h⟩
theorem ok_u_law_mill (T : Txt K mg) (hd : FnP K "_law_mill" s_u_law_mill) (hm : mg "_law_mill" = some (.ref (He.ga K "_law_mill"))) (O_u_law_take : Okd P w K mg base CX0 1 "_law_take" ["state", "many"] (sp_u_law_take K)) : Okd P w K mg base CX0 2 "_law_mill" ["state", "box", "across", "up"] (sp_u_law_mill K) := by
  obtain ⟨fd, F⟩ := hd
  refine ⟨hm, fd, fn_pm F sc_u_law_mill ?_ (fun cdv A outer s H E hr => ⟨_, dv_u_law_mill T O_u_law_take cdv A outer s H E hr, ?_⟩), F.bindsN (fun _ _ _ _ _ _ us hl => match us, hl with | [_, _, _, _], _ => rfl), F.kp⟩
  · rintro ds ns ms ⟨x0, rfl, _⟩
    rfl
  · rintro ds ns ms ⟨b, rfl, hp, hs, hn, hm⟩ l m
    have one := MillP.one hp ns ms
    have ans : ∀ ρ : List Sl, ρ[1]? = some (.fr (bxD b)) → ∀ R : Oc → Prop, R (.rt (.list [bxD b])) → ST K E0 (tRet (tLst (tCons (tVar 1) tNil))) ρ R := by
      intro ρ h1 R hR
      exact st_ret (ev_N (en_lst (ds := [bxD b]) (ea_cons (ev_var h1) ea_nil) (by show 1 ≤ sizeLine; rw [sizeLine_eq]; omega))) hR
    show STM K (t_u_law_mill K) [.fr stD, .fr (bxD b), .fr (rwD l), .fr (rwD m), .no, .no, .no, .no, .no, .no, .no] l m ns ms (MillP b ns ms)
    unfold t_u_law_mill
    obtain ⟨hp1, hp2⟩ := hp
    obtain ⟨hs1, hs2, hs3, hs4⟩ := hs
    refine stm_seq (Ex := E0) (st_asgG (ev_var (d := bxD b) rfl) gt_bx (.inl ⟨_, rfl, ?_⟩))
    refine stm_seq (Ex := E0) (st_asgV (evx_two (a := b.w) (b := b.e) (evx_cut (n := 0) rfl rfl rfl hp1 (by omega)) (evx_cut (n := 0) rfl rfl rfl hp1 (by omega))) ?_)
    rintro d ⟨x0, x1, rfl, a1, a2, a3⟩
    refine .inl ⟨_, rfl, ?_⟩
    refine stm_seq (Ex := E0) (st_asgV (evx_two (a := b.s) (b := b.n) (evx_cut (n := 0) rfl rfl rfl hp2 (by omega)) (evx_cut (n := 0) rfl rfl rfl hp2 (by omega))) ?_)
    rintro d ⟨y0, y1, rfl, b1, b2, b3⟩
    refine .inl ⟨_, rfl, ?_⟩
    refine stm_seq (Ex := E0) (st_if (b := decide (x0 = x1) || (decide (y0 = y1) || (decide (b.e ≤ x1) || decide (b.n ≤ y1)))) (et_or (et_test (ev_op (ev_l2 (n := 8) rfl).1 (ev_l2 (n := 8) rfl).2 od_eqI)) fun _ => et_or (et_test (ev_op (ev_l2 (n := 9) rfl).1 (ev_l2 (n := 9) rfl).2 od_eqI)) fun _ => et_or (et_test (ev_op (ev_l2 (n := 8) rfl).2 (ev_var (d := .int b.e) rfl) od_cmpI)) fun _ => et_test (ev_op (ev_l2 (n := 9) rfl).2 (ev_var (d := .int b.n) rfl) od_cmpI)) (fun _ => ans _ rfl _ (.inr ⟨_, rfl, one⟩)) fun hb => st_next (.inl ⟨_, rfl, ?_⟩))
    simp only [Bool.or_eq_false_iff, decide_eq_false_iff_not] at hb
    obtain ⟨c1, c2, c3, c4⟩ := hb
    refine stm_when (etm_or (etm_in (ev_l2 (n := 8) rfl).1 rfl) (etm_or (etm_in (ev_l2 (n := 8) rfl).2 rfl) (etm_or (etm_inB (ev_l2 (n := 9) rfl).1 rfl) (etm_inB (ev_l2 (n := 9) rfl).2 rfl)))) (fun _ => stm_st (Ex := E0) (ans _ rfl _ ⟨_, rfl, one⟩)) fun hb => ?_
    simp only [Bool.or_eq_false_iff, decide_eq_false_iff_not] at hb
    obtain ⟨e1, e2, e3, e4⟩ := hb
    refine stm_app (ev_l2 (n := 8) rfl).1 rfl (by omega) ?_
    refine stm_app (ev_l2 (n := 8) rfl).2 rfl (by rw [List.length_append, List.length_singleton]; omega) ?_
    refine stm_appB (ev_l2 (n := 9) rfl).1 rfl (by omega) ?_
    refine stm_appB (ev_l2 (n := 9) rfl).2 rfl (by rw [List.length_append, List.length_singleton]; omega) ?_
    rw [List.append_assoc, List.append_assoc]
    refine stm_st (Ex := E0) ?_
    refine q_asg (ev_b4 (ev_l2 (n := 8) rfl).1 (ev_l2 (n := 9) rfl).1 (ev_l2 (n := 8) rfl).2 (ev_l2 (n := 9) rfl).2) ?_
    have nx : ∀ x ∈ [x0, x1], x ∉ ns := by
      intro x hx
      simp only [List.mem_cons, List.not_mem_nil, or_false] at hx
      rcases hx with rfl | rfl
      · exact e1
      · exact e2
    have ny : ∀ x ∈ [y0, y1], x ∉ ms := by
      intro x hx
      simp only [List.mem_cons, List.not_mem_nil, or_false] at hx
      rcases hx with rfl | rfl
      · exact e3
      · exact e4
    refine q_whenV (Pb := fun _ => True) (etx_test (Pd := fun d => ∃ b, d = .bool b) (evx_op (Pa := AnyI) (Pc := fun d => d = .int 0) (ev_take (n := 0) rfl ev_int (by decide) (by decide) fun v _ _ => ⟨v, rfl⟩) (evx_of ev_int rfl) (by rintro a b ⟨i, rfl⟩ rfl; exact ⟨_, od_eqI, _, rfl⟩)) (by rintro d ⟨b, rfl⟩; exact ⟨b, rfl, trivial⟩)) (fun _ => ?_) fun _ => ?_
    · refine st_ret (ev_N (en_lst (ea_cons (ev_var (d := bxD ⟨x0, y0, x1, y1⟩) rfl) (ea_cons (ev_b4 (ev_var (d := .int b.w) rfl) (ev_l2 (n := 9) rfl).2 (ev_l2 (n := 8) rfl).2 (ev_var (d := .int b.n) rfl)) (ea_cons (ev_b4 (ev_l2 (n := 8) rfl).2 (ev_l2 (n := 9) rfl).1 (ev_var (d := .int b.e) rfl) (ev_var (d := .int b.n) rfl)) (ea_cons (ev_b4 (ev_l2 (n := 8) rfl).1 (ev_var (d := .int b.s) rfl) (ev_var (d := .int b.e) rfl) (ev_l2 (n := 9) rfl).1) (ea_cons (ev_b4 (ev_var (d := .int b.w) rfl) (ev_var (d := .int b.s) rfl) (ev_l2 (n := 8) rfl).1 (ev_l2 (n := 9) rfl).2) ea_nil))))) (by show 5 ≤ sizeLine; rw [sizeLine_eq]; omega))) ⟨_, rfl, b, _, _, [x0, x1], [y0, y1], rfl, rfl, (by exact Nat.le_refl 4), rfl, rfl, Nat.le_refl 2, Nat.le_refl 2, nx, ny, five_ok a1 (by omega) (by omega) b1 (by omega) (by omega)⟩
    · refine st_ret (ev_N (en_lst (ea_cons (ev_var (d := bxD ⟨x0, y0, x1, y1⟩) rfl) (ea_cons (ev_b4 (ev_l2 (n := 8) rfl).1 (ev_l2 (n := 9) rfl).2 (ev_var (d := .int b.e) rfl) (ev_var (d := .int b.n) rfl)) (ea_cons (ev_b4 (ev_var (d := .int b.w) rfl) (ev_l2 (n := 9) rfl).1 (ev_l2 (n := 8) rfl).1 (ev_var (d := .int b.n) rfl)) (ea_cons (ev_b4 (ev_var (d := .int b.w) rfl) (ev_var (d := .int b.s) rfl) (ev_l2 (n := 8) rfl).2 (ev_l2 (n := 9) rfl).1) (ea_cons (ev_b4 (ev_l2 (n := 8) rfl).2 (ev_var (d := .int b.s) rfl) (ev_var (d := .int b.e) rfl) (ev_l2 (n := 9) rfl).2) ea_nil))))) (by show 5 ≤ sizeLine; rw [sizeLine_eq]; omega))) ⟨_, rfl, b, _, _, [x0, x1], [y0, y1], rfl, rfl, (by exact Nat.le_refl 4), rfl, rfl, Nat.le_refl 2, Nat.le_refl 2, nx, ny, five_ok2 a1 (by omega) (by omega) b1 (by omega) (by omega)⟩
theorem Dis.symm {a b : Bx} (h : Dis a b) : Dis b a := by
  unfold Dis acr alo at *
  omega
theorem Dis.sub {a b c : Bx} (h : Dis a b) (s : SubB c a) : Dis c b := by
  unfold Dis acr alo at *
  unfold SubB at s
  omega
theorem set_perm (p : Bx) : ∀ (bs : List Bx) (i : Nat), i < bs.length → (bs.set i p).Perm (p :: bs.eraseIdx i)
  | b :: bs, 0, _ => .refl _
  | b :: bs, i + 1, h => by
    rw [List.set_cons_succ, List.eraseIdx_cons_succ]
    exact ((set_perm p bs i (by simpa using h)).cons b).trans (.swap p b _)
theorem perm_at (bs : List Bx) (i : Nat) (h : i < bs.length) : bs.Perm (bA bs i :: bs.eraseIdx i) := by
  have := set_perm (bA bs i) bs i h
  have e : bs.set i (bA bs i) = bs := by
    unfold bA
    rw [List.getD_eq_getElem?_getD, List.getElem?_eq_getElem h]
    exact List.set_getElem_self h
  rwa [e] at this
theorem areas_perm {bs cs : List Bx} (h : bs.Perm cs) : areas bs = areas cs := by
  unfold areas
  induction h with
  | nil => rfl
  | cons x _ ih => rw [List.map_cons, List.map_cons, List.sum_cons, List.sum_cons, ih]
  | swap x y l => rw [List.map_cons, List.map_cons, List.map_cons, List.map_cons, List.sum_cons, List.sum_cons, List.sum_cons, List.sum_cons]; omega
  | trans _ _ h1 h2 => exact h1.trans h2
theorem areas_app (bs cs : List Bx) : areas (bs ++ cs) = areas bs + areas cs := by
  unfold areas
  rw [List.map_append, List.sum_append]
/-- where the edges stand -/
def Edg (w h : Int) (ns ms : List Int) (b : Bx) : Prop := ((b.w = 0 ∨ b.w ∈ ns) ∧ (b.e = w ∨ b.e ∈ ns)) ∧ ((b.s = 0 ∨ b.s ∈ ms) ∧ (b.n = h ∨ b.n ∈ ms))
theorem Cut.split {m k : Nat} {w h : Int} {st : Bool} {bs : List Bx} {p : Bx} {ps : List Bx} {xs ys ns ms : List Int} (C : Cut m w h st bs) (Eg : ∀ b ∈ bs, Edg w h ns ms b) (hi : k < bs.length) (Gv : Gives (bA bs k) p ps xs ys) (hl : bs.length + ps.length ≤ m) (fx : st = true → ∀ x ∈ xs, x ∉ ns) (fy : st = true → ∀ y ∈ ys, y ∉ ms) :
    Cut m w h st (bs.set k p ++ ps) ∧ ∀ b ∈ bs.set k p ++ ps, Edg w h (ns ++ xs) (ms ++ ys) b := by
  have h1 := perm_at bs k hi
  have h2 : (bs.set k p ++ ps).Perm ((p :: ps) ++ bs.eraseIdx k) := ((set_perm p bs k hi).append_right ps).trans ((List.perm_append_comm (l₁ := bs.eraseIdx k) (l₂ := ps)).cons p)
  have hd0 := (h1.pairwise_iff (fun {a b} (h : Dis a b) => h.symm)).mp C.dis
  obtain ⟨d1, d2⟩ := List.pairwise_cons.mp hd0
  have hmem : bA bs k ∈ bs := DL.getD_mem hi
  have hold : ∀ b ∈ bs.eraseIdx k, b ∈ bs := fun b hb => h1.mem_iff.mpr (List.mem_cons_of_mem _ hb)
  obtain ⟨cp, cw, ce, cs, cn⟩ := C.ok _ hmem
  have cE := Eg _ hmem
  generalize hc : bA bs k = c at *
  refine ⟨⟨?_, ?_, ?_, ?_, ?_, ?_⟩, ?_⟩
  · rw [List.length_append, List.length_set]
    have := C.lo
    omega
  · rw [List.length_append, List.length_set]
    exact hl
  · intro b hb
    rcases List.mem_append.mp (h2.mem_iff.mp hb) with a | a
    · obtain ⟨a1, a2⟩ := Gv.sub b a
      refine ⟨a1, ?_⟩
      unfold SubB at a2
      omega
    · exact C.ok b (hold b a)
  · refine (h2.pairwise_iff (fun {a b} (h : Dis a b) => h.symm)).mpr (List.pairwise_append.mpr ⟨Gv.dis, d2, ?_⟩)
    intro a ha b hb
    exact (d1 b hb).sub (Gv.sub a ha).2
  · have s1 := areas_perm h1
    rw [areas_cons, C.sum] at s1
    rw [areas_perm h2, areas_app, Gv.sum]
    omega
  · intro hs a ha b hb
    have fx := fx hs
    have fy := fy hs
    have ca := C.dia hs
    unfold Pos at cp
    rcases List.mem_append.mp (h2.mem_iff.mp ha) with ma | ma
    · rcases List.mem_append.mp (h2.mem_iff.mp hb) with mb | mb
      · exact Gv.dia a ma b mb
      · rintro ⟨e1, e2⟩
        have be := Eg b (hold b mb)
        obtain ⟨ap, as⟩ := Gv.sub a ma
        unfold Pos at ap
        unfold SubB at as
        unfold Edg at be
        have w1 : a.e = c.e := by
          rcases (Gv.ew a ma).2 with q | q
          · exact q
          · rcases be.1.1 with z | z
            · omega
            · exact absurd (e1 ▸ z) (fx _ q)
        have w2 : a.n = c.n := by
          rcases (Gv.es a ma).2 with q | q
          · exact q
          · rcases be.2.1 with z | z
            · omega
            · exact absurd (e2 ▸ z) (fy _ q)
        exact ca c hmem b (hold b mb) ⟨by omega, by omega⟩
    · rcases List.mem_append.mp (h2.mem_iff.mp hb) with mb | mb
      · rintro ⟨e1, e2⟩
        have ae := Eg a (hold a ma)
        obtain ⟨bp, bsub⟩ := Gv.sub b mb
        unfold Pos at bp
        unfold SubB at bsub
        unfold Edg at ae
        have w1 : b.w = c.w := by
          rcases (Gv.ew b mb).1 with q | q
          · exact q
          · rcases ae.1.2 with z | z
            · omega
            · exact absurd (e1.symm ▸ z) (fx _ q)
        have w2 : b.s = c.s := by
          rcases (Gv.es b mb).1 with q | q
          · exact q
          · rcases ae.2.2 with z | z
            · omega
            · exact absurd (e2.symm ▸ z) (fy _ q)
        exact ca a (hold a ma) c hmem ⟨by omega, by omega⟩
      · exact ca a (hold a ma) b (hold b mb)
  · intro b hb
    rcases List.mem_append.mp (h2.mem_iff.mp hb) with mb | mb
    · obtain ⟨⟨p1, p2⟩, p3, p4⟩ := cE
      obtain ⟨q1, q2⟩ := Gv.ew b mb
      obtain ⟨q3, q4⟩ := Gv.es b mb
      refine ⟨⟨?_, ?_⟩, ?_, ?_⟩
      · rcases q1 with q | q
        · rw [q]; exact p1.imp id fun z => List.mem_append_left _ z
        · exact .inr (List.mem_append_right _ q)
      · rcases q2 with q | q
        · rw [q]; exact p2.imp id fun z => List.mem_append_left _ z
        · exact .inr (List.mem_append_right _ q)
      · rcases q3 with q | q
        · rw [q]; exact p3.imp id fun z => List.mem_append_left _ z
        · exact .inr (List.mem_append_right _ q)
      · rcases q4 with q | q
        · rw [q]; exact p4.imp id fun z => List.mem_append_left _ z
        · exact .inr (List.mem_append_right _ q)
    · obtain ⟨⟨p1, p2⟩, p3, p4⟩ := Eg b (hold b mb)
      exact ⟨⟨p1.imp id fun z => List.mem_append_left _ z, p2.imp id fun z => List.mem_append_left _ z⟩, p3.imp id fun z => List.mem_append_left _ z, p4.imp id fun z => List.mem_append_left _ z⟩
theorem ixN_natL {n k : Nat} (h : k < n) : ixN n (k : Int) = some k := (ixN_nn (by omega) (by omega)).trans (congrArg some (Int.toNat_natCast k))
theorem cut_w {c : Bx} {x : Int} (hp : Pos c) (h1 : c.w < x) (h2 : x < c.e) : Gives c ⟨c.w, c.s, x, c.n⟩ [⟨x, c.s, c.e, c.n⟩] [x] [] := by
  unfold Pos at hp
  constructor
  · simp only [List.pairwise_cons, List.mem_cons, List.not_mem_nil, or_false, forall_eq_or_imp, forall_eq, List.Pairwise.nil, Dis, acr, alo, and_true, false_imp_iff, implies_true]
    omega
  · simp only [List.mem_cons, List.not_mem_nil, or_false, forall_eq_or_imp, forall_eq, Pos, SubB]
    omega
  · rw [areas_cons, areas_cons, areas_nil]
    unfold area
    dsimp only
    grind
  · simp only [List.mem_cons, List.not_mem_nil, or_false, forall_eq_or_imp, forall_eq, Dia]
    omega
  · simp only [List.mem_cons, List.not_mem_nil, or_false, forall_eq_or_imp, forall_eq]
    omega
  · simp
  · simp
  · simp
theorem cut_s {c : Bx} {x : Int} (hp : Pos c) (h1 : c.s < x) (h2 : x < c.n) : Gives c ⟨c.w, c.s, c.e, x⟩ [⟨c.w, x, c.e, c.n⟩] [] [x] := by
  unfold Pos at hp
  constructor
  · simp only [List.pairwise_cons, List.mem_cons, List.not_mem_nil, or_false, forall_eq_or_imp, forall_eq, List.Pairwise.nil, Dis, acr, alo, and_true, false_imp_iff, implies_true]
    omega
  · simp only [List.mem_cons, List.not_mem_nil, or_false, forall_eq_or_imp, forall_eq, Pos, SubB]
    omega
  · rw [areas_cons, areas_cons, areas_nil]
    unfold area
    dsimp only
    grind
  · simp only [List.mem_cons, List.not_mem_nil, or_false, forall_eq_or_imp, forall_eq, Dia]
    omega
  · simp
  · simp only [List.mem_cons, List.not_mem_nil, or_false, forall_eq_or_imp, forall_eq]
    omega
  · simp
  · simp
theorem inD_int {x : Int} {ns : List Int} : inD (.int x) (ns.map PyData.int) = decide (x ∈ ns) := by
  unfold inD
  rw [List.any_map, Bool.eq_iff_iff, List.any_eq_true, decide_eq_true_eq]
  constructor
  · rintro ⟨y, hy, e⟩
    have e : PyData.eqv (.int y) (.int x) = true := e
    have : y = x := by simpa [PyData.eqv] using e
    exact this ▸ hy
  · intro h
    exact ⟨x, h, by show PyData.eqv (.int x) (.int x) = true; simp [PyData.eqv]⟩
theorem ints_flat (ns : List Int) : (ns.map PyData.int).all flatD = true := by
  rw [List.all_map]
  exact List.all_eq_true.mpr fun _ _ => rfl
def CutI (m : Nat) (w h : Int) (st : Bool) (i : Nat) (ρ : List Sl) : Prop := ∃ (bs : List Bx) (ns ms : List Int) (s8 s9 s10 s11 s12 s13 s14 s15 s16 s17 : Sl), Cut m w h st bs ∧ (∀ b ∈ bs, Edg w h ns ms b) ∧ ns.length ≤ 2 * i ∧ ms.length ≤ 2 * i ∧
  ρ = [.fr stD, .fr (.int (m : Int)), .fr (.int w), .fr (.int h), .fr (.bool st), .ow (.list (bs.map bxD)), .ow (.list (ns.map PyData.int)), .ow (.list (ms.map PyData.int)), s8, s9, s10, s11, s12, s13, s14, s15, s16, s17]
theorem tPar_own {ρ : List Sl} {Ex : XK} {P : Oc → Prop} {i j : Nat} (q : P (.nx ((ρ.set i (.ow (.list []))).set j (.ow (.list []))))) : ST K Ex (tPar i j (tCons (tLst tNil) (tCons (tLst tNil) tNil))) ρ P := fun G0 H0 G H σ D E f =>
  ⟨Nat.zero_le _, fun a ha => ⟨Nat.zero_le _, fun b hb => by
    have x1 : Ext G H G (upd H a (.lst [])) := Ext.fresh E.gh ha
    have E1 := E.setN i x1 ha (E.gh.none ha) (.lst upd_same .nil)
    have x2 : Ext G (upd H a (.lst [])) G (upd (upd H a (.lst [])) b (.lst [])) := Ext.fresh x1.gh hb
    have E2 := E1.setN j x2 hb (x1.gh.none hb) (.lst upd_same .nil)
    exact ⟨_, _, rfl, f.nx _ _ _ _ q E2⟩⟩⟩
theorem ok_u_law_cuts (T : Txt K mg) (hd : FnP K "_law_cuts" s_u_law_cuts) (hm : mg "_law_cuts" = some (.ref (He.ga K "_law_cuts"))) (O_u_law_take : Okd P w K mg base CX0 1 "_law_take" ["state", "many"] (sp_u_law_take K)) (O_u_law_mill : Okd P w K mg base CX0 2 "_law_mill" ["state", "box", "across", "up"] (sp_u_law_mill K)) : Okd P w K mg base CX0 3 "_law_cuts" ["state", "many", "wide", "high", "strict"] (sp_u_law_cuts K) := by
  obtain ⟨fd, F⟩ := hd
  refine ⟨hm, fd, fn_pn F sc_u_law_cuts ?_ (fun cdv A outer s H E hr => ⟨_, dv_u_law_cuts T O_u_law_take O_u_law_mill cdv A outer s H E hr, ?_⟩), F.bindsN (fun _ _ _ _ _ _ us hl => match us, hl with | [_, _, _, _, _], _ => rfl), F.kp⟩
  · rintro ds ⟨x0, x1, x2, x3, rfl, _⟩
    rfl
  · rintro ds ⟨m, w', h, st, rfl, m1, m2, w1, w2, h1, h2⟩
    show STN K (t_u_law_cuts K) [.fr stD, .fr (.int (m : Int)), .fr (.int w'), .fr (.int h), .fr (.bool st), .no, .no, .no, .no, .no, .no, .no, .no, .no, .no, .no, .no, .no] _
    unfold t_u_law_cuts sp_u_law_mill
    have done : ∀ i ρ, CutI m w' h st i ρ → ∃ ρ', Oc.nx ρ = .nx ρ' ∧ STN K (tRet (tVar 5)) ρ' (fun d => ∃ (m' : Nat) (w h' : Int) (st' : Bool) (bs : List Bx), [stD, .int (m : Int), .int w', .int h, .bool st] = [stD, .int (m' : Int), .int w, .int h', .bool st'] ∧ d = .list (bs.map bxD) ∧ Cut m' w h' st' bs) := by
      rintro i ρ ⟨bs, ns, ms, s8, s9, s10, s11, s12, s13, s14, s15, s16, s17, C, Eg, n1, n2, rfl⟩
      exact ⟨_, rfl, stn_ret (n := 5) rfl ⟨m, w', h, st, bs, rfl, rfl, C⟩⟩
    refine stn_seq (Ex := E0) (st_asgN (d := .list (([⟨0, 0, w', h⟩] : List Bx).map bxD)) (en_lst (ea_cons (ev_b4 ev_int ev_int (ev_var rfl) (ev_var rfl)) ea_nil) (by show 1 ≤ sizeLine; rw [sizeLine_eq]; omega)) ⟨_, rfl, ?_⟩)
    refine stn_seq (Ex := E0) (tPar_own (i := 6) (j := 7) ⟨_, rfl, ?_⟩)
    refine stn_seq (Ex := E0) (st_for (ei_rng1 (ea_cons (ev_op ev_int (ev_var (d := .int (m : Int)) rfl) (od_mulI (.inl (by decide)))) ea_nil) (by omega) (by omega)) (fun i => CutI m w' h st i) ⟨[⟨0, 0, w', h⟩], [], [], _, _, _, _, _, _, _, _, _, _, ⟨Nat.le_refl 1, m1, ?_, List.pairwise_singleton _ _, ?_, ?_⟩, ?_, Nat.zero_le _, Nat.zero_le _, rfl⟩ ?_ (fun ρ hI => done _ ρ hI))
    · intro c hc
      obtain rfl := List.mem_singleton.mp hc
      unfold Pos
      dsimp only
      omega
    · rw [areas_cons, areas_nil]
      unfold area
      dsimp only
      rw [Int.sub_zero, Int.sub_zero, Int.add_zero]
    · intro _ a ha b hb
      obtain rfl := List.mem_singleton.mp ha
      obtain rfl := List.mem_singleton.mp hb
      unfold Dia
      dsimp only
      omega
    · intro c hc
      obtain rfl := List.mem_singleton.mp hc
      exact ⟨⟨.inl rfl, .inl rfl⟩, .inl rfl, .inl rfl⟩
    · rintro i ρ hi ⟨bs, ns, ms, s8, s9, s10, s11, s12, s13, s14, s15, s16, s17, C, Eg, n1, n2, rfl⟩
      refine ⟨_, _, gt_name, ?_⟩
      have hlo := C.lo
      have hhi := C.hi
      have hi : i < 160 := by omega
      refine q_when (b := decide ((m : Int) ≤ ((bs.map bxD).length : Nat))) (et_test (ev_op (ev_lenO (n := 5) rfl) (ev_var (d := .int (m : Int)) rfl) od_cmpI)) (fun hb => st_break (done i _ ⟨bs, ns, ms, _, s9, s10, s11, s12, s13, s14, s15, s16, s17, C, Eg, n1, n2, rfl⟩)) fun hb => ?_
      have hlt := of_decide_eq_false hb
      rw [List.length_map] at hlt
      refine q_asgV (ev_take (Pd := fun d => ∃ k : Nat, d = .int (k : Int) ∧ k < bs.length) (n := 0) rfl (ev_lenO (n := 5) rfl) (by rw [List.length_map]; omega) (by rw [List.length_map]; omega) fun v v0 v1 => ⟨v.toNat, by rw [Int.toNat_of_nonneg v0], by rw [List.length_map] at v1; omega⟩) ?_
      rintro d ⟨k, rfl, hk⟩
      have hat : atI (bs.map bxD) (k : Int) = some (bxD (bA bs k)) := by
        have := atI_nn (ds := bs.map bxD) (i := (k : Int)) .none (by omega) (by rw [List.length_map]; omega)
        rw [Int.toNat_natCast, getD_bx hk] at this
        exact this
      have hix : ixN (bs.map bxD).length (k : Int) = some k := ixN_natL (by rw [List.length_map]; exact hk)
      refine q_asgG (d := bxD (bA bs k)) (ev_ixO (n := 5) rfl (ev_var (d := .int (k : Int)) rfl) hat) gt_bx ?_
      obtain ⟨hp, hs⟩ := C.ok (bA bs k) (DL.getD_mem hk)
      have spl := fun {p ps xs ys} Gv hl fx fy => C.split (p := p) (ps := ps) (xs := xs) (ys := ys) Eg hk Gv hl fx fy
      generalize hc : bA bs k = c at hp hs hat spl
      obtain ⟨hp1, hp2⟩ := id hp
      obtain ⟨hs1, hs2, hs3, hs4⟩ := id hs
      refine q_asgV (ev_take (Pd := AnyI) (n := 0) rfl ev_int (by decide) (by decide) fun v _ _ => ⟨v, rfl⟩) ?_
      rintro d ⟨u, rfl⟩
      refine st_if (b := decide (u = 4) && decide (((bs.map bxD).length : Int) + 4 ≤ (m : Int))) (et_and (et_test (ev_op (ev_var (d := .int u) rfl) ev_int od_eqI)) fun _ => et_test (ev_op (ev_op (ev_lenO (n := 5) rfl) ev_int od_addI) (ev_var (d := .int (m : Int)) rfl) od_cmpI)) (fun hb => ?_) fun hb => ?_
      · have h4 := of_decide_eq_true (Bool.and_eq_true_iff.mp hb).2
        rw [List.length_map] at h4
        refine q_asgM (p := 6) (q := 7) (ns := ns) (ms := ms) rfl rfl (by decide) (ev_var (d := stD) rfl) (ev_ixO (n := 5) rfl (ev_var (d := .int (k : Int)) rfl) hat) ⟨c, rfl, hp, by unfold Small; omega, by omega, by omega⟩ ?_
        rintro d ns' ms' ⟨b', p, ps, xs, ys, e, rfl, d3, rfl, rfl, x2, y2, fx, fy, Gv⟩
        obtain rfl : c = b' := by
          injection e with _ e
          injection e with e _
          exact box_inj e
        obtain ⟨C2, Eg2⟩ := spl Gv (by omega) (fun _ => fx) (fun _ => fy)
        refine q_setL (n := 5) (i := (k : Int)) (j := k) rfl (ev_op (ev_var (d := .list ((p :: ps).map bxD)) rfl) ev_int (od_ixL (d := bxD p) (atI_nat (j := 0) (by rfl)))) (ev_var rfl) hix ?_
        refine q_frz (i := 5) rfl ?_
        have eS : ∀ ρ : List Sl, ρ[15]? = some (.fr (.list ((p :: ps).map bxD))) → EV K (tSl (rSlU K) (tVar 15) (tPart (tC (.int 1))) tNoPart) ρ (.list (ps.map bxD)) := fun ρ h15 =>
          ev_is (ev_N (en_slL (lo := some 1) (hi := none) (ev_var (d := .list ((p :: ps).map bxD)) h15) (eo_some ev_int) eo_none)) (congrArg PyData.list (cut_from (ds := (p :: ps).map bxD) (k := 0) (by rw [List.length_map]; exact Nat.succ_pos _)))
        refine st_asgN (en_op (ev_var (d := .list ((bs.map bxD).set k (bxD p))) rfl) (eS _ rfl) (on_addL ?_)) ?_
        · rw [List.length_set, List.length_map, List.length_map, sizeLine_eq]
          omega
        · refine ⟨bs.set k p ++ ps, ns ++ xs, ms ++ ys, _, _, _, _, _, _, _, _, _, _, C2, Eg2, by rw [List.length_append]; omega, by rw [List.length_append]; omega, by rw [List.map_append (f := bxD), List.map_set]; rfl⟩
      · refine st_if (b := decide (u < 2)) (et_test (ev_op (ev_var (d := .int u) rfl) ev_int od_cmpI)) (fun hb => ?_) fun hb => ?_
        · refine q_asgV (evx_cut (n := 0) (i := 10) (j := 12) (a := c.w) (b := c.e) rfl rfl rfl hp1 (by omega)) ?_
          rintro d ⟨x, rfl, x1, x2, x3⟩
          refine st_if (b := decide (x < c.e) && (!st || !decide (x ∈ ns))) (et_is (et_and (et_test (ev_op (ev_var (d := .int x) rfl) (ev_var (d := .int c.e) rfl) od_cmpI)) fun _ => et_or (et_not (et_trB (ev_var (d := .bool st) rfl))) fun _ => et_test (ev_ninO (n := 6) (ev_var (d := .int x) rfl) rfl rfl (ints_flat ns))) (by rw [inD_int])) (fun hb => ?_) fun _ => st_next ⟨bs, ns, ms, _, _, _, _, _, _, _, _, _, _, C, Eg, by omega, by omega, rfl⟩
          obtain ⟨hb1, hb2⟩ := Bool.and_eq_true_iff.mp hb
          have hlt2 := of_decide_eq_true hb1
          obtain ⟨C2, Eg2⟩ := spl (cut_w hp x1 hlt2) (by show bs.length + 1 ≤ m; omega) (fun hst z hz => by
            obtain rfl := List.mem_singleton.mp hz
            rw [hst] at hb2
            simpa using hb2) (fun _ z hz => nomatch hz)
          refine q_append (n := 6) rfl (ev_var (d := .int x) rfl) (by rw [List.length_map]; omega) ?_
          refine q_setL (n := 5) (i := (k : Int)) (j := k) rfl (ev_b4 (ev_var (d := .int c.w) rfl) (ev_var (d := .int c.s) rfl) (ev_var (d := .int x) rfl) (ev_var (d := .int c.n) rfl)) (ev_var rfl) hix ?_
          refine st_append (n := 5) rfl (ev_b4 (ev_var (d := .int x) rfl) (ev_var (d := .int c.s) rfl) (ev_var (d := .int c.e) rfl) (ev_var (d := .int c.n) rfl)) (by rw [List.length_set, List.length_map]; omega) ?_
          rw [List.append_nil] at Eg2
          refine ⟨bs.set k ⟨c.w, c.s, x, c.n⟩ ++ [⟨x, c.s, c.e, c.n⟩], ns ++ [x], ms, _, _, _, _, _, _, _, _, _, _, C2, Eg2, by rw [List.length_append, List.length_singleton]; omega, by omega, by rw [List.map_append (f := bxD), List.map_set, List.map_append (f := PyData.int)]; rfl⟩
        · refine q_asgV (evx_cut (n := 0) (i := 11) (j := 13) (a := c.s) (b := c.n) rfl rfl rfl hp2 (by omega)) ?_
          rintro d ⟨x, rfl, x1, x2, x3⟩
          refine st_if (b := decide (x < c.n) && (!st || !decide (x ∈ ms))) (et_is (et_and (et_test (ev_op (ev_var (d := .int x) rfl) (ev_var (d := .int c.n) rfl) od_cmpI)) fun _ => et_or (et_not (et_trB (ev_var (d := .bool st) rfl))) fun _ => et_test (ev_ninO (n := 7) (ev_var (d := .int x) rfl) rfl rfl (ints_flat ms))) (by rw [inD_int])) (fun hb => ?_) fun _ => st_next ⟨bs, ns, ms, _, _, _, _, _, _, _, _, _, _, C, Eg, by omega, by omega, rfl⟩
          obtain ⟨hb1, hb2⟩ := Bool.and_eq_true_iff.mp hb
          have hlt2 := of_decide_eq_true hb1
          obtain ⟨C2, Eg2⟩ := spl (cut_s hp x1 hlt2) (by show bs.length + 1 ≤ m; omega) (fun _ z hz => nomatch hz) (fun hst z hz => by
            obtain rfl := List.mem_singleton.mp hz
            rw [hst] at hb2
            simpa using hb2)
          refine q_append (n := 7) rfl (ev_var (d := .int x) rfl) (by rw [List.length_map]; omega) ?_
          refine q_setL (n := 5) (i := (k : Int)) (j := k) rfl (ev_b4 (ev_var (d := .int c.w) rfl) (ev_var (d := .int c.s) rfl) (ev_var (d := .int c.e) rfl) (ev_var (d := .int x) rfl)) (ev_var rfl) hix ?_
          refine st_append (n := 5) rfl (ev_b4 (ev_var (d := .int c.w) rfl) (ev_var (d := .int x) rfl) (ev_var (d := .int c.e) rfl) (ev_var (d := .int c.n) rfl)) (by rw [List.length_set, List.length_map]; omega) ?_
          rw [List.append_nil] at Eg2
          refine ⟨bs.set k ⟨c.w, c.s, c.e, x⟩ ++ [⟨c.w, x, c.e, c.n⟩], ns, ms ++ [x], _, _, _, _, _, _, _, _, _, _, C2, Eg2, by omega, by rw [List.length_append, List.length_singleton]; omega, by rw [List.map_append (f := bxD), List.map_set, List.map_append (f := PyData.int)]; rfl⟩
theorem erase_perm {es : List Bx} {i : Nat} {b : Bx} (h : es[i]? = some b) : es.Perm (b :: es.eraseIdx i) := by
  have hi := (List.getElem?_eq_some_iff.mp h).1
  have := perm_at es i hi
  unfold bA at this
  rwa [getD_of h] at this
theorem map_get {bs : List Bx} {i : Nat} {e : D} (h : (bs.map bxD)[i]? = some e) : ∃ b, bs[i]? = some b ∧ e = bxD b := by
  rw [List.getElem?_map] at h
  cases hb : bs[i]? with
  | none => rw [hb] at h; exact nomatch h
  | some b => rw [hb] at h; exact ⟨b, rfl, by injection h with h; exact h.symm⟩
theorem map_erase (bs : List Bx) (i : Nat) : (bs.map bxD).eraseIdx i = (bs.eraseIdx i).map bxD := by
  rw [List.eraseIdx_eq_take_drop_succ, List.eraseIdx_eq_take_drop_succ, List.map_append, List.map_take, List.map_drop]
theorem ok_u_law_plan (T : Txt K mg) (hd : FnP K "_law_plan" s_u_law_plan) (hm : mg "_law_plan" = some (.ref (He.ga K "_law_plan"))) (O_u_law_cuts : Okd P w K mg base CX0 3 "_law_cuts" ["state", "many", "wide", "high", "strict"] (sp_u_law_cuts K)) (O_u_law_names : Okd P w K mg base CX0 2 "_law_names" ["state", "many"] (sp_u_law_names K)) (O_u_law_take : Okd P w K mg base CX0 1 "_law_take" ["state", "many"] (sp_u_law_take K)) : Okd P w K mg base CX0 4 "_law_plan" ["state", "many", "wide", "high", "strict"] (sp_u_law_plan K) := by
  obtain ⟨fd, F⟩ := hd
  refine ⟨hm, fd, fn_pq F sc_u_law_plan ?_ (fun cdv A outer s H E hr => ⟨_, dv_u_law_plan T O_u_law_cuts O_u_law_names O_u_law_take cdv A outer s H E hr, ?_⟩), F.bindsN (fun _ _ _ _ _ _ us hl => match us, hl with | [_, _, _, _, _], _ => rfl), F.kp⟩
  · rintro ds ⟨x0, x1, x2, x3, rfl, _⟩
    rfl
  · rintro ds ⟨m, w', h, st, rfl, m1, m2, w1, w2, h1, h2⟩
    show ST K E0 (t_u_law_plan K) [.fr stD, .fr (.int (m : Int)), .fr (.int w'), .fr (.int h), .fr (.bool st), .no, .no, .no] _
    unfold t_u_law_plan sp_u_law_cuts sp_u_law_names
    refine q_asgNV (evnx_callN (by walk_at "ea") ⟨m, w', h, st, rfl, m1, m2, w1, w2, h1, h2⟩) ?_
    rintro d ⟨m', w2', h', st', bs, e, rfl, C⟩
    obtain ⟨rfl, rfl, rfl, rfl⟩ : m = m' ∧ w' = w2' ∧ h = h' ∧ st = st' := by
      injection e with _ e
      injection e with e1 e
      injection e with e2 e
      injection e with e3 e
      injection e with e4 e
      injection e1 with e1
      injection e2 with e2
      injection e3 with e3
      injection e4 with e4
      exact ⟨Int.ofNat.inj e1, e2, e3, e4⟩
    clear e
    refine q_asgN (d := .list []) (en_lst ea_nil (by decide)) ?_
    have hhi := C.hi
    have hlo := C.lo
    refine q_for (ei_rng1 (ea_cons (ev_lenO (n := 5) rfl) ea_nil) (by rw [List.length_map]; omega) (by rw [List.length_map]; omega)) (fun i ρ => ∃ (as cs : List Bx) (s7 : Sl), (cs ++ as).Perm bs ∧ cs.length = i ∧ ρ = [.fr stD, .fr (.int (m : Int)), .fr (.int w'), .fr (.int h), .fr (.bool st), .ow (.list (as.map bxD)), .ow (.list (cs.map bxD)), s7]) ⟨bs, [], _, .refl _, rfl, rfl⟩ ?_ ?_
    · rintro i ρ hi ⟨as, cs, s7, hp, hc, rfl⟩
      refine ⟨_, _, gt_name, ?_⟩
      rw [List.length_map] at hi
      have hl := hp.length_eq
      rw [List.length_append] at hl
      refine st_appPop (p := 6) (q := 5) (ds := cs.map bxD) (es := as.map bxD) (Pd := fun d => ∃ k : Nat, d = .int (k : Int) ∧ k < as.length) rfl rfl (by decide) (ev_take (n := 0) rfl (ev_lenO (n := 5) rfl) (by rw [List.length_map]; omega) (by rw [List.length_map]; omega) fun v v0 v1 => ⟨v.toNat, by rw [Int.toNat_of_nonneg v0], by rw [List.length_map] at v1; omega⟩) (by rw [List.length_map]; omega) (by rw [List.length_map]; omega) ?_
      rintro d ⟨k, rfl, hk⟩
      refine ⟨k, rfl, by rw [List.length_map]; exact hk, fun e he => ?_⟩
      obtain ⟨b, hb, rfl⟩ := map_get he
      refine ⟨as.eraseIdx k, cs ++ [b], _, ?_, by rw [List.length_append, hc]; rfl, by rw [map_erase, List.map_append]; rfl⟩
      rw [List.append_assoc]
      exact ((erase_perm hb).symm.append_left cs).trans hp
    · rintro ρ ⟨as, cs, s7, hp, hc, rfl⟩
      rw [List.length_map] at hc
      have hl := hp.length_eq
      rw [List.length_append] at hl
      have ha : as = [] := List.length_eq_zero_iff.mp (by omega)
      subst ha
      rw [List.append_nil] at hp
      refine q_frz (i := 6) rfl ?_
      refine st_retV (Pd := fun d => ∃ rs : List Str, d = plD rs w' h cs ∧ VP rs cs) (evx_tup (Pl := fun ds => ∃ rs : List Str, ds = [.tuple (rs.map PyData.str), .int w', .int h, .tuple (cs.map bxD)] ∧ VP rs cs) (eax_cons (Pa := fun d => ∃ rs : List Str, d = .tuple (rs.map PyData.str) ∧ VP rs cs) (Pl := fun ds => ds = [.int w', .int h, .tuple (cs.map bxD)]) (evx_cb (Pl := fun ds => ∃ rs : List Str, ds = [.list (rs.map PyData.str)] ∧ VP rs cs) (eax_one (Pa := fun d => ∃ rs : List Str, d = .list (rs.map PyData.str) ∧ VP rs cs) (evx_callQ (Pl := fun ds => ds = [stD, .int ((cs.length : Nat) : Int)]) (eax_of (ea_cons (ev_var rfl) (ea_cons (ev_is (d := .int (((cs.map bxD).length : Nat) : Int)) (by walk_at "ev") (by rw [List.length_map])) ea_nil)) rfl) ?_) ?_) ?_) (eax_of ?_ rfl) ?_) ?_) ?_
      · rintro ds rfl
        refine ⟨⟨cs.length, rfl, by omega⟩, ?_⟩
        rintro d ⟨n, rs, e, rfl, hr, up, nm⟩
        obtain rfl : cs.length = n := by
          injection e with _ e
          injection e with e _
          injection e with e
          exact Int.ofNat.inj e
        refine ⟨rs, rfl, hr, by omega, up, nm, ?_, ?_⟩
        · intro b hb
          exact (C.ok b (hp.mem_iff.mp hb)).1
        · exact (hp.pairwise_iff (fun {a b} (h : Dis a b) => h.symm)).mpr C.dis
      · rintro d ⟨rs, rfl, V⟩
        exact ⟨rs, rfl, V⟩
      · rintro ds ⟨rs, rfl, V⟩
        exact ⟨_, cd_tupL, rs, rfl, V⟩
      · exact ea_cons (ev_var rfl) (ea_cons (ev_var rfl) (ea_cons (ev_cb (ea_cons (ev_var (d := .list (cs.map bxD)) rfl) ea_nil) cd_tupL) ea_nil))
      · rintro d ds ⟨rs, rfl, V⟩ rfl
        exact ⟨rs, rfl, V⟩
      · rintro ds ⟨rs, rfl, V⟩
        exact ⟨by show 4 ≤ sizeLine; exact s4, rs, rfl, V⟩
      · rintro d ⟨rs, rfl, V⟩
        exact ⟨_, rfl, m, w', h, st, rs, cs, rfl, rfl, V, ⟨by omega, by omega, fun b hb => C.ok b (hp.mem_iff.mp hb), V.dis, by rw [areas_perm hp]; exact C.sum, fun hs a ha b hb => C.dia hs a (hp.mem_iff.mp ha) b (hp.mem_iff.mp hb)⟩⟩
theorem ok_u_law_whole (T : Txt K mg) (hd : FnP K "_law_whole" s_u_law_whole) (hm : mg "_law_whole" = some (.ref (He.ga K "_law_whole")))  : Okd P w K mg base CX0 1 "_law_whole" ["thing"] (sp_u_law_whole K) := by
  obtain ⟨fd, F⟩ := hd
  refine ⟨hm, fd, fn_pf F sc_u_law_whole ?_ (fun cdv A outer s H E hr => ⟨_, dv_u_law_whole T  cdv A outer s H E hr, ?_⟩), F.bindsN (fun _ _ _ _ _ _ us hl => match us, hl with | [_], _ => rfl), F.kp⟩
  · rintro ds d ⟨x0, rfl, _⟩
    rfl
  · rintro ds d ⟨i, rfl, rfl⟩
    refine ST.mono (P := fun o => o = .rt (.bool true)) ?_ fun o h => .inl h
    show ST K E0 (t_u_law_whole K) [.fr (.int i)] _
    unfold t_u_law_whole
    exact st_ret (ev_andV (a := true) (b := true) (ev_isi (d := .int i) (ev_var rfl) rfl rfl) (fun _ => ev_notV (a := false) (ev_isi (d := .int i) (ev_var rfl) rfl rfl))) (by rfl)
def pr (z : D) : D := .tuple [z, z]
def tot : List D → Nat
  | [] => 0
  | d :: ds => nodes d + tot ds
theorem tot_app (a b : List D) : tot (a ++ b) = tot a + tot b := by
  induction a with
  | nil => exact (Nat.zero_add _).symm
  | cons d a ih =>
    show nodes d + tot (a ++ b) = nodes d + tot a + tot b
    omega
theorem nodesA_tot (ds : List D) : nodesA ds = tot ds := by
  induction ds with
  | nil => exact nodesA.eq_1
  | cons d ds ih => rw [nodesA.eq_2, ih]; rfl
theorem plainA_mem {ds : List D} (h : plainA ds = true) : ∀ d ∈ ds, plain d = true := by
  induction ds with
  | nil => intro d hd; exact nomatch hd
  | cons e ds ih =>
    rw [plainA.eq_2] at h
    obtain ⟨h1, h2⟩ := Bool.and_eq_true_iff.mp h
    intro d hd
    rcases List.mem_cons.mp hd with rfl | hd
    · exact h1
    · exact ih h2 d hd
theorem nodes_pos (d : D) : 1 ≤ nodes d := by
  cases d <;> simp [nodes]
theorem len_tot (zs : List D) : zs.length ≤ tot zs := by
  induction zs with
  | nil => exact Nat.le_refl _
  | cons d zs ih =>
    have := nodes_pos d
    show zs.length + 1 ≤ nodes d + tot zs
    omega
theorem st_popG {Ex : XK} {P : Oc → Prop} {ρ ρ' : List Sl} {ts : List Nat} {n : Nat} {ds : List D} {d : D} {g : TG} (hi : ρ[n]? = some (.ow (.list (ds ++ [d])))) (hg : GT K g (ρ.set n (.ow (.list ds))) d ρ' ts) (q : P (.nx ρ')) : ST K Ex (tAsg (tBM0 K "list" rPop (tVar n)) g) ρ P := fun G0 H0 G H σ D E f => by
  obtain ⟨l, h1, h2, h3, h4⟩ := E.ow n _ hi
  cases h4 with
  | @lst us _ hl hr =>
    obtain ⟨vs, v, rfl, r1, r2⟩ : ∃ vs v, us = vs ++ [v] ∧ DqA K G vs ds ∧ Dq K G v d := hr.snoc_inv
    refine ⟨_, h1, .inl ⟨rfl, _, SqL.of hl⟩, l, _, v, rfl, rfl, hl, by simp, ?_⟩
    have E1 := E.write hi h1 (o := .lst ((vs ++ [v]).dropLast)) (d' := .list ds) (.lst upd_same (by rw [List.dropLast_concat]; exact r1))
    exact hg G0 H0 G _ σ v _ E1 r2 fun σ' E' _ _ => f.nx _ _ G _ q E'
def SameI (x : D) (N : Nat) (i : Nat) (ρ : List Sl) : Prop := ∃ (zs : List D) (s3 s4 s5 s6 : Sl), (∀ z ∈ zs, plain z = true) ∧ tot zs + i ≤ N ∧ ρ = [.fr x, .fr x, .ow (.list (zs.map pr)), s3, s4, s5, s6]
theorem et_isN {ρ : List Sl} {n : Nat} {d : D} (h : ρ[n]? = some (.fr d)) : ET K (tB (tIsN (tVar n))) ρ (isNoneD d) := et_B (ev_isN (ev_var h))
theorem et_notN {ρ : List Sl} {n : Nat} {d : D} (h : ρ[n]? = some (.fr d)) : ET K (tB (tNotN (tVar n))) ρ (!isNoneD d) := et_B (ev_notN (ev_var h))
theorem et_isi {ρ : List Sl} {n : Nat} {d : D} {T : String} {b : Bool} (h : ρ[n]? = some (.fr d)) (nd : isDicD d = false) (hk : kitB (tyD d) T = some b) : ET K (tTr K (tCB (rIsi K) (tCons (tVar n) (tCons (tC (.ty T)) tNil)))) ρ b := et_trB (ev_isi (ev_var h) nd hk)
theorem ok_u_law_same (T : Txt K mg) (hd : FnP K "_law_same" s_u_law_same) (hm : mg "_law_same" = some (.ref (He.ga K "_law_same"))) (O_u_law_whole : Okd P w K mg base CX0 1 "_law_whole" ["thing"] (sp_u_law_whole K)) : Okd P w K mg base CX0 2 "_law_same" ["told", "due"] (sp_u_law_same K) := by
  obtain ⟨fd, F⟩ := hd
  refine ⟨hm, fd, fn_pf F sc_u_law_same ?_ (fun cdv A outer s H E hr => ⟨_, dv_u_law_same T O_u_law_whole cdv A outer s H E hr, ?_⟩), F.bindsN (fun _ _ _ _ _ _ us hl => match us, hl with | [_, _], _ => rfl), F.kp⟩
  · rintro ds d ⟨x0, rfl, _⟩
    rfl
  · rintro ds d ⟨x, rfl, hp, hn, rfl⟩
    refine ST.mono (P := fun o => o = .rt (.bool true)) ?_ fun o h => .inl h
    show ST K E0 (t_u_law_same K) [.fr x, .fr x, .no, .no, .no, .no, .no] _
    unfold t_u_law_same sp_u_law_whole
    refine q_asgN (d := .list ([x].map pr)) (en_lst (ea_cons (ev_tup (ds := [x, x]) (ea_cons (ev_var rfl) (ea_cons (ev_var rfl) ea_nil)) s2) ea_nil) (by show 1 ≤ sizeLine; rw [sizeLine_eq]; omega)) ?_
    refine q_for (ei_rng1 (ea_cons ev_int ea_nil) (by decide) (by decide)) (SameI x (nodes x)) ⟨[x], _, _, _, _, ?_, by show nodes x + 0 + 0 ≤ nodes x; omega, rfl⟩ ?_ ?_
    · intro z hz
      obtain rfl := List.mem_singleton.mp hz
      exact hp
    · rintro i ρ hi ⟨zs, s3, s4, s5, s6, hz, ht, rfl⟩
      refine ⟨_, _, gt_name, ?_⟩
      refine q_when (b := decide (((zs.map pr).length : Int) = 0)) (et_test (ev_op (ev_lenO (n := 2) rfl) ev_int od_eqI)) (fun hb => st_ret (d := .bool true) (by walk_at "ev") (by rfl)) fun hb => ?_
      rcases List.eq_nil_or_concat zs with rfl | ⟨ys, z, hcc⟩
      · exact absurd (show ((([] : List D).map pr).length : Int) = 0 from rfl) (of_decide_eq_false hb)
      rw [List.concat_eq_append] at hcc
      subst hcc
      clear hb hi
      have hpz : plain z = true := hz z (List.mem_append.mpr (.inr (List.mem_singleton.mpr rfl)))
      have hys : ∀ y ∈ ys, plain y = true := fun y hy => hz y (List.mem_append.mpr (.inl hy))
      rw [tot_app] at ht
      have ht : tot ys + (nodes z + 0) + i ≤ nodes x := ht
      have np := nodes_pos z
      have hly := len_tot ys
      refine st_seq (st_popG (n := 2) (ds := ys.map pr) (d := pr z) (by show some (Sl.ow (.list ((ys ++ [z]).map pr))) = _; rw [List.map_append]; rfl) (gt_tup rfl (gts_cons gt_name (gts_cons gt_name gts_nil))) ?_)
      have nxt : SameI x (nodes x) (i + 1) [.fr x, .fr x, .ow (.list (ys.map pr)), .fr (.int (i : Nat)), .fr z, .fr z, s6] := ⟨ys, _, _, _, _, hys, by omega, rfl⟩
      show ST K E0 _ [.fr x, .fr x, .ow (.list (ys.map pr)), .fr (.int (i : Nat)), .fr z, .fr z, s6] _
      cases z with
      | none =>
        refine st_if (b := true) (et_isN (n := 5) (d := .none) rfl) (fun _ => ?_) fun h => nomatch h
        exact st_if (b := false) (et_notN (n := 4) (d := .none) rfl) (fun h => nomatch h) fun _ => st_next nxt
      | bool b =>
        refine st_if (b := false) (et_isN (n := 5) (d := .bool b) rfl) (fun h => nomatch h) fun _ => ?_
        refine st_if (b := true) (et_isi (n := 5) (d := .bool b) rfl rfl rfl) (fun _ => ?_) fun h => nomatch h
        refine st_if (b := false) (et_is (et_or (et_not (et_isi (n := 4) (d := .bool b) (b := true) rfl rfl rfl)) fun _ => et_test (ev_op (ev_var (d := .bool b) rfl) (ev_var (d := .bool b) rfl) od_neB)) ?_) (fun h => nomatch h) fun _ => st_next nxt
        rw [decide_eq_true rfl]; rfl
      | int j =>
        refine st_if (b := false) (et_isN (n := 5) (d := .int j) rfl) (fun h => nomatch h) fun _ => ?_
        refine st_if (b := false) (et_isi (n := 5) (d := .int j) rfl rfl rfl) (fun h => nomatch h) fun _ => ?_
        refine st_if (b := true) (et_isi (n := 5) (d := .int j) rfl rfl rfl) (fun _ => ?_) fun h => nomatch h
        refine st_if (b := false) (et_is (et_or (et_not (et_trB (b := true) (ev_call (ea_cons (ev_var (d := .int j) rfl) ea_nil) ⟨j, rfl, rfl⟩))) fun _ => et_test (ev_op (ev_var (d := .int j) rfl) (ev_var (d := .int j) rfl) od_neI)) ?_) (fun h => nomatch h) fun _ => st_next nxt
        rw [decide_eq_true rfl]; rfl
      | str z =>
        refine st_if (b := false) (et_isN (n := 5) (d := .str z) rfl) (fun h => nomatch h) fun _ => ?_
        refine st_if (b := false) (et_isi (n := 5) (d := .str z) rfl rfl rfl) (fun h => nomatch h) fun _ => ?_
        refine st_if (b := false) (et_isi (n := 5) (d := .str z) rfl rfl rfl) (fun h => nomatch h) fun _ => ?_
        refine st_if (b := true) (et_isi (n := 5) (d := .str z) rfl rfl rfl) (fun _ => ?_) fun h => nomatch h
        refine st_if (b := false) (et_is (et_or (et_not (et_isi (n := 4) (d := .str z) (b := true) rfl rfl rfl)) fun _ => et_test (ev_op (ev_var (d := .str z) rfl) (ev_var (d := .str z) rfl) od_neS)) ?_) (fun h => nomatch h) fun _ => st_next nxt
        rw [decide_eq_true rfl]; rfl
      | tuple ds =>
        have hpd : ∀ d ∈ ds, plain d = true := plainA_mem (by rw [plain] at hpz; exact hpz)
        have hnd : nodes (.tuple ds) = 1 + tot ds := by rw [nodes, nodesA_tot]
        have hld := len_tot ds
        refine st_if (b := false) (et_isN (n := 5) (d := .tuple ds) rfl) (fun h => nomatch h) fun _ => ?_
        refine st_if (b := false) (et_isi (n := 5) (d := .tuple ds) rfl rfl rfl) (fun h => nomatch h) fun _ => ?_
        refine st_if (b := false) (et_isi (n := 5) (d := .tuple ds) rfl rfl rfl) (fun h => nomatch h) fun _ => ?_
        refine st_if (b := false) (et_isi (n := 5) (d := .tuple ds) rfl rfl rfl) (fun h => nomatch h) fun _ => ?_
        have lt : ∀ (ρ : List Sl) (n : Nat), ρ[n]? = some (.fr (.tuple ds)) → EV K (tCB (rLen K) (tCons (tVar n) tNil)) ρ (.int ((ds.length : Nat) : Int)) := fun ρ n h => ev_cb (ea_cons (ev_var h) ea_nil) cd_lenT
        refine q_no (et_is (et_or (et_not (et_isi (n := 4) (d := .tuple ds) (b := true) rfl rfl rfl)) fun _ => et_test (ev_op (lt _ 4 rfl) (lt _ 5 rfl) od_neI)) (by rw [decide_eq_true rfl]; rfl)) ?_
        refine st_for (ei_rng1 (ea_cons (lt _ 5 rfl) ea_nil) (by omega) (by omega)) (fun j ρ => ∃ s6 : Sl, ρ = [.fr x, .fr x, .ow (.list ((ys ++ ds.take j).map pr)), .fr (.int (i : Nat)), .fr (.tuple ds), .fr (.tuple ds), s6]) ⟨s6, by rw [List.take_zero, List.append_nil]⟩ ?_ ?_
        · rintro j ρ hj ⟨s6, rfl⟩
          refine ⟨_, _, gt_name, ?_⟩
          have hj : j < ds.length := by omega
          have ix : ∀ (ρ : List Sl) (n : Nat), ρ[n]? = some (.fr (.tuple ds)) → ρ[6]? = some (.fr (.int (j : Nat))) → EV K (tOp (rIx K) (tVar n) (tVar 6)) ρ ds[j] := fun ρ n h1 h2 => ev_op (ev_var h1) (ev_var h2) (od_ixT (atI_nat (List.getElem?_eq_getElem hj)))
          refine st_append (n := 2) rfl (ev_tup (ds := [ds[j], ds[j]]) (ea_cons (ix _ 4 rfl rfl) (ea_cons (ix _ 5 rfl rfl) ea_nil)) s2) ?_ ⟨.fr (.int (j : Nat)), ?_⟩
          · rw [List.length_map, List.length_append, List.length_take]
            omega
          · rw [List.take_succ_eq_append_getElem hj, ← List.append_assoc, List.map_append (l₂ := [_])]
            rfl
        · rintro ρ ⟨s6, rfl⟩
          refine ⟨ys ++ ds, .fr (.int (i : Nat)), .fr (.tuple ds), .fr (.tuple ds), s6, ?_, ?_, ?_⟩
          · intro z hz
            rcases List.mem_append.mp hz with a | a
            · exact hys z a
            · exact hpd z a
          · rw [tot_app]
            omega
          · rw [show ((ds.length : Nat) : Int).toNat = ds.length from Int.toNat_natCast _, List.take_of_length_le (Nat.le_refl _)]
      | list _ => rw [plain] at hpz <;> first | exact nomatch hpz | (intros; simp)
      | dict _ => rw [plain] at hpz <;> first | exact nomatch hpz | (intros; simp)
    · rintro ρ ⟨zs, s3, s4, s5, s6, hz, ht, rfl⟩
      have : (200000 : Int).toNat = 200000 := rfl
      omega
/-! signs, rows, pictures -/
theorem ei_map {α : Type} {h : α → D} (z : α) {te : TE} {ρ : List Sl} {zs : List α} (hd : EV K te ρ (.list (zs.map h))) : EI K (iSeqU K te) ρ zs.length (fun i => h (zs.getD i z)) := by
  have e := ei_list hd
  rw [List.length_map] at e
  exact ei_mono e fun i hi => by
    rw [List.getD_eq_getElem?_getD, List.getElem?_map, List.getD_eq_getElem?_getD, List.getElem?_eq_getElem hi]
    rfl
theorem lc_map {α : Type} {h : α → D} (z : α) (zs : List α) : lcD zs.length (fun _ => true) (fun i => h (zs.getD i z)) = zs.map h := by
  have := lc_filterA (p := fun _ : α => true) (h := h) z zs
  rw [this, List.filter_eq_self.mpr fun _ _ => rfl]
theorem lc_rng (f : Nat → D) : ∀ n, lcD n (fun _ => true) f = (List.range n).map f
  | 0 => rfl
  | n + 1 => by
    unfold lcD
    rw [if_pos rfl, lc_rng f n, List.range_succ, List.map_append]
    rfl
theorem lc_rngF (b : Nat → Bool) (f : Nat → D) : ∀ n, lcD n b f = ((List.range n).filter b).map f
  | 0 => rfl
  | n + 1 => by
    unfold lcD
    rw [lc_rngF b f n, List.range_succ, List.filter_append, List.map_append]
    by_cases h : b n = true
    · rw [if_pos h]
      simp [List.filter_cons, h]
    · rw [if_neg h]
      simp [List.filter_cons, h]
theorem dis_sym {a b : Bx} (h : Dis a b) : Dis b a := by
  unfold Dis acr alo at *
  omega
theorem dis_at {bs : List Bx} (hd : bs.Pairwise Dis) {i j : Nat} (hi : i < bs.length) (hj : j < bs.length) (ne : i ≠ j) : Dis (bA bs i) (bA bs j) := by
  have e : ∀ {k : Nat} (hk : k < bs.length), bA bs k = bs[k] := fun {k} hk => by
    unfold bA
    rw [List.getD_eq_getElem?_getD, List.getElem?_eq_getElem hk]
    rfl
  rw [e hi, e hj]
  rcases Nat.lt_or_gt_of_ne ne with h | h
  · exact List.pairwise_iff_getElem.mp hd i j hi hj h
  · exact dis_sym (List.pairwise_iff_getElem.mp hd j i hj hi h)
def hitsN (bs : List Bx) (y : Int) (n : Nat) : List Nat := (List.range n).filter fun k => hitB y (bA bs k)
theorem hitsN_succ (bs : List Bx) (y : Int) (n : Nat) : hitsN bs y (n + 1) = hitsN bs y n ++ if hitB y (bA bs n) = true then [n] else [] := by
  unfold hitsN
  rw [List.range_succ, List.filter_append]
  by_cases h : hitB y (bA bs n) = true
  · rw [if_pos h]
    simp [List.filter_cons, h]
  · rw [if_neg h]
    simp [List.filter_cons, h]
theorem hits_len (bs : List Bx) (y : Int) (n : Nat) : (hitsN bs y n).length ≤ n := by
  have := List.length_filter_le (fun k => hitB y (bA bs k)) (List.range n)
  rw [List.length_range] at this
  exact this
theorem hits_mem {bs : List Bx} {y : Int} {n k : Nat} (h : k ∈ hitsN bs y n) : k < n ∧ (bA bs k).s ≤ y ∧ y < (bA bs k).n := by
  obtain ⟨h1, h2⟩ := List.mem_filter.mp h
  unfold hitB at h2
  simp at h2
  exact ⟨List.mem_range.mp h1, h2⟩
theorem rowI_perm (bs : List Bx) (y : Int) : (rowI bs y).Perm (hitsN bs y bs.length) := List.mergeSort_perm _ _
theorem rowI_mem {bs : List Bx} {y : Int} {k : Nat} : k ∈ rowI bs y ↔ k < bs.length ∧ (bA bs k).s ≤ y ∧ y < (bA bs k).n := by
  rw [(rowI_perm bs y).mem_iff]
  constructor
  · exact hits_mem
  · rintro ⟨h1, h2, h3⟩
    exact List.mem_filter.mpr ⟨List.mem_range.mpr h1, by unfold hitB; simp [h2, h3]⟩
theorem rowI_len (bs : List Bx) (y : Int) : (rowI bs y).length ≤ bs.length := by
  rw [(rowI_perm bs y).length_eq]
  exact hits_len bs y bs.length
theorem west_ne {a b : Bx} {y : Int} (pa : Pos a) (pb : Pos b) (d : Dis a b) (ha : a.s ≤ y ∧ y < a.n) (hb : b.s ≤ y ∧ y < b.n) : a.w ≠ b.w := by
  unfold Dis acr alo at d
  unfold Pos at pa pb
  omega
theorem rowI_up {bs : List Bx} (hb : PB bs) (y : Int) : (rowI bs y).Pairwise fun i j => (bA bs i).w < (bA bs j).w := by
  have p1 : (rowI bs y).Pairwise fun i j => (bA bs i).w ≤ (bA bs j).w := by
    have := List.pairwise_mergeSort (le := fun i j => decide ((bA bs i).w ≤ (bA bs j).w)) (fun a b c h k => decide_eq_true (Int.le_trans (of_decide_eq_true h) (of_decide_eq_true k)))
      (fun a b => by
        rcases Int.le_total (bA bs a).w (bA bs b).w with h | h
        · rw [decide_eq_true h]; rfl
        · rw [decide_eq_true h, Bool.or_true]) (hitsN bs y bs.length)
    exact this.imp fun h => of_decide_eq_true h
  have nd : (rowI bs y).Nodup := (rowI_perm bs y).nodup_iff.mpr (List.nodup_range.filter _)
  refine (p1.and (List.nodup_iff_pairwise_ne.mp nd)).imp_of_mem ?_
  intro i j hi hj ⟨h1, h2⟩
  obtain ⟨a1, a2, a3⟩ := rowI_mem.mp hi
  obtain ⟨b1, b2, b3⟩ := rowI_mem.mp hj
  have := west_ne (hb.ok _ (bA_mem a1)).1 (hb.ok _ (bA_mem b1)).1 (dis_at hb.dis a1 b1 h2) ⟨a2, a3⟩ ⟨b2, b3⟩
  omega
theorem row_srt {bs : List Bx} (hb : PB bs) (y : Int) {f : Nat → List Key} (hf : ∀ k, ∃ r, f k = .inl (bA bs k).w :: r) : srt ltKs ((hitsN bs y bs.length).map f) = (rowI bs y).map f := by
  refine (srt_uniq stoKs ((rowI_perm bs y).map f) ?_).symm
  rw [List.pairwise_map]
  refine (rowI_up hb y).imp fun {i j} h => ?_
  obtain ⟨r1, e1⟩ := hf i
  obtain ⟨r2, e2⟩ := hf j
  rw [e1, e2]
  show (if (Sum.inl (bA bs j).w : Key) = Sum.inl (bA bs i).w then ltKs r2 r1 else decide ((bA bs j).w < (bA bs i).w)) = false
  rw [if_neg fun z => by injection z with z; omega]
  exact decide_eq_false (by omega)
theorem wide_le {bs : List Bx} (hb : PB bs) {k : Nat} (hk : k < bs.length) : 1 ≤ (bA bs k).e - (bA bs k).w ∧ (bA bs k).e - (bA bs k).w ≤ 160 := by
  obtain ⟨p, h1, h2, _⟩ := hb.ok _ (bA_mem hk)
  unfold Pos at p
  omega
theorem piece_len {bs : List Bx} (hb : PB bs) (sg : Str) {k : Nat} (hk : k < bs.length) : (pieceT bs sg k).length ≤ 160 := by
  have := wide_le hb hk
  unfold pieceT
  rw [len_rep]
  show _ * 1 ≤ 160
  omega
def pcK (bs : List Bx) (sg : Str) (k : Nat) : List Key := [.inl (bA bs k).w, .inr (pieceT bs sg k)]
theorem row_fit {bs : List Bx} (hb : PB bs) (sg : Str) (y : Int) : (((rowI bs y).map (pieceT bs sg)).map (·.length)).sum + ((rowI bs y).map (pieceT bs sg)).length * (("" : Str)).length ≤ 16777216 := by
  have hl := rowI_len bs y
  have := hb.many
  refine join_fit (m := 160) (n := 40) (fun z hz => ?_) (by rw [List.length_map]; omega) (by decide) (by decide)
  obtain ⟨k, hk, rfl⟩ := List.mem_map.mp hz
  exact piece_len hb sg (rowI_mem.mp hk).1
theorem ev_rep {ρ : List Sl} {ta tb : TE} {c : Nat} {j : Int} (h : EV K ta ρ (.str (oneS c))) (hb : EV K tb ρ (.int j)) (h0 : 0 ≤ j) (h1 : j ≤ 160) : EV K (tOp rMulU ta tb) ρ (.str (repS (oneS c) j)) :=
  ev_op h hb (od_mulS (by omega) (by omega) (by show 1 * _ ≤ _; rw [sizeLine_eq]; omega))
theorem ok_room_signs (T : Txt K mg) (hd : FnP K "room_signs" s_room_signs) (hm : mg "room_signs" = some (.ref (He.ga K "room_signs")))  : Okd P w K mg base CX0 1 "room_signs" ["rooms"] (sp_room_signs K) := by
  obtain ⟨fd, F⟩ := hd
  refine ⟨hm, fd, fn_pf F sc_room_signs ?_ (fun cdv A outer s H E hr => ⟨_, dv_room_signs T  cdv A outer s H E hr, ?_⟩), F.bindsN (fun _ _ _ _ _ _ us hl => match us, hl with | [_], _ => rfl), F.kp⟩
  · rintro ds d ⟨x0, rfl, _⟩
    rfl
  · rintro ds d ⟨rs, rfl, hr, rfl⟩
    refine ST.mono (P := fun o => o = .rt (.str (sgT rs.length))) ?_ fun o h => .inl h
    show ST K E0 (t_room_signs K) [.fr (.tuple (rs.map PyData.str))] _
    unfold t_room_signs
    refine st_ret (ev_slS ev_str (by decide +kernel) eo_none (eo_some (ev_is (d := .int (((rs.map PyData.str).length : Nat) : Int)) (by walk_at "ev") (by rw [List.length_map])))) (by rfl)
theorem ok_u_law_signs (T : Txt K mg) (hd : FnP K "_law_signs" s_u_law_signs) (hm : mg "_law_signs" = some (.ref (He.ga K "_law_signs")))  : Okd P w K mg base CX0 1 "_law_signs" ["many"] (sp_u_law_signs K) := by
  obtain ⟨fd, F⟩ := hd
  refine ⟨hm, fd, fn_pf F sc_u_law_signs ?_ (fun cdv A outer s H E hr => ⟨_, dv_u_law_signs T  cdv A outer s H E hr, ?_⟩), F.bindsN (fun _ _ _ _ _ _ us hl => match us, hl with | [_], _ => rfl), F.kp⟩
  · rintro ds d ⟨x0, rfl, _⟩
    rfl
  · rintro ds d ⟨n, rfl, hn, rfl⟩
    refine ST.mono (P := fun o => o = .rt (.str (sgT n))) ?_ fun o h => .inl h
    show ST K E0 (t_u_law_signs K) [.fr (.int (n : Nat))] _
    unfold t_u_law_signs
    exact st_ret (ev_slS ev_str (by decide +kernel) eo_none (eo_some (ev_var rfl))) (by rfl)
theorem ok_picture_line (T : Txt K mg) (hd : FnP K "picture_line" s_picture_line) (hm : mg "picture_line" = some (.ref (He.ga K "picture_line")))  : Okd P w K mg base CX0 1 "picture_line" ["boxes", "signs", "south"] (sp_picture_line K) := by
  obtain ⟨fd, F⟩ := hd
  refine ⟨hm, fd, fn_pf F sc_picture_line ?_ (fun cdv A outer s H E hr => ⟨_, dv_picture_line T  cdv A outer s H E hr, ?_⟩), F.bindsN (fun _ _ _ _ _ _ us hl => match us, hl with | [_, _, _], _ => rfl), F.kp⟩
  · rintro ds d ⟨x0, x1, x2, rfl, _⟩
    rfl
  · rintro ds d ⟨bs, sg, y, rfl, hb, hl, rfl⟩
    refine ST.mono (P := fun o => o = .rt (.str (rowT bs sg y))) ?_ fun o h => .inl h
    show ST K E0 (t_picture_line K) [.fr (.tuple (bs.map bxD)), .fr (.str sg), .fr (.int y), .no, .no, .no, .no] _
    unfold t_picture_line
    have hm := hb.many
    refine q_asgN (d := .list []) (en_lst ea_nil (by decide)) ?_
    refine q_for (ei_zipTS (as := bs.map bxD) (z := sg) (by walk_at "ea") (by rw [List.length_map]; exact hl)) (fun i ρ => ∃ s4 s5 : Sl, ρ = [.fr (.tuple (bs.map bxD)), .fr (.str sg), .fr (.int y), .ow (.list ((hitsN bs y i).map fun k => ktD (pcK bs sg k))), s4, s5, .no]) ⟨_, _, rfl⟩ ?_ ?_
    · rintro i ρ hi ⟨s4, s5, rfl⟩
      rw [List.length_map] at hi
      rw [getD_bx hi]
      refine ⟨_, _, gt_tup rfl (gts_cons gt_name (gts_cons gt_name gts_nil)), ?_⟩
      show ST K E0 _ [.fr (.tuple (bs.map bxD)), .fr (.str sg), .fr (.int y), .ow (.list ((hitsN bs y i).map fun k => ktD (pcK bs sg k))), .fr (bxD (bA bs i)), .fr (.str (oneS (sgC sg i))), .no] _
      have hw := wide_le hb hi
      have hx : EV K (tVar 4) [.fr (.tuple (bs.map bxD)), .fr (.str sg), .fr (.int y), .ow (.list ((hitsN bs y i).map fun k => ktD (pcK bs sg k))), .fr (bxD (bA bs i)), .fr (.str (oneS (sgC sg i))), .no] (bxD (bA bs i)) := ev_var rfl
      refine st_if (b := hitB y (bA bs i)) (et_and (et_test (ev_op (ev_bx hx).2.1 (ev_var rfl) od_cmpI)) fun _ => et_test (ev_op (ev_var rfl) (ev_bx hx).2.2.2 od_cmpI)) (fun h => ?_) (fun h => ?_)
      · refine st_append (n := 3) rfl (d := ktD (pcK bs sg i)) (ev_tup (ds := [.int (bA bs i).w, .str (pieceT bs sg i)]) (ea_cons (ev_bx hx).1 (ea_cons (ev_rep (ev_var rfl) (ev_op (ev_bx hx).2.2.1 (ev_bx hx).1 od_sub) (by omega) (by omega)) ea_nil)) s2) ?_ ?_
        · rw [List.length_map]
          have := hits_len bs y i
          omega
        · refine ⟨.fr (bxD (bA bs i)), .fr (.str (oneS (sgC sg i))), ?_⟩
          rw [hitsN_succ, if_pos h, List.map_append]
          rfl
      · refine st_next ⟨.fr (bxD (bA bs i)), .fr (.str (oneS (sgC sg i))), ?_⟩
        rw [hitsN_succ, if_neg (by rw [h]; exact Bool.false_ne_true), List.append_nil]
    · rintro ρ ⟨s4, s5, rfl⟩
      rw [List.length_map]
      refine q_frz (i := 3) rfl ?_
      have hs := row_srt hb y (f := pcK bs sg) fun k => ⟨_, rfl⟩
      refine st_ret (ev_joinL (ys := (rowI bs y).map (pieceT bs sg)) ev_str (ev_N (en_is (en_lc (n := (rowI bs y).length) (b := fun _ => true) (f := fun i => .str (pieceT bs sg ((rowI bs y).getD i 0))) (ei_map (h := fun k => ktD (pcK bs sg k)) 0 (zs := rowI bs y) ?_) ?_ fun i hi => ⟨_, _, gt_name, by simp, ?_, fun _ => ?_⟩) ?_)) (row_fit hb sg y)) (by rfl)
      · refine ev_N (en_is (en_cb (ds := [.list (((hitsN bs y bs.length).map (pcK bs sg)).map ktD)]) (ea_cons (ev_is (ev_var rfl) (by rw [List.map_map]; rfl)) ea_nil) (cn_sortKT (b := true) (sh := [false]) ?_)) ?_)
        · intro q hq
          obtain ⟨k, _, rfl⟩ := List.mem_map.mp hq
          rfl
        · rw [hs, List.map_map]
          rfl
      · have := rowI_len bs y
        omega
      · exact et_yes
      · exact ev_op (d1 := ktD (pcK bs sg ((rowI bs y).getD i 0))) (ev_var rfl) ev_int (od_ixT (by rfl))
      · rw [lc_map (h := fun k => PyData.str (pieceT bs sg k)) 0 (rowI bs y), List.map_map]
        rfl
theorem cutN_list (z : Str) (n : Nat) : (cutS z none (some (n : Int))).cps.toList = z.cps.toList.take n := by
  unfold cutS
  show List.take (HT.sIx z.cps.size z.cps.size (some ((n : Nat) : Int)) - 0) (z.cps.toList.drop 0) = z.cps.toList.take n
  rw [HT.sIx_nat, List.drop_zero, Nat.sub_zero]
  by_cases h : z.cps.size ≤ n
  · rw [Nat.min_eq_right h, List.take_of_length_le (by rw [Array.length_toList]; exact Nat.le_refl _), List.take_of_length_le (by rw [Array.length_toList]; exact h)]
  · rw [Nat.min_eq_left (by omega)]
theorem sgT_list (n : Nat) : (sgT n).cps.toList = SG.cps.toList.take n := cutN_list SG n
theorem SG_len : SG.cps.toList.length = 40 := by decide +kernel
theorem sgT_size {n : Nat} (h : n ≤ 40) : (sgT n).cps.size = n := by
  have := congrArg List.length (sgT_list n)
  rw [Array.length_toList, List.length_take, SG_len] at this
  omega
theorem ix_sg {sg : Str} {k : Nat} (h : k < sg.cps.size) : sg.cps.toList[k]? = some (sgC sg k) := by
  unfold sgC
  rw [Array.getElem?_toList, Array.getD_eq_getD_getElem?, Array.getElem?_eq_getElem h]
  rfl
theorem emp_app (z : Str) : Str.empty ++ z = z := str_ext (by rw [PyProof.Rows.cps_toList_append]; rfl)
theorem row_len {bs : List Bx} (hb : PB bs) (sg : Str) (y : Int) : (rowT bs sg y).length ≤ 6400 := by
  have h1 := rowI_len bs y
  have h2 := hb.many
  have := join_len "" ((rowI bs y).map (pieceT bs sg)) (m := 160) fun z hz => by
    obtain ⟨k, hk, rfl⟩ := List.mem_map.mp hz
    exact piece_len hb sg (rowI_mem.mp hk).1
  rw [List.length_map, show ("" : Str).length = 0 from rfl] at this
  show (Txt.join "" _).length ≤ 6400
  omega
theorem sl_len {rs : List Str} (h8 : ∀ z ∈ rs, z.length ≤ 8) (sg : Str) {k : Nat} (hk : k < rs.length) : (signL rs sg k).length ≤ 10 := by
  have := h8 _ (DL.getD_mem (z := Str.empty) hk)
  unfold signL
  rw [len_app, len_app]
  show 1 + 1 + _ ≤ 10
  omega
theorem pic_line {rs : List Str} {h : Nat} {bs : List Bx} {sg : Str} (hb : PB bs) (h8 : ∀ z ∈ rs, z.length ≤ 8) : ∀ z ∈ picT rs h bs sg, z.length ≤ 6400 := by
  intro z hz
  unfold picT at hz
  rcases List.mem_append.mp hz with hz | hz
  · rcases List.mem_append.mp hz with hz | hz
    · obtain ⟨i, _, rfl⟩ := List.mem_map.mp hz
      exact row_len hb sg _
    · obtain rfl := List.mem_singleton.mp hz
      decide
  · obtain ⟨k, hk, rfl⟩ := List.mem_map.mp hz
    have := sl_len h8 sg (List.mem_range.mp hk)
    omega
theorem pic_len (rs : List Str) (h : Nat) (bs : List Bx) (sg : Str) : (picT rs h bs sg).length = h + 1 + rs.length := by
  unfold picT
  simp
  omega
def upT (rs : List Str) (h : Nat) (bs : List Bx) (sg : Str) (i : Nat) : List Str := ((List.range h).map fun i => rowT bs sg ((h : Int) - 1 - (i : Nat))) ++ [("--" : Str)] ++ (List.range i).map (signL rs sg)
theorem getD_strs {rs : List Str} {i : Nat} (hi : i < rs.length) : (rs.map PyData.str).getD i .none = .str (rs.getD i Str.empty) := by
  rw [List.getD_eq_getElem?_getD, List.getElem?_map, List.getD_eq_getElem?_getD, List.getElem?_eq_getElem hi]
  rfl
theorem ok_picture_of (T : Txt K mg) (hd : FnP K "picture_of" s_picture_of) (hm : mg "picture_of" = some (.ref (He.ga K "picture_of"))) (O_room_signs : Okd P w K mg base CX0 1 "room_signs" ["rooms"] (sp_room_signs K)) (O_picture_line : Okd P w K mg base CX0 1 "picture_line" ["boxes", "signs", "south"] (sp_picture_line K)) (X_BadStep : ExOk P w K mg base 1 "BadStep" ["word"]) : Okd P w K mg base (L2N.CX P w) 3 "picture_of" ["plan"] (sp_picture_of K) := by
  obtain ⟨fd, F⟩ := hd
  refine ⟨hm, fd, fn_pxC F sc_picture_of ?_ ?_ (fun cdv A outer s H E hr => ⟨_, dv_picture_of T O_room_signs O_picture_line X_BadStep cdv A outer s H E hr, ?_, ?_⟩), F.bindsN (fun _ _ _ _ _ _ us hl => match us, hl with | [_], _ => rfl), F.kp⟩
  · rintro ds d ⟨x0, x1, x2, x3, rfl, _⟩
    rfl
  · rintro ds C fl ⟨x0, x1, x2, x3, rfl, _⟩
    rfl
  · rintro ds d ⟨rs, w', h, bs, rfl, hb, hl, h8, hw, hh, rfl⟩
    refine ST.mono (P := fun o => o = .rt (.str (Txt.join "\n" (picT rs h bs (sgT rs.length))))) ?_ fun o h => .inl h
    show ST K E (t_picture_of K E) [.fr (plD rs w' h bs), .no, .no, .no, .no, .no, .no, .no, .no, .no] _
    unfold t_picture_of sp_room_signs sp_picture_line
    have hm := hb.many
    have hsz : (sgT rs.length).cps.size = rs.length := sgT_size (by omega)
    refine q_asgG (ev_var rfl) (gt_tup rfl (gts_cons gt_name (gts_cons gt_name (gts_cons gt_name (gts_cons gt_name gts_nil))))) ?_
    show ST K E _ [.fr (plD rs w' h bs), .fr (.tuple (rs.map PyData.str)), .fr (.int w'), .fr (.int h), .fr (.tuple (bs.map bxD)), .no, .no, .no, .no, .no] _
    refine q_no (et_is (et_or (et_test (ev_op (ev_var (d := .int w') rfl) ev_int od_cmpI)) fun _ => et_test (ev_op (ev_var (d := .int h) rfl) ev_int od_cmpI)) (by simp; omega)) ?_
    refine q_asg (ev_call (ea_cons (ev_var rfl) ea_nil) ⟨rs, rfl, by omega, rfl⟩) ?_
    refine q_asgN (d := .list ((upT rs h bs (sgT rs.length) 0).dropLast.map PyData.str)) (en_is (en_lc (n := h) (b := fun _ => true) (f := fun i => .str (rowT bs (sgT rs.length) ((h : Int) - 1 - (i : Nat)))) (ei_mono (ei_rng1 (ea_cons (ev_var (d := .int h) rfl) ea_nil) (by omega) (by omega)) fun i hi => rfl) (by omega) fun i hi => ⟨_, _, gt_name, by simp, et_yes, fun _ => ?_⟩) ?_) ?_
    · exact ev_call (ea_cons (ev_var rfl) (ea_cons (ev_var rfl) (ea_cons (ev_op (ev_op (ev_var rfl) ev_int od_sub) (ev_var rfl) od_sub) ea_nil))) ⟨bs, _, _, rfl, hb, by rw [hsz, hl], rfl⟩
    · rw [lc_rng]
      show PyData.list _ = PyData.list _
      congr 1
      unfold upT
      rw [List.range_zero, List.map_nil, List.append_nil, List.dropLast_concat, List.map_map]
      rfl
    refine q_append (n := 6) rfl (d := .str "--") ev_str (by rw [List.length_map, List.length_dropLast]; unfold upT; simp; omega) ?_
    refine q_for (ei_zipST (as := rs.map PyData.str) (z := sgT rs.length) (by walk_at "ea") (by rw [List.length_map, hsz])) (fun i ρ => ∃ s8 s9 : Sl, ρ = [.fr (plD rs w' h bs), .fr (.tuple (rs.map PyData.str)), .fr (.int w'), .fr (.int h), .fr (.tuple (bs.map bxD)), .fr (.str (sgT rs.length)), .ow (.list ((upT rs h bs (sgT rs.length) i).map PyData.str)), .no, s8, s9]) ⟨.no, .no, ?_⟩ ?_ ?_
    · have : (upT rs h bs (sgT rs.length) 0).dropLast ++ [("--" : Str)] = upT rs h bs (sgT rs.length) 0 := by
        unfold upT
        rw [List.range_zero, List.map_nil, List.append_nil, List.dropLast_concat]
      have e2 : (upT rs h bs (sgT rs.length) 0).map PyData.str = ((upT rs h bs (sgT rs.length) 0).dropLast).map PyData.str ++ [PyData.str "--"] := by
        conv => lhs; rw [← this, List.map_append]
        rfl
      rw [e2]
      rfl
    · rintro i ρ hi ⟨s8, s9, rfl⟩
      rw [List.length_map] at hi
      rw [getD_strs hi]
      refine ⟨_, _, gt_tup rfl (gts_cons gt_name (gts_cons gt_name gts_nil)), ?_⟩
      show ST K E _ [.fr (plD rs w' h bs), .fr (.tuple (rs.map PyData.str)), .fr (.int w'), .fr (.int h), .fr (.tuple (bs.map bxD)), .fr (.str (sgT rs.length)), .ow (.list ((upT rs h bs (sgT rs.length) i).map PyData.str)), .no, .fr (.str (oneS (sgC (sgT rs.length) i))), .fr (.str (rs.getD i Str.empty))] _
      have hz := h8 _ (DL.getD_mem (z := Str.empty) hi)
      refine st_append (n := 6) rfl (d := .str (signL rs (sgT rs.length) i)) (ev_is (ev_fs (zs := [oneS (sgC (sgT rs.length) i), " ", rs.getD i Str.empty]) (.cons (ev_fmtS (ev_var rfl) (by rw [sizeLine_eq]; show 1 ≤ _; decide)) (.cons ev_str (.cons (ev_fmtS (ev_var rfl) (by rw [sizeLine_eq]; omega)) .nil))) ?_) ?_) ?_ ?_
      · rw [sizeLine_eq]
        show 1 + (1 + ((rs.getD i Str.empty).length + 0)) ≤ _
        omega
      · show PyData.str (Str.empty ++ _ ++ _ ++ _) = _
        rw [emp_app]
        rfl
      · rw [List.length_map]
        unfold upT
        simp
        omega
      · refine ⟨.fr (.str (oneS (sgC (sgT rs.length) i))), .fr (.str (rs.getD i Str.empty)), ?_⟩
        unfold upT
        rw [List.range_succ, List.map_append (f := signL _ _), ← List.append_assoc, List.map_append (f := PyData.str) (l₂ := [i].map _)]
        rfl
    · rintro ρ ⟨s8, s9, rfl⟩
      rw [List.length_map]
      refine q_frz (i := 6) rfl ?_
      have hf := join_fit (a := "\n") (l := picT rs h bs (sgT rs.length)) (m := 6400) (n := 201) (pic_line hb h8) (by rw [pic_len]; omega) (by decide) (by decide)
      exact st_ret (ev_joinL (ys := picT rs h bs (sgT rs.length)) ev_str (ev_var rfl) hf) (by rfl)
  · rintro ds C fl ⟨rs, w', h, bs, rfl, hwh, rfl, rfl⟩
    show ST K E (t_picture_of K E) [.fr (plD rs w' h bs), .no, .no, .no, .no, .no, .no, .no, .no, .no] _
    unfold t_picture_of
    refine q_asgG (ev_var rfl) (gt_tup rfl (gts_cons gt_name (gts_cons gt_name (gts_cons gt_name (gts_cons gt_name gts_nil))))) ?_
    show ST K E _ [.fr (plD rs w' h bs), .fr (.tuple (rs.map PyData.str)), .fr (.int w'), .fr (.int h), .fr (.tuple (bs.map bxD)), .no, .no, .no, .no, .no] _
    refine q_yes (et_is (et_or (et_test (ev_op (ev_var (d := .int w') rfl) ev_int od_cmpI)) fun _ => et_test (ev_op (ev_var (d := .int h) rfl) ev_int od_cmpI)) (by simp; omega)) ?_
    exact st_raiseO (by walk_at "ea") (by rfl) (by show 1 ≤ 1000; decide) (by rfl)
theorem rev_map {α : Type} (f : Nat → α) (n : Nat) : ((List.range n).map f).reverse = (List.range n).map fun i => f (n - 1 - i) := by
  refine List.ext_getElem (by simp) fun i h1 h2 => ?_
  rw [List.getElem_reverse]
  simp
def key3 (bs : List Bx) (sg : Str) (k : Nat) : List Key := [.inl (bA bs k).w, .inl (bA bs k).e, .inr (oneS (sgC sg k))]
theorem ok_u_law_picture (T : Txt K mg) (hd : FnP K "_law_picture" s_u_law_picture) (hm : mg "_law_picture" = some (.ref (He.ga K "_law_picture")))  : Okd P w K mg base CX0 1 "_law_picture" ["plan", "signs"] (sp_u_law_picture K) := by
  obtain ⟨fd, F⟩ := hd
  refine ⟨hm, fd, fn_pf F sc_u_law_picture ?_ (fun cdv A outer s H E hr => ⟨_, dv_u_law_picture T  cdv A outer s H E hr, ?_⟩), F.bindsN (fun _ _ _ _ _ _ us hl => match us, hl with | [_, _], _ => rfl), F.kp⟩
  · rintro ds d ⟨x0, x1, x2, x3, x4, rfl, _⟩
    rfl
  · rintro ds d ⟨rs, w', h, bs, sg, rfl, hb, hl, hs, h8, hh, rfl⟩
    refine ST.mono (P := fun o => o = .rt (.list ((picT rs h bs sg).map PyData.str))) ?_ fun o h => .inl h
    show ST K E0 (t_u_law_picture K) [.fr (plD rs w' h bs), .fr (.str sg), .no, .no, .no, .no, .no, .no, .no, .no, .no, .no, .no] _
    unfold t_u_law_picture
    have hm := hb.many
    have hsz : sg.length ≤ sizeLine := by
      rw [sizeLine_eq]
      show sg.cps.size ≤ _
      omega
    refine q_asgG (ev_var rfl) (gt_tup rfl (gts_cons gt_name (gts_cons gt_name (gts_cons gt_name (gts_cons gt_name gts_nil))))) ?_
    show ST K E0 _ [.fr (plD rs w' h bs), .fr (.str sg), .fr (.tuple (rs.map PyData.str)), .fr (.int w'), .fr (.int h), .fr (.tuple (bs.map bxD)), .no, .no, .no, .no, .no, .no, .no] _
    refine q_asgN (d := .list []) (en_lst ea_nil (by decide)) ?_
    refine q_for (ei_rng1 (ea_cons (ev_var (d := .int h) rfl) ea_nil) (by omega) (by omega)) (fun i ρ => ∃ s7 s8 : Sl, ρ = [.fr (plD rs w' h bs), .fr (.str sg), .fr (.tuple (rs.map PyData.str)), .fr (.int w'), .fr (.int h), .fr (.tuple (bs.map bxD)), .ow (.list ((List.range i).map fun y => .str (rowT bs sg (y : Nat)))), s7, s8, .no, .no, .no, .no]) ⟨_, _, rfl⟩ ?_ ?_
    · rintro i ρ hi ⟨s7, s8, rfl⟩
      refine ⟨_, _, gt_name, ?_⟩
      have hi : i < h := by omega
      have hs3 := row_srt hb (i : Nat) (f := key3 bs sg) fun k => ⟨_, rfl⟩
      have ibx : ∀ (ρ : List Sl) (k : Nat), ρ[5]? = some (.fr (.tuple (bs.map bxD))) → ρ[9]? = some (.fr (.int (k : Nat))) → k < bs.length → EV K (tOp (rIx K) (tVar 5) (tVar 9)) ρ (bxD (bA bs k)) := fun ρ k h5 h9 hk =>
        ev_op (ev_var h5) (ev_var h9) (od_ixT (atI_nat (by
          rw [List.getElem?_map]
          unfold bA
          rw [List.getD_eq_getElem?_getD, List.getElem?_eq_getElem hk]
          rfl)))
      refine q_asg (d := .list ((rowI bs (i : Nat)).map fun k => ktD (key3 bs sg k))) (ev_N (en_is (en_cb (ds := [.list (((hitsN bs (i : Nat) bs.length).map (key3 bs sg)).map ktD)]) (ea_cons (ev_N (en_is (en_lc (n := rs.length) (b := fun k => hitB (i : Nat) (bA bs k)) (f := fun k => ktD (key3 bs sg k)) (ei_mono (ei_rng1 (ea_cons (ev_is (d := .int (((rs.map PyData.str).length : Nat) : Int)) (ev_cb (ea_cons (ev_var rfl) ea_nil) cd_lenT) (by rw [List.length_map])) ea_nil) (by omega) (by omega)) fun k hk => rfl) (by omega) fun k hk => ?_) ?_)) ea_nil) (cn_sortKT (b := true) (sh := [true, false]) ?_)) ?_)) ?_
      · have hk : k < bs.length := by
          have : ((rs.length : Nat) : Int).toNat = rs.length := Int.toNat_natCast _
          omega
        refine ⟨_, _, gt_name, by simp, ?_, fun _ => ?_⟩
        · refine et_test (ev_chain (ev_bx (ibx _ k rfl rfl hk)).2.1 (ev_var (d := .int (i : Nat)) rfl) od_cmpI (fun _ => (ev_bx (ibx _ k rfl rfl hk)).2.2.2) fun _ => od_cmpI)
        · exact ev_tup (ds := [.int (bA bs k).w, .int (bA bs k).e, .str (oneS (sgC sg k))]) (ea_cons (ev_bx (ibx _ k rfl rfl hk)).1 (ea_cons (ev_bx (ibx _ k rfl rfl hk)).2.2.1 (ea_cons (ev_op (ev_var rfl) (ev_var (d := .int (k : Nat)) rfl) (od_ixS hsz (atI_nat (ix_sg (by omega))))) ea_nil))) (by show 3 ≤ sizeLine; rw [sizeLine_eq]; decide)
      · rw [lc_rngF, hl, List.map_map]
        rfl
      · intro q hq
        obtain ⟨k, _, rfl⟩ := List.mem_map.mp hq
        rfl
      · rw [hs3, List.map_map]
        rfl
      show ST K E0 _ [.fr (plD rs w' h bs), .fr (.str sg), .fr (.tuple (rs.map PyData.str)), .fr (.int w'), .fr (.int h), .fr (.tuple (bs.map bxD)), .ow (.list ((List.range i).map fun y => .str (rowT bs sg (y : Nat)))), .fr (.int (i : Nat)), .fr (.list ((rowI bs (i : Nat)).map fun k => ktD (key3 bs sg k))), .no, .no, .no, .no] _
      have hrl := rowI_len bs (i : Nat)
      refine st_append (n := 6) rfl (d := .str (rowT bs sg (i : Nat))) (ev_joinL (ys := (rowI bs (i : Nat)).map (pieceT bs sg)) ev_str (ev_N (en_is (en_lc (n := (rowI bs (i : Nat)).length) (b := fun _ => true) (f := fun j => .str (pieceT bs sg ((rowI bs (i : Nat)).getD j 0))) (ei_map (h := fun k => ktD (key3 bs sg k)) 0 (zs := rowI bs (i : Nat)) (ev_var rfl)) (by omega) fun j hj => ⟨_, _, gt_tup rfl (gts_cons gt_name (gts_cons gt_name (gts_cons gt_name gts_nil))), by simp, et_yes, fun _ => ?_⟩) ?_)) (row_fit hb sg _)) ?_ ⟨.fr (.int (i : Nat)), .fr (.list ((rowI bs (i : Nat)).map fun k => ktD (key3 bs sg k))), ?_⟩
      · have hm2 := rowI_mem.mp (DL.getD_mem (zs := rowI bs (i : Nat)) (z := 0) hj)
        have hw := wide_le hb hm2.1
        exact ev_rep (ev_var (d := .str (oneS (sgC sg ((rowI bs (i : Nat)).getD j 0)))) rfl) (ev_op (ev_var (d := .int (bA bs ((rowI bs (i : Nat)).getD j 0)).e) rfl) (ev_var (d := .int (bA bs ((rowI bs (i : Nat)).getD j 0)).w) rfl) od_sub) (by omega) (by omega)
      · rw [lc_map (h := fun k => PyData.str (pieceT bs sg k)) 0 (rowI bs (i : Nat)), List.map_map]
        rfl
      · rw [List.length_map, List.length_range]
        omega
      · rw [List.range_succ, List.map_append]
        rfl
    · rintro ρ ⟨s7, s8, rfl⟩
      rw [Int.toNat_natCast]
      refine q_frz (i := 6) rfl ?_
      refine q_asg (d := .list ((upT rs h bs sg 0).map PyData.str)) (ev_N (en_is (en_op (d1 := .list ((List.range h).map fun y => PyData.str (rowT bs sg (y : Nat))).reverse) (ev_N (en_revL (ev_var rfl))) (ev_N (en_lst (ds := [.str "--"]) (ea_cons ev_str ea_nil) (by decide))) (on_addL (by simp; rw [sizeLine_eq]; omega))) ?_)) ?_
      · rw [rev_map]
        unfold upT
        show PyData.list _ = PyData.list _
        congr 1
        rw [List.range_zero, List.map_nil, List.append_nil, List.map_append, List.map_map]
        congr 1
        refine List.map_congr_left fun i hi => ?_
        have hi := List.mem_range.mp hi
        show PyData.str _ = PyData.str _
        congr 2
        omega
      refine st_ret (ev_N (en_is (d := .list ((upT rs h bs sg 0).map PyData.str ++ (List.range rs.length).map fun k => PyData.str (signL rs sg k))) (en_op (ev_var rfl) (ev_N (en_is (en_lc (n := rs.length) (b := fun _ => true) (f := fun k => .str (signL rs sg k)) (ei_mono (ei_rng1 (ea_cons (ev_is (d := .int (((rs.map PyData.str).length : Nat) : Int)) (ev_cb (ea_cons (ev_var rfl) ea_nil) cd_lenT) (by rw [List.length_map])) ea_nil) (by omega) (by omega)) fun k hk => rfl) (by omega) fun k hk => ⟨_, _, gt_name, by simp, et_yes, fun _ => ?_⟩) (congrArg PyData.list (lc_rng _ _)))) (on_addL ?_)) ?_)) (by rfl)
      · have hk : k < rs.length := by
          have : ((rs.length : Nat) : Int).toNat = rs.length := Int.toNat_natCast _
          omega
        have hz := h8 _ (DL.getD_mem (z := Str.empty) hk)
        exact ev_op (ev_op (ev_op (ev_var rfl) (ev_var (d := .int (k : Nat)) rfl) (od_ixS hsz (atI_nat (ix_sg (by omega))))) ev_str (od_addS (by rw [sizeLine_eq]; show 1 + 1 ≤ _; decide))) (ev_op (d2 := .int (k : Nat)) (ev_var rfl) (ev_var rfl) (od_ixT (atI_strs (by omega) (by omega)))) (od_addS (by rw [sizeLine_eq, Int.toNat_natCast, len_app]; show 1 + 1 + (rs.getD k Str.empty).length ≤ _; omega))
      · unfold upT
        simp
        rw [sizeLine_eq]
        omega
      · unfold upT picT
        rw [List.range_zero, List.map_nil, List.append_nil, List.map_append (l₂ := (List.range rs.length).map _), List.map_map (l := List.range rs.length)]
        rfl
/-! the sign's lines -/
theorem one_of {z : Str} (h : z.length = 1) : z = oneS (z.cps.getD 0 0) := by
  obtain ⟨⟨l⟩⟩ := z
  match l, h with
  | [c], _ => rfl
theorem ev_inLS {ρ : List Sl} {a b : TE} {w : Str} {rs : List Str} (h1 : EV K a ρ (.str w)) (h2 : EV K b ρ (dkD (bS rs))) : EV K (tDIn a b) ρ (.bool (decide (w ∈ rs))) := ev_is (ev_inDS h1 h2) (congrArg PyData.bool has_bS)
theorem ev_ninLS {ρ : List Sl} {a b : TE} {w : Str} {rs : List Str} (h1 : EV K a ρ (.str w)) (h2 : EV K b ρ (dkD (bS rs))) : EV K (tDNotIn a b) ρ (.bool (!decide (w ∈ rs))) := ev_is (ev_ninDS h1 h2) (congrArg PyData.bool (by rw [has_bS]))
theorem signF_two (a b : Str) (sg : List Str) (er : Str) : signF [a, b] sg er = if ¬ (a.length = 1 ∧ a.cps.getD 0 0 ∈ SG.cps.toList) then (some "sign" : Option Str) else if nameB b = false then (some "name" : Option Str) else if a ∈ sg then (some "twice" : Option Str) else if ltS er b = true then none else (some "order" : Option Str) := rfl
theorem signF_ne {ws : List Str} (h : ws.length ≠ 2) (sg : List Str) (er : Str) : signF ws sg er = (some "words" : Option Str) := if_pos h
theorem two_of {ws : List Str} (h : ws.length = 2) : ∃ a b, ws = [a, b] := by
  match ws, h with
  | [a, b], _ => exact ⟨a, b, rfl⟩
theorem ok_sign_words_fault (T : Txt K mg) (hd : FnP K "sign_words_fault" s_sign_words_fault) (hm : mg "sign_words_fault" = some (.ref (He.ga K "sign_words_fault"))) (O_is_name : Okd P w K mg base CX0 2 "is_name" ["thing"] (sp_is_name K)) : Okd P w K mg base CX0 3 "sign_words_fault" ["words", "known", "earlier"] (sp_sign_words_fault K) := by
  obtain ⟨fd, F⟩ := hd
  refine ⟨hm, fd, fn_pf F sc_sign_words_fault ?_ (fun cdv A outer s H E hr => ⟨_, dv_sign_words_fault T O_is_name cdv A outer s H E hr, ?_⟩), F.bindsN (fun _ _ _ _ _ _ us hl => match us, hl with | [_, _, _], _ => rfl), F.kp⟩
  · rintro ds d ⟨x0, x1, x2, rfl, _⟩
    rfl
  · rintro ds d ⟨ws, sg, er, rfl, hw, rfl⟩
    refine ST.mono (P := fun o => o = .rt (optS (signF ws sg er))) ?_ fun o h => .inl h
    show ST K E0 (t_sign_words_fault K) [.fr (.list (ws.map PyData.str)), .fr (dkD (bS sg)), .fr (.str er), .no, .no] _
    unfold t_sign_words_fault sp_is_name
    refine q_when (b := decide (ws.length ≠ 2)) (et_is (et_test (ev_op (ev_cb (ea_cons (ev_var (d := .list (ws.map PyData.str)) rfl) ea_nil) cd_lenL) ev_int od_neI)) (by rw [List.length_map]; by_cases h : ws.length = 2 <;> simp [h]; omega)) (fun h => st_ret ev_str ?_) fun h => ?_
    · rw [signF_ne (of_decide_eq_true h)]
      rfl
    have h2 : ws.length = 2 := by simpa using h
    obtain ⟨a, b, rfl⟩ := two_of h2
    clear h h2
    have hb : b.length ≤ 4000 := hw b (by simp)
    have ha : a.length ≤ 4000 := hw a (by simp)
    rw [signF_two]
    refine q_asgG (d := .list [.str a, .str b]) (ev_var rfl) (gt_unl rfl (gts_cons gt_name (gts_cons gt_name gts_nil))) ?_
    show ST K E0 _ [.fr (.list ([a, b].map PyData.str)), .fr (dkD (bS sg)), .fr (.str er), .fr (.str a), .fr (.str b)] _
    by_cases h1 : a.length = 1
    · obtain ⟨c, rfl⟩ : ∃ c, a = oneS c := ⟨_, one_of h1⟩
      refine q_when (b := !decide (c ∈ SG.cps.toList)) (et_is (et_or (et_is (b := false) (et_test (ev_op (ev_cb (ea_cons (ev_var (d := .str (oneS c)) rfl) ea_nil) (cd_lenS (by rw [sizeLine_eq]; show 1 ≤ _; decide))) ev_int od_neI)) (by rfl)) (fun _ => et_test (ev_op (d1 := .str (oneS c)) (d := .bool (!decide (c ∈ SG.cps.toList))) (ev_var rfl) ev_str (od_ninC (c := c) (z := SG))))) (Bool.false_or _)) (fun h => st_ret ev_str ?_) fun h => ?_
      · rw [if_pos (fun k => by
          have : c ∈ SG.cps.toList := k.2
          rw [decide_eq_true this] at h
          cases h)]
        rfl
      have hc : c ∈ SG.cps.toList := by simpa using h
      rw [if_neg (fun k => k ⟨h1, hc⟩)]
      refine q_when (b := !nameB b) (et_not (et_trB (ev_call (ea_cons (ev_var rfl) ea_nil) ⟨b, rfl, by omega, rfl⟩))) (fun h => st_ret ev_str ?_) fun h => ?_
      · rw [if_pos (by simpa using h)]
        rfl
      rw [if_neg (by simpa using h)]
      refine q_when (b := decide (oneS c ∈ sg)) (et_B (ev_inLS (ev_var rfl) (ev_var rfl))) (fun h => st_ret ev_str ?_) fun h => ?_
      · rw [if_pos (of_decide_eq_true h)]
        rfl
      rw [if_neg (of_decide_eq_false h)]
      refine st_ret (ev_ite (b := !ltS er b) (d1 := .str "order") (d2 := .none) (et_test (ev_op (ev_var (d := .str b) rfl) (ev_var (d := .str er) rfl) od_cmpS)) (fun _ => ev_str) (fun _ => ev_non)) ?_
      cases ltS er b <;> rfl
    · refine q_yes (et_or1 (et_is (et_test (ev_op (ev_cb (ea_cons (ev_var (d := .str a) rfl) ea_nil) (cd_lenS (by rw [sizeLine_eq]; omega))) ev_int od_neI)) (by simp; omega))) (st_ret ev_str ?_)
      rw [if_pos (fun k => h1 k.1)]
      rfl
theorem signF_none {ws sg : List Str} {er : Str} (h : signF ws sg er = none) : ∃ a b, ws = [a, b] ∧ a = oneS (codeW ws) ∧ codeW ws ∈ SG.cps.toList ∧ nameB b = true ∧ a ∉ sg ∧ ltS er b = true := by
  by_cases h2 : ws.length = 2
  · obtain ⟨a, b, rfl⟩ := two_of h2
    rw [signF_two] at h
    split at h
    · cases h
    rename_i h3
    split at h
    · cases h
    rename_i h4
    split at h
    · cases h
    rename_i h5
    split at h
    · rename_i h6
      have h3 : a.length = 1 ∧ a.cps.getD 0 0 ∈ SG.cps.toList := by
        by_cases k : a.length = 1 ∧ a.cps.getD 0 0 ∈ SG.cps.toList
        · exact k
        · exact absurd k h3
      exact ⟨a, b, rfl, one_of h3.1, h3.2, by simpa using h4, h5, h6⟩
    · cases h
  · rw [signF_ne h2] at h
    cases h
/-- what stands after the first i lines without a fault -/
def stepN (wss : List (List Str)) (i : Nat) : List Str × Str := (firstsW (wss.take i), if i = 0 then Str.empty else (wss.getD (i - 1) []).getD 1 Str.empty)
theorem told_shift : ∀ (wss : List (List Str)) (k : Nat) (sg : List Str) (er : Str) (i : Nat), i ≤ wss.length → (∀ j, j < i → signF (wss.getD j []) (sg ++ firstsW (wss.take j)) (if j = 0 then er else (wss.getD (j - 1) []).getD 1 Str.empty) = none) →
    toldF k wss sg er = toldF (k + i) (wss.drop i) (sg ++ firstsW (wss.take i)) (if i = 0 then er else (wss.getD (i - 1) []).getD 1 Str.empty)
  | wss, k, sg, er, 0, _, _ => by
    show toldF k wss sg er = toldF k wss (sg ++ []) er
    rw [List.append_nil]
  | [], k, sg, er, i + 1, h, _ => absurd h (by simp)
  | ws :: r, k, sg, er, i + 1, h, hn => by
    have h0 := hn 0 (by omega)
    simp only [List.take_zero, firstsW, List.map_nil, List.append_nil, if_true] at h0
    rw [List.length_cons] at h
    have e : toldF k (ws :: r) sg er = toldF (k + 1) r (sg ++ [ws.getD 0 Str.empty]) (ws.getD 1 Str.empty) := by
      show (match signF ws sg er with
        | some f => some (k, f)
        | none => toldF (k + 1) r (sg ++ [ws.getD 0 Str.empty]) (ws.getD 1 Str.empty)) = _
      rw [show signF ws sg er = none from h0]
    rw [e, told_shift r (k + 1) _ _ i (by omega) fun j hj => ?_]
    · rw [List.append_assoc, if_neg (Nat.succ_ne_zero i)]
      show toldF _ _ (sg ++ ([ws.getD 0 Str.empty] ++ firstsW (r.take i))) _ = toldF _ _ (sg ++ firstsW (ws :: r.take i)) (((ws :: r).getD i []).getD 1 Str.empty)
      rw [show k + 1 + i = k + (i + 1) by omega]
      congr 1
      cases i with
      | zero => rfl
      | succ i => rfl
    · have := hn (j + 1) (by omega)
      rw [if_neg (Nat.succ_ne_zero j)] at this
      rw [List.append_assoc]
      cases j with
      | zero => exact this
      | succ j => exact this
theorem drop_cons' {α : Type} {l : List α} {i : Nat} (z : α) (h : i < l.length) : l.drop i = l.getD i z :: l.drop (i + 1) := by
  rw [List.drop_eq_getElem_cons h, List.getD_eq_getElem?_getD, List.getElem?_eq_getElem h]
  rfl
theorem told_some {wss : List (List Str)} {i : Nat} {f : Str} (hi : i < wss.length) (hn : ∀ j, j < i → signF (wss.getD j []) (stepN wss j).1 (stepN wss j).2 = none) (hf : signF (wss.getD i []) (stepN wss i).1 (stepN wss i).2 = some f) : toldF 0 wss [] Str.empty = some (i, f) := by
  rw [told_shift wss 0 [] Str.empty i (by omega) fun j hj => hn j hj, drop_cons' [] hi]
  show (match signF (wss.getD i []) (firstsW (wss.take i)) (stepN wss i).2 with
    | some f => some (0 + i, f)
    | none => _) = _
  rw [show signF (wss.getD i []) (firstsW (wss.take i)) (stepN wss i).2 = some f from hf, Nat.zero_add]
theorem told_none {wss : List (List Str)} (hn : ∀ j, j < wss.length → signF (wss.getD j []) (stepN wss j).1 (stepN wss j).2 = none) : toldF 0 wss [] Str.empty = none := by
  rw [told_shift wss 0 [] Str.empty wss.length (Nat.le_refl _) fun j hj => hn j hj, List.drop_length]
  rfl
theorem words_len {z : Str} : ∀ w ∈ wordsT z, w.length ≤ z.length := fun w hw => by
  unfold wordsT at hw
  exact (pieces_mem (List.mem_filter.mp hw).1).2.2
theorem firstsW_succ {wss : List (List Str)} {i : Nat} (h : i < wss.length) : firstsW (wss.take (i + 1)) = firstsW (wss.take i) ++ [(wss.getD i []).getD 0 Str.empty] := by
  unfold firstsW
  rw [take_one h [], List.map_append]
  rfl
theorem getD_map {α β : Type} {f : α → β} {l : List α} {i : Nat} (h : i < l.length) (z : α) (y : β) : (l.map f).getD i y = f (l.getD i z) := by
  rw [List.getD_eq_getElem?_getD, List.getElem?_map, List.getD_eq_getElem?_getD, List.getElem?_eq_getElem h]
  rfl
theorem ok_sign_lines_fault (T : Txt K mg) (hd : FnP K "sign_lines_fault" s_sign_lines_fault) (hm : mg "sign_lines_fault" = some (.ref (He.ga K "sign_lines_fault"))) (O_words_of : Okd P w K mg base CX0 1 "words_of" ["line"] (sp_words_of K)) (O_sign_words_fault : Okd P w K mg base CX0 3 "sign_words_fault" ["words", "known", "earlier"] (sp_sign_words_fault K)) : Okd P w K mg base CX0 4 "sign_lines_fault" ["lines"] (sp_sign_lines_fault K) := by
  obtain ⟨fd, F⟩ := hd
  refine ⟨hm, fd, fn_pf F sc_sign_lines_fault ?_ (fun cdv A outer s H E hr => ⟨_, dv_sign_lines_fault T O_words_of O_sign_words_fault cdv A outer s H E hr, ?_⟩), F.bindsN (fun _ _ _ _ _ _ us hl => match us, hl with | [_], _ => rfl), F.kp⟩
  · rintro ds d ⟨x0, rfl, _⟩
    rfl
  · rintro ds d ⟨ls, rfl, hn, hl, rfl⟩
    refine ST.mono (P := fun o => o = .rt (fltD (linesF ls))) ?_ fun o h => .inl h
    show ST K E0 (t_sign_lines_fault K) [.fr (.list (ls.map PyData.str)), .no, .no, .no, .no, .no, .no] _
    unfold t_sign_lines_fault sp_words_of sp_sign_words_fault
    refine q_when (b := decide (ls = [])) (et_is (et_test (ev_op (ev_cb (ea_cons (ev_var (d := .list (ls.map PyData.str)) rfl) ea_nil) cd_lenL) ev_int od_eqI)) (by rw [List.length_map]; cases ls <;> simp; omega)) (fun h => st_ret (ev_tup (ea_cons ev_int (ea_cons ev_str ea_nil)) s2) ?_) fun h => ?_
    · unfold linesF
      rw [if_pos (of_decide_eq_true h)]
      rfl
    have hne := of_decide_eq_false h
    have e0 : linesF ls = toldF 0 (ls.map wordsT) [] Str.empty := if_neg hne
    rw [e0]
    refine q_asgN (d := dkD (bS [])) en_dnewK ?_
    refine q_asg (d := .str Str.empty) ev_str ?_
    refine q_for (ei_mono (ei_enumL (ds := ls.map PyData.str) (ea_cons (ev_var rfl) ea_nil)) fun i hi => rfl) (fun i ρ => (∀ j, j < i → signF ((ls.map wordsT).getD j []) (stepN (ls.map wordsT) j).1 (stepN (ls.map wordsT) j).2 = none) ∧ (stepN (ls.map wordsT) i).1.Nodup ∧ ∃ s3 s4 s5 s6 : Sl, ρ = [.fr (.list (ls.map PyData.str)), .ow (dkD (bS (stepN (ls.map wordsT) i).1)), .fr (.str (stepN (ls.map wordsT) i).2), s3, s4, s5, s6]) ⟨fun j hj => absurd hj (Nat.not_lt_zero _), List.nodup_nil, _, _, _, _, rfl⟩ ?_ ?_
    · rintro i ρ hi ⟨hb, nd, s3, s4, s5, s6, rfl⟩
      rw [List.length_map] at hi
      have hi' : i < (ls.map wordsT).length := by rw [List.length_map]; exact hi
      rw [getD_strs hi]
      refine ⟨_, _, gt_tup rfl (gts_cons gt_name (gts_cons gt_name gts_nil)), ?_⟩
      have hz := hl _ (DL.getD_mem (z := Str.empty) hi)
      have ew : (ls.map wordsT).getD i [] = wordsT (ls.getD i Str.empty) := getD_map hi _ _
      refine q_asg (ev_call (ea_cons (ev_var rfl) ea_nil) ⟨_, rfl, by omega, rfl⟩) ?_
      refine q_asg (d := optS (signF (wordsT (ls.getD i Str.empty)) (stepN (ls.map wordsT) i).1 (stepN (ls.map wordsT) i).2)) (ev_lend (n := 1) (e := dkD (bS (stepN (ls.map wordsT) i).1)) rfl (ev_call (ea_cons (ev_var (by rfl)) (ea_cons (ev_var (by rfl)) (ea_cons (ev_var (by rfl)) ea_nil))) ⟨_, _, _, rfl, fun w hw => by have := words_len w hw; omega, rfl⟩) (by cases signF (wordsT (ls.getD i Str.empty)) (stepN (ls.map wordsT) i).1 (stepN (ls.map wordsT) i).2 <;> rfl)) ?_
      show ST K E0 _ [.fr (.list (ls.map PyData.str)), .ow (dkD (bS (stepN (ls.map wordsT) i).1)), .fr (.str (stepN (ls.map wordsT) i).2), .fr (.int (i : Nat)), .fr (.str (ls.getD i Str.empty)), .fr (.list ((wordsT (ls.getD i Str.empty)).map PyData.str)), .fr (optS (signF (wordsT (ls.getD i Str.empty)) (stepN (ls.map wordsT) i).1 (stepN (ls.map wordsT) i).2))] _
      cases hf : signF (wordsT (ls.getD i Str.empty)) (stepN (ls.map wordsT) i).1 (stepN (ls.map wordsT) i).2 with
      | some f =>
        refine q_yes (et_is (et_B (ev_notN (ev_var (d := .str f) rfl))) (by rfl)) (st_ret (ev_tup (ea_cons (ev_var (d := .int (i : Nat)) rfl) (ea_cons (ev_var (d := .str f) rfl) ea_nil)) s2) ?_)
        rw [told_some hi' hb (by rw [ew]; exact hf)]
        rfl
      | none =>
        refine q_no (et_is (et_B (ev_notN (ev_var (d := .none) rfl))) (by rfl)) ?_
        obtain ⟨a, b, e, ea, hc, nb, na, lt⟩ := signF_none hf
        rw [e]
        show ST K E0 _ [.fr (.list (ls.map PyData.str)), .ow (dkD (bS (stepN (ls.map wordsT) i).1)), .fr (.str (stepN (ls.map wordsT) i).2), .fr (.int (i : Nat)), .fr (.str (ls.getD i Str.empty)), .fr (.list [.str a, .str b]), .fr .none] _
        have ln : (bS (stepN (ls.map wordsT) i).1).length < 16000000 := by
          rw [bS_len]
          unfold stepN firstsW
          rw [List.length_map, List.length_take]
          omega
        refine st_seq (st_dputK (n := 1) (k := .inr a) rfl (ev_op (d1 := .list [.str a, .str b]) (ev_var rfl) ev_int (od_ixL (by rfl))) rfl ev_bl ln ?_)
        refine st_asg (ev_op (d1 := .list [.str a, .str b]) (d := .str b) (ev_var (by rfl)) ev_int (od_ixL (by rfl))) ?_
        have e1 : (stepN (ls.map wordsT) (i + 1)).1 = (stepN (ls.map wordsT) i).1 ++ [a] := by
          show firstsW _ = firstsW _ ++ [a]
          rw [firstsW_succ hi', ew, e]
          rfl
        have e2 : (stepN (ls.map wordsT) (i + 1)).2 = b := by
          show (if i + 1 = 0 then Str.empty else ((ls.map wordsT).getD i []).getD 1 Str.empty) = b
          rw [if_neg (Nat.succ_ne_zero i), ew, e]
          rfl
        refine ⟨fun j hj => ?_, ?_, .fr (.int (i : Nat)), .fr (.str (ls.getD i Str.empty)), .fr (.list [.str a, .str b]), .fr .none, ?_⟩
        · by_cases ej : j = i
          · rw [ej, ew]
            exact hf
          · exact hb j (by omega)
        · rw [e1]
          exact List.nodup_append.mpr ⟨nd, List.nodup_cons.mpr ⟨by simp, List.nodup_nil⟩, fun x hx y hy exy => na (by
            rw [List.mem_singleton.mp hy] at exy
            exact exy ▸ hx)⟩
        · rw [e1, e2, put_bS na]
          rfl
    · rintro ρ ⟨hb, nd, s3, s4, s5, s6, rfl⟩
      rw [told_none fun j hj => hb j (by rw [List.length_map] at hj ⊢; exact hj)]
      exact st_ret ev_non (by rfl)
theorem find_one {z : Str} {c : Nat} (h : c ∈ z.cps.toList) : Txt.find z (oneS c) = (fstC z c : Nat) := by
  obtain ⟨j, hj, ej⟩ := List.mem_iff_getElem.mp h
  rcases find_whole z (oneS c) with ⟨_, hn⟩ | ⟨i, e, ha, hk⟩
  · exact absurd (at_one.mpr (by rw [List.getElem?_eq_getElem hj, ej])) (hn j)
  · rw [e]
    have hi := at_one.mp ha
    obtain ⟨hil, hie⟩ := List.getElem?_eq_some_iff.mp hi
    have : fstC z c = i := by
      unfold fstC
      rw [List.findIdx_eq hil]
      refine ⟨decide_eq_true hie, fun k hki => ?_⟩
      refine decide_eq_false fun ek => hk k hki (at_one.mpr ?_)
      rw [List.getElem?_eq_getElem (by omega), ek]
    rw [this]
theorem fst_lt {z : Str} {c : Nat} (h : c ∈ z.cps.toList) : fstC z c < z.cps.toList.length := List.findIdx_lt_length_of_exists ⟨c, h, decide_eq_true rfl⟩
theorem cutM_list (z : Str) (b m : Nat) (hb : b ≤ z.cps.toList.length) : (cutS z (some (b : Int)) (some ((b : Int) + (m : Int)))).cps.toList = (z.cps.toList.drop b).take m := by
  unfold cutS
  rw [show (b : Int) + (m : Int) = ((b + m : Nat) : Int) from by omega]
  show List.take (HT.sIx z.cps.size z.cps.size (some ((b + m : Nat) : Int)) - HT.sIx z.cps.size 0 (some ((b : Nat) : Int))) (z.cps.toList.drop (HT.sIx z.cps.size 0 (some ((b : Nat) : Int)))) = _
  rw [HT.sIx_nat, HT.sIx_nat]
  rw [Array.length_toList] at hb
  rw [Nat.min_eq_left hb]
  by_cases h : b + m ≤ z.cps.size
  · rw [Nat.min_eq_left h, Nat.add_sub_cancel_left]
  · rw [Nat.min_eq_right (by omega), List.take_of_length_le (by rw [List.length_drop, Array.length_toList]; exact Nat.le_refl _), List.take_of_length_le (by rw [List.length_drop, Array.length_toList]; omega)]
theorem cut_past {z : Str} {b : Nat} (h : z.cps.size ≤ b) (o : Option Int) : (cutS z (some (b : Int)) o).cps.toList = [] := by
  unfold cutS
  have e : HT.sIx z.cps.size 0 (some ((b : Nat) : Int)) = z.cps.size := by rw [HT.sIx_nat, Nat.min_eq_right h]
  show List.take _ (z.cps.toList.drop (HT.sIx z.cps.size 0 (some ((b : Nat) : Int)))) = []
  refine (congrArg (List.take _) ?_).trans (List.take_nil (i := _))
  rw [e, List.drop_of_length_le (by rw [Array.length_toList]; exact Nat.le_refl _)]
theorem rep_list (c m : Nat) : (repS (oneS c) (m : Int)).cps.toList = List.replicate m c := by
  have : ∀ m : Nat, ((List.replicate m [c]).flatten) = List.replicate m c := fun m => by
    induction m with
    | zero => rfl
    | succ m ih => rw [List.replicate_succ, List.flatten_cons, ih]; rfl
  exact this m
theorem atI_last {α : Type} {ds : List α} (z : α) (h : ds ≠ []) : atI ds (-1) = some (ds.getLastD z) := by
  cases ds with
  | nil => exact absurd rfl h
  | cons a l =>
    unfold atI ixN
    rw [if_neg (by omega), if_pos (by rw [List.length_cons]; omega)]
    show (a :: l)[(-1 + (((a :: l).length : Nat) : Int)).toNat]? = _
    have e : (-1 + (((a :: l).length : Nat) : Int)).toNat = (a :: l).length - 1 := by
      rw [List.length_cons]
      omega
    rw [e, ← List.getLast?_eq_getElem?]
    rw [List.getLastD_eq_getLast?]
    cases hq : (a :: l).getLast? with
    | none => simp at hq
    | some y => rfl
theorem occ_mem {rows : List Str} {c k : Nat} : k ∈ occ rows c ↔ k < rows.length ∧ c ∈ (rows.getD k Str.empty).cps.toList := by
  unfold occ
  rw [List.mem_filter, List.mem_range, decide_eq_true_iff]
theorem occ_len (rows : List Str) (c : Nat) : (occ rows c).length ≤ rows.length := by
  have := List.length_filter_le (fun k => decide (c ∈ (rows.getD k Str.empty).cps.toList)) (List.range rows.length)
  rw [List.length_range] at this
  exact this
def nD (k : Nat) : D := .int (k : Nat)
theorem at0 {r : Nat} {l : List Nat} : atI ((r :: l).map nD) 0 = some (.int (r : Nat)) := atI_nat (j := 0) (by rfl)
theorem last_int (r : Nat) (l : List Nat) : ((r :: l).map nD).getLastD PyData.none = nD ((r :: l).getLastD 0) := by
  rw [List.getLastD_eq_getLast?, List.getLastD_eq_getLast?, List.getLast?_map]
  cases h : (r :: l).getLast? with
  | none => simp at h
  | some x => rfl
theorem ev_row {ρ : List Sl} {te : TE} {n k : Nat} {rows : List Str} (h : ρ[n]? = some (.fr (.list (rows.map PyData.str)))) (hk : EV K te ρ (.int (k : Nat))) (hl : k < rows.length) : EV K (tOp (rIx K) (tVar n) te) ρ (.str (rows.getD k Str.empty)) :=
  ev_op (ev_var h) hk (od_ixL (by rw [atI_strs (by omega) (by omega), Int.toNat_natCast]))
theorem ok_sign_rows (T : Txt K mg) (hd : FnP K "sign_rows" s_sign_rows) (hm : mg "sign_rows" = some (.ref (He.ga K "sign_rows")))  : Okd P w K mg base CX0 1 "sign_rows" ["shown", "sign"] (sp_sign_rows K) := by
  obtain ⟨fd, F⟩ := hd
  refine ⟨hm, fd, fn_pf F sc_sign_rows ?_ (fun cdv A outer s H E hr => ⟨_, dv_sign_rows T  cdv A outer s H E hr, ?_⟩), F.bindsN (fun _ _ _ _ _ _ us hl => match us, hl with | [_, _], _ => rfl), F.kp⟩
  · rintro ds d ⟨x0, x1, rfl, _⟩
    rfl
  · rintro ds d ⟨rows, c, rfl, hn, rfl⟩
    refine ST.mono (P := fun o => o = .rt (.list ((occ rows c).map fun k => PyData.int (k : Nat)))) ?_ fun o h => .inl h
    show ST K E0 (t_sign_rows K) [.fr (.list (rows.map PyData.str)), .fr (.str (oneS c)), .no, .no] _
    unfold t_sign_rows
    refine st_ret (ev_N (en_is (en_lc (n := rows.length) (b := fun k => decide (c ∈ (rows.getD k Str.empty).cps.toList)) (f := fun k => .int (k : Nat)) (item := fun i => .tuple [.int (i : Nat), .str (rows.getD i Str.empty)]) ?_ (by omega) fun k hk => ⟨_, _, gt_tup rfl (gts_cons gt_name (gts_cons gt_name gts_nil)), by simp, et_test (ev_op (d1 := .str (oneS c)) (ev_var rfl) (ev_var rfl) od_inC), fun _ => ev_var rfl⟩) (congrArg PyData.list (lc_rngF _ _ _)))) (by rfl)
    have := ei_enumL (ds := rows.map PyData.str) (t := tCons (tVar 0) tNil) (ρ := [.fr (.list (rows.map PyData.str)), .fr (.str (oneS c)), .no, .no]) (K := K) (ea_cons (ev_var rfl) ea_nil)
    rw [List.length_map] at this
    exact ei_mono this fun i hi => by rw [getD_strs hi]
theorem boxF_nil {rows : List Str} {c : Nat} (h : occ rows c = []) : boxF rows c = (some "lacks" : Option Str) := by
  unfold boxF
  rw [h]
theorem boxF_cons {rows : List Str} {c r : Nat} {l : List Nat} (h : occ rows c = r :: l) : boxF rows c = if (decide ((r :: l).getLastD 0 - r + 1 = (r :: l).length) && (r :: l).all fun k => lineOk (rows.getD k Str.empty) c (fstC (rows.getD r Str.empty) c) (cntC (rows.getD r Str.empty) c)) = true then none else (some "box" : Option Str) := by
  unfold boxF
  rw [h]
theorem occ_up (rows : List Str) (c : Nat) : (occ rows c).Pairwise (· < ·) := (List.pairwise_lt_range).filter _
theorem last_ge : ∀ {r : Nat} {l : List Nat}, (r :: l).Pairwise (· < ·) → r ≤ (r :: l).getLastD 0 ∧ (r :: l).getLastD 0 ∈ r :: l
  | r, [], _ => ⟨Nat.le_refl _, List.mem_cons_self ..⟩
  | r, a :: l, h => by
    obtain ⟨h1, h2⟩ := List.pairwise_cons.mp h
    obtain ⟨h3, h4⟩ := last_ge h2
    have e : (r :: a :: l).getLastD 0 = (a :: l).getLastD 0 := by simp [List.getLastD]
    rw [e]
    have := h1 a (List.mem_cons_self ..)
    exact ⟨by omega, List.mem_cons_of_mem _ h4⟩
theorem ok_sign_fault (T : Txt K mg) (hd : FnP K "sign_fault" s_sign_fault) (hm : mg "sign_fault" = some (.ref (He.ga K "sign_fault"))) (O_sign_rows : Okd P w K mg base CX0 1 "sign_rows" ["shown", "sign"] (sp_sign_rows K)) : Okd P w K mg base CX0 2 "sign_fault" ["shown", "sign"] (sp_sign_fault K) := by
  obtain ⟨fd, F⟩ := hd
  refine ⟨hm, fd, fn_pf F sc_sign_fault ?_ (fun cdv A outer s H E hr => ⟨_, dv_sign_fault T O_sign_rows cdv A outer s H E hr, ?_⟩), F.bindsN (fun _ _ _ _ _ _ us hl => match us, hl with | [_, _], _ => rfl), F.kp⟩
  · rintro ds d ⟨x0, x1, rfl, _⟩
    rfl
  · rintro ds d ⟨rows, c, rfl, hn, hl, rfl⟩
    refine ST.mono (P := fun o => o = .rt (optS (boxF rows c))) ?_ fun o h => .inl h
    show ST K E0 (t_sign_fault K) [.fr (.list (rows.map PyData.str)), .fr (.str (oneS c)), .no, .no, .no, .no, .no, .no] _
    unfold t_sign_fault sp_sign_rows
    have hol := occ_len rows c
    refine q_asg (d := .list ((occ rows c).map nD)) (ev_call (ea_cons (ev_var rfl) (ea_cons (ev_var rfl) ea_nil)) ⟨rows, c, rfl, hn, rfl⟩) ?_
    cases ho : occ rows c with
    | nil =>
      rw [boxF_nil ho]
      refine q_yes (et_is (et_test (ev_op (ev_cb (ea_cons (ev_var (d := .list []) rfl) ea_nil) cd_lenL) ev_int od_eqI)) (by rfl)) (st_ret ev_str (by rfl))
    | cons r l =>
      have hr := occ_mem.mp (show r ∈ occ rows c by rw [ho]; exact List.mem_cons_self ..)
      have hz := hl _ (DL.getD_mem (z := Str.empty) hr.1)
      have hb := fst_lt hr.2
      have up := occ_up rows c
      rw [ho] at up hol
      obtain ⟨lg, lm⟩ := last_ge up
      rw [boxF_cons ho]
      refine q_no (et_is (et_test (ev_op (ev_cb (ea_cons (ev_var (d := .list ((r :: l).map nD)) rfl) ea_nil) cd_lenL) ev_int od_eqI)) (decide_eq_false (by rw [List.length_map, List.length_cons]; omega))) ?_
      refine q_asg (d := .str (rows.getD r Str.empty)) (ev_row (k := r) rfl (ev_op (d1 := .list ((r :: l).map nD)) (ev_var rfl) ev_int (od_ixL at0)) hr.1) ?_
      refine q_asg (d := .int (fstC (rows.getD r Str.empty) c : Nat)) (ev_is (ev_find (a := rows.getD r Str.empty) (b := oneS c) (ev_var rfl) (ev_var rfl)) (by rw [find_one hr.2])) ?_
      refine q_asg (d := .int (cntC (rows.getD r Str.empty) c : Nat)) (ev_is (ev_count (a := rows.getD r Str.empty) (b := oneS c) (ev_var rfl) (ev_var rfl)) (by rw [count_one]; rfl)) ?_
      have hcl : cntC (rows.getD r Str.empty) c ≤ 4000 := by
        have := List.count_le_length (a := c) (l := (rows.getD r Str.empty).cps.toList)
        rw [← DL.len_list] at this
        exact Nat.le_trans this hz
      rw [DL.len_list] at hz
      generalize hbe : fstC (rows.getD r Str.empty) c = b at *
      generalize hme : cntC (rows.getD r Str.empty) c = m at *
      show ST K E0 _ [.fr (.list (rows.map PyData.str)), .fr (.str (oneS c)), .fr (.list ((r :: l).map nD)), .fr (.str (rows.getD r Str.empty)), .fr (.int (b : Nat)), .fr (.int (m : Nat)), .no, .no] _
      refine q_when (b := !decide ((r :: l).getLastD 0 - r + 1 = (r :: l).length)) (et_is (et_test (ev_op (ev_op (ev_op (d2 := .int (r : Nat)) (ev_op (d1 := .list ((r :: l).map nD)) (d := nD ((r :: l).getLastD 0)) (ev_var rfl) (ev_neg ev_int) (od_ixL (by rw [atI_last PyData.none (by simp)]; exact congrArg some (last_int r l)))) (ev_op (d1 := .list ((r :: l).map nD)) (ev_var rfl) ev_int (od_ixL at0)) od_sub) ev_int od_addI) (ev_cb (ea_cons (ev_var (d := .list ((r :: l).map nD)) rfl) ea_nil) cd_lenL) od_neI)) ?_) (fun h => st_ret ev_str ?_) fun h => ?_
      · rw [List.length_map]
        congr 1
        exact decide_eq_decide.mpr (by omega)
      · rw [if_neg (by simp at h; simp; exact fun k => absurd k h)]
        rfl
      have h' : decide ((r :: l).getLastD 0 - r + 1 = (r :: l).length) = true := by simpa using h
      rw [h', Bool.true_and]
      clear h h'
      refine q_for (ei_map (h := nD) 0 (zs := r :: l) (ev_var rfl)) (fun i ρ => (∀ j, j < i → lineOk (rows.getD ((r :: l).getD j 0) Str.empty) c b m = true) ∧ ∃ s6 s7 : Sl, ρ = [.fr (.list (rows.map PyData.str)), .fr (.str (oneS c)), .fr (.list ((r :: l).map nD)), .fr (.str (rows.getD r Str.empty)), .fr (.int (b : Nat)), .fr (.int (m : Nat)), s6, s7]) ⟨fun j hj => absurd hj (Nat.not_lt_zero _), _, _, rfl⟩ ?_ ?_
      · rintro i ρ hi ⟨hbad, s6, s7, rfl⟩
        refine ⟨_, _, gt_name, ?_⟩
        have hk := occ_mem.mp (show (r :: l).getD i 0 ∈ occ rows c by rw [ho]; exact DL.getD_mem hi)
        have hkz := hl _ (DL.getD_mem (z := Str.empty) hk.1)
        refine q_asg (d := .str (rows.getD ((r :: l).getD i 0) Str.empty)) (ev_row (k := (r :: l).getD i 0) rfl (ev_var rfl) hk.1) ?_
        generalize he : rows.getD ((r :: l).getD i 0) Str.empty = z at *
        show ST K E0 _ [.fr (.list (rows.map PyData.str)), .fr (.str (oneS c)), .fr (.list ((r :: l).map nD)), .fr (.str (rows.getD r Str.empty)), .fr (.int (b : Nat)), .fr (.int (m : Nat)), .fr (.int ((r :: l).getD i 0 : Nat)), .fr (.str z)] _
        refine st_if (b := !lineOk z c b m) (et_is (et_or (b := !decide ((z.cps.toList.drop b).take m = List.replicate m c)) (et_is (b := !decide (cntC z c = m)) (et_test (ev_op (ev_count (a := z) (b := oneS c) (ev_var rfl) (ev_var rfl)) (ev_var (d := .int (m : Nat)) rfl) od_neI)) (by rw [count_one]; congr 1; exact decide_eq_decide.mpr (by show _ ↔ cntC z c = m; unfold cntC; omega))) (fun _ => et_is (et_test (ev_op (ev_slS (lo := some (b : Int)) (hi := some ((b : Int) + (m : Int))) (ev_var (d := .str z) rfl) (by rw [sizeLine_eq]; omega) (eo_some (ev_var rfl)) (eo_some (ev_op (ev_var rfl) (ev_var rfl) od_addI))) (ev_op (d1 := .str (oneS c)) (d := .str (repS (oneS c) (m : Int))) (ev_var rfl) (ev_var rfl) (od_mulS (by omega) (by omega) (by rw [sizeLine_eq]; show 1 * _ ≤ _; omega))) od_neS)) ?_)) (by unfold lineOk; rw [Bool.not_and])) (fun h => st_ret ev_str ?_) fun h => st_next ⟨fun j hj => ?_, _, _, rfl⟩
        · congr 1
          refine decide_eq_decide.mpr ?_
          by_cases hbl : b ≤ z.cps.toList.length
          · rw [← cutM_list z b m hbl, ← rep_list]
            exact ⟨fun e => by rw [e], fun e => str_ext e⟩
          · have hm1 : 1 ≤ m := by
              rw [← hme]
              exact List.count_pos_iff.mpr hr.2
            constructor
            · intro e
              have e2 := congrArg (fun z : Str => z.cps.toList.length) e
              have e3 := len_cut z (some (b : Int)) (some ((b : Int) + (m : Int)))
              have e2 : (cutS z (some (b : Int)) (some ((b : Int) + (m : Int)))).cps.toList.length = (repS (oneS c) (m : Int)).cps.toList.length := e2
              rw [rep_list, List.length_replicate] at e2
              exfalso
              have e4 : (cutS z (some (b : Int)) (some ((b : Int) + (m : Int)))).cps.toList = [] := by
                exact cut_past (by rw [Array.length_toList] at hbl; omega) _
              rw [e4] at e2
              have : (0 : Nat) = m := e2
              omega
            · intro e
              rw [List.drop_of_length_le (by omega), List.take_nil] at e
              have := congrArg List.length e
              rw [List.length_replicate] at this
              have : (0 : Nat) = m := this
              omega
        · rw [if_neg]
          · rfl
          · intro k
            have := List.all_eq_true.mp k _ (DL.getD_mem (z := 0) hi)
            rw [he] at this
            rw [this] at h
            cases h
        · by_cases ej : j = i
          · rw [ej, he]
            simpa using h
          · exact hbad j (by omega)
      · rintro ρ ⟨hbad, s6, s7, rfl⟩
        refine st_ret ev_non ?_
        rw [if_pos (List.all_eq_true.mpr fun k hk => ?_)]
        · rfl
        · obtain ⟨j, hj, ej⟩ := List.mem_iff_getElem.mp hk
          have := hbad j hj
          have e2 : (r :: l).getD j 0 = k := by
            rw [List.getD_eq_getElem?_getD, List.getElem?_eq_getElem hj, ej]
            rfl
          rw [e2] at this
          exact this
theorem ok_sign_box (T : Txt K mg) (hd : FnP K "sign_box" s_sign_box) (hm : mg "sign_box" = some (.ref (He.ga K "sign_box"))) (O_sign_rows : Okd P w K mg base CX0 1 "sign_rows" ["shown", "sign"] (sp_sign_rows K)) : Okd P w K mg base CX0 2 "sign_box" ["shown", "sign"] (sp_sign_box K) := by
  obtain ⟨fd, F⟩ := hd
  refine ⟨hm, fd, fn_pf F sc_sign_box ?_ (fun cdv A outer s H E hr => ⟨_, dv_sign_box T O_sign_rows cdv A outer s H E hr, ?_⟩), F.bindsN (fun _ _ _ _ _ _ us hl => match us, hl with | [_, _], _ => rfl), F.kp⟩
  · rintro ds d ⟨x0, x1, rfl, _⟩
    rfl
  · rintro ds d ⟨rows, c, rfl, hn, hne, rfl⟩
    refine ST.mono (P := fun o => o = .rt (bxD (boxO rows c))) ?_ fun o h => .inl h
    show ST K E0 (t_sign_box K) [.fr (.list (rows.map PyData.str)), .fr (.str (oneS c)), .no, .no, .no, .no] _
    unfold t_sign_box sp_sign_rows
    refine q_asg (d := .list ((occ rows c).map nD)) (ev_call (ea_cons (ev_var rfl) (ea_cons (ev_var rfl) ea_nil)) ⟨rows, c, rfl, hn, rfl⟩) ?_
    cases ho : occ rows c with
    | nil => exact absurd ho hne
    | cons r l =>
      have hr := occ_mem.mp (show r ∈ occ rows c by rw [ho]; exact List.mem_cons_self ..)
      have e0 : boxO rows c = ⟨fstC (rows.getD r Str.empty) c, (rows.length : Int) - 1 - ((r :: l).getLastD 0 : Nat), fstC (rows.getD r Str.empty) c + cntC (rows.getD r Str.empty) c, (rows.length : Int) - (r : Nat)⟩ := by
        unfold boxO
        rw [ho]
        rfl
      rw [e0]
      have ix0 : ∀ (ρ : List Sl), ρ[2]? = some (.fr (.list ((r :: l).map nD))) → EV K (tOp (rIx K) (tVar 2) (tC (.int 0))) ρ (.int (r : Nat)) := fun ρ h => ev_op (ev_var h) ev_int (od_ixL at0)
      refine q_asg (d := .str (rows.getD r Str.empty)) (ev_row (k := r) rfl (ix0 _ rfl) hr.1) ?_
      refine q_asg (d := .int (fstC (rows.getD r Str.empty) c : Nat)) (ev_is (ev_find (a := rows.getD r Str.empty) (b := oneS c) (ev_var rfl) (ev_var rfl)) (by rw [find_one hr.2])) ?_
      refine q_asg (d := .int (rows.length : Nat)) (ev_is (ev_cb (ea_cons (ev_var (d := .list (rows.map PyData.str)) rfl) ea_nil) cd_lenL) (by rw [List.length_map])) ?_
      exact st_ret (ev_tup (ds := [.int (fstC (rows.getD r Str.empty) c : Nat), .int ((rows.length : Int) - 1 - ((r :: l).getLastD 0 : Nat)), .int (fstC (rows.getD r Str.empty) c + cntC (rows.getD r Str.empty) c), .int ((rows.length : Int) - (r : Nat))])
        (ea_cons (ev_var rfl) (ea_cons (ev_op (ev_op (ev_var rfl) ev_int od_sub) (ev_op (d1 := .list ((r :: l).map nD)) (d := nD ((r :: l).getLastD 0)) (ev_var rfl) (ev_neg ev_int) (od_ixL (by rw [atI_last PyData.none (by simp)]; exact congrArg some (last_int r l)))) od_sub) (ea_cons (ev_op (ev_var rfl) (ev_is (ev_count (a := rows.getD r Str.empty) (b := oneS c) (ev_var rfl) (ev_var rfl)) (by rw [count_one]; rfl)) od_addI) (ea_cons (ev_op (ev_var rfl) (ix0 _ rfl) od_sub) ea_nil)))) s4) (by rfl)
theorem ix_ch {z : Str} {k : Nat} (h : k < z.length) : atI z.cps.toList ((k : Nat) : Int) = some (z.cps.getD k 0) := atI_nat (ix_sg h)
theorem ok_four_signs_meet (T : Txt K mg) (hd : FnP K "four_signs_meet" s_four_signs_meet) (hm : mg "four_signs_meet" = some (.ref (He.ga K "four_signs_meet")))  : Okd P w K mg base CX0 1 "four_signs_meet" ["upper", "lower"] (sp_four_signs_meet K) := by
  obtain ⟨fd, F⟩ := hd
  refine ⟨hm, fd, fn_pfc F sc_four_signs_meet ?_ (fun cdv A outer s H E hcd hr => ⟨_, dv_four_signs_meet T  cdv A outer s H E hcd hr, ?_⟩), F.bindsN (fun _ _ _ _ _ _ us hl => match us, hl with | [_, _], _ => rfl), F.kp⟩
  · rintro ds d ⟨x0, x1, rfl, _⟩
    rfl
  · rintro ds d ⟨u, l, rfl, he, hu, rfl⟩
    refine ST.mono (P := fun o => o = .rt (.bool (fourB u l))) ?_ fun o h => .inl h
    show ST K E0 (t_four_signs_meet K) [.fr (.str u), .fr (.str l), .no] _
    unfold t_four_signs_meet
    have us : u.length ≤ sizeLine := by rw [sizeLine_eq]; omega
    have ls : l.length ≤ sizeLine := by rw [sizeLine_eq]; omega
    refine q_for (ei_rng2 (m := 1) (n := u.length) (ea_cons ev_int (ea_cons (ev_cb (ea_cons (ev_var rfl) ea_nil) (cd_lenS us)) ea_nil)) (by omega)) (fun i ρ => (∀ x, 1 ≤ x → x < i + 1 → (dd [oneS (u.cps.getD (x - 1) 0), oneS (u.cps.getD x 0), oneS (l.cps.getD (x - 1) 0), oneS (l.cps.getD x 0)]).length ≠ 4) ∧ ∃ s2 : Sl, ρ = [.fr (.str u), .fr (.str l), s2]) ⟨fun x h1 h2 => by omega, _, rfl⟩ ?_ ?_
    · rintro i ρ hi ⟨hb, s2, rfl⟩
      refine ⟨_, _, gt_name, ?_⟩
      have hi' : i + 1 < u.length := by omega
      show ST K E0 _ [.fr (.str u), .fr (.str l), .fr (.int (1 + (i : Nat)))] _
      rw [show (1 : Int) + ((i : Nat) : Int) = ((i + 1 : Nat) : Int) from by omega]
      have sub : ∀ (ρ : List Sl), ρ[2]? = some (.fr (.int ((i + 1 : Nat) : Int))) → EV K (tOp rSubU (tVar 2) (tC (.int 1))) ρ (.int ((i : Nat) : Int)) := fun ρ h => ev_is (ev_op (ev_var h) ev_int od_sub) (by congr 1; omega)
      refine st_if (b := decide ((dd [oneS (u.cps.getD i 0), oneS (u.cps.getD (i + 1) 0), oneS (l.cps.getD i 0), oneS (l.cps.getD (i + 1) 0)]).length = 4)) (et_is (et_test (ev_op (ev_lenDisp (zs := [oneS (u.cps.getD i 0), oneS (u.cps.getD (i + 1) 0), oneS (l.cps.getD i 0), oneS (l.cps.getD (i + 1) 0)]) (.cons (ev_op (ev_var rfl) (sub _ rfl) (od_ixS us (ix_ch (by omega)))) (.cons (ev_op (ev_var rfl) (ev_var rfl) (od_ixS us (ix_ch (by omega)))) (.cons (ev_op (ev_var rfl) (sub _ rfl) (od_ixS ls (ix_ch (by omega)))) (.cons (ev_op (ev_var rfl) (ev_var rfl) (od_ixS ls (ix_ch (by omega)))) .nil)))) (by show 4 ≤ 30; decide)) ev_int od_eqI)) (decide_eq_decide.mpr (by omega))) (fun h => st_ret ev_bl ?_) fun h => st_next ⟨fun x h1 h2 => ?_, _, rfl⟩
      · have : fourB u l = true := List.any_eq_true.mpr ⟨i + 1, List.mem_range.mpr hi', by
          rw [Bool.and_eq_true]
          exact ⟨decide_eq_true (by omega), h⟩⟩
        rw [this]
        rfl
      · by_cases ex : x = i + 1
        · subst ex
          exact of_decide_eq_false h
        · exact hb x h1 (by omega)
    · rintro ρ ⟨hb, s2, rfl⟩
      refine st_ret ev_bl ?_
      have : fourB u l = false := List.any_eq_false.mpr fun x hx => by
        have hx := List.mem_range.mp hx
        rw [Bool.and_eq_true]
        rintro ⟨h1, h2⟩
        have h1 := of_decide_eq_true h1
        exact hb x h1 (by omega) (of_decide_eq_true h2)
      rw [this]
theorem chD_one (z : Str) (i : Nat) : chD z i = .str (oneS (z.cps.getD i 0)) := rfl
theorem ok_shown_fault (T : Txt K mg) (hd : FnP K "shown_fault" s_shown_fault) (hm : mg "shown_fault" = some (.ref (He.ga K "shown_fault")))  : Okd P w K mg base CX0 1 "shown_fault" ["shown", "known"] (sp_shown_fault K) := by
  obtain ⟨fd, F⟩ := hd
  refine ⟨hm, fd, fn_pf F sc_shown_fault ?_ (fun cdv A outer s H E hr => ⟨_, dv_shown_fault T  cdv A outer s H E hr, ?_⟩), F.bindsN (fun _ _ _ _ _ _ us hl => match us, hl with | [_, _], _ => rfl), F.kp⟩
  · rintro ds d ⟨x0, x1, rfl, _⟩
    rfl
  · rintro ds d ⟨rows, sg, rfl, hn, hl, rfl⟩
    refine ST.mono (P := fun o => o = .rt (fltD (gridF rows sg))) ?_ fun o h => .inl h
    show ST K E0 (t_shown_fault K) [.fr (.list (rows.map PyData.str)), .fr (dkD (bS sg)), .no, .no, .no] _
    unfold t_shown_fault
    refine q_when (b := decide (rows = [])) (et_is (et_test (ev_op (ev_cb (ea_cons (ev_var (d := .list (rows.map PyData.str)) rfl) ea_nil) cd_lenL) ev_int od_eqI)) (by rw [List.length_map]; cases rows <;> simp; omega)) (fun h => st_ret (ev_tup (ea_cons ev_int (ea_cons ev_str ea_nil)) s2) ?_) fun h => ?_
    · unfold gridF
      rw [if_pos (of_decide_eq_true h)]
      rfl
    have hne := of_decide_eq_false h
    have h0 : 0 < rows.length := List.length_pos_iff.mpr hne
    have hz0 := hl _ (DL.getD_mem (z := Str.empty) h0)
    have e0 : gridF rows sg = firstO (rowF rows sg) rows.length := if_neg hne
    rw [e0]
    refine q_for (ei_mono (ei_enumL (ds := rows.map PyData.str) (ea_cons (ev_var rfl) ea_nil)) fun i hi => rfl) (fun i ρ => (∀ j, j < i → rowF rows sg j = none) ∧ ∃ s2 s3 s4 : Sl, ρ = [.fr (.list (rows.map PyData.str)), .fr (dkD (bS sg)), s2, s3, s4]) ⟨fun j hj => absurd hj (Nat.not_lt_zero _), _, _, _, rfl⟩ ?_ ?_
    · rintro i ρ hi ⟨hb, s2', s3, s4, rfl⟩
      rw [List.length_map] at hi
      rw [getD_strs hi]
      refine ⟨_, _, gt_tup rfl (gts_cons gt_name (gts_cons gt_name gts_nil)), ?_⟩
      have hz := hl _ (DL.getD_mem (z := Str.empty) hi)
      have er : rowF rows sg i = if (decide (rows.getD i Str.empty = ("" : Str)) || decide ((rows.getD i Str.empty).length ≠ (rows.getD 0 Str.empty).length)) = true then (some "width" : Option Str) else if (decide (160 < (rows.getD i Str.empty).length) || decide (160 ≤ i)) = true then (some "limit" : Option Str) else if ((rows.getD i Str.empty).cps.toList.all fun c => decide (oneS c ∈ sg)) = true then none else (some "unknown" : Option Str) := rfl
      have ret : ∀ (ρ : List Sl) (f : Str), ρ[2]? = some (.fr (.int (i : Nat))) → rowF rows sg i = some f → EV K (tTup (tCons (tVar 2) (tCons (tC (.str f)) tNil))) ρ (fltD (firstO (rowF rows sg) rows.length)) := fun ρ f h2 hf => by
        rw [firstO_some hi hb hf]
        exact ev_tup (ds := [.int (i : Nat), .str f]) (ea_cons (ev_var h2) (ea_cons ev_str ea_nil)) s2
      generalize hze : rows.getD i Str.empty = z at *
      show ST K E0 _ [.fr (.list (rows.map PyData.str)), .fr (dkD (bS sg)), .fr (.int (i : Nat)), .fr (.str z), s4] _
      refine q_when (b := decide (z = ("" : Str)) || decide (z.length ≠ (rows.getD 0 Str.empty).length)) (et_or (et_test (ev_op (ev_var (d := .str z) rfl) ev_str od_eqS)) fun _ => et_is (et_test (ev_op (ev_cb (ea_cons (ev_var (d := .str z) rfl) ea_nil) (cd_lenS (by rw [sizeLine_eq]; omega))) (ev_cb (ea_cons (ev_row (k := 0) rfl ev_int h0) ea_nil) (cd_lenS (by rw [sizeLine_eq]; omega))) od_neI)) (by by_cases k : z.length = (rows.getD 0 Str.empty).length <;> simp [k]; omega)) (fun h => ?_) fun h => ?_
      · exact st_ret (ret _ "width" rfl (by rw [er, if_pos h])) (by rfl)
      rw [if_neg (by rw [h]; exact Bool.false_ne_true)] at er
      refine q_when (b := decide (160 < z.length) || decide (160 ≤ i)) (et_or (et_is (et_test (ev_op (ev_cb (ea_cons (ev_var (d := .str z) rfl) ea_nil) (cd_lenS (by rw [sizeLine_eq]; omega))) ev_int od_cmpI)) (decide_eq_decide.mpr (by omega))) fun _ => et_is (et_test (ev_op (ev_var (d := .int (i : Nat)) rfl) ev_int od_cmpI)) (decide_eq_decide.mpr (by omega))) (fun h => ?_) fun h => ?_
      · exact st_ret (ret _ "limit" rfl (by rw [er, if_pos h])) (by rfl)
      rw [if_neg (by rw [h]; exact Bool.false_ne_true)] at er
      refine st_for (ei_mono (ei_str (z := z) (ev_var rfl)) fun k hk => chD_one z k) (fun k ρ => (∀ j, j < k → oneS (z.cps.getD j 0) ∈ sg) ∧ ∃ s4 : Sl, ρ = [.fr (.list (rows.map PyData.str)), .fr (dkD (bS sg)), .fr (.int (i : Nat)), .fr (.str z), s4]) ⟨fun j hj => absurd hj (Nat.not_lt_zero _), _, rfl⟩ ?_ ?_
      · rintro k ρ hk ⟨hg, s4, rfl⟩
        refine ⟨_, _, gt_name, ?_⟩
        refine st_if (b := !decide (oneS (z.cps.getD k 0) ∈ sg)) (et_B (ev_ninLS (ev_var (by rfl)) (ev_var (by rfl)))) (fun h => ?_) fun h => st_next ⟨fun j hj => ?_, _, rfl⟩
        · refine st_ret (ret _ "unknown" (by rfl) ?_) (by rfl)
          rw [er, if_neg]
          intro hall
          have := List.all_eq_true.mp hall (z.cps.getD k 0) (by
            rw [List.mem_iff_getElem?]
            exact ⟨k, ix_sg hk⟩)
          rw [this] at h
          cases h
        · by_cases ej : j = k
          · rw [ej]
            simpa using h
          · exact hg j (by omega)
      · rintro ρ ⟨hg, s4, rfl⟩
        refine ⟨fun j hj => ?_, _, _, _, rfl⟩
        by_cases ej : j = i
        · rw [ej, er, if_pos]
          refine List.all_eq_true.mpr fun c hc => ?_
          obtain ⟨k, hk, ek⟩ := List.mem_iff_getElem.mp hc
          rw [Array.length_toList] at hk
          have := ix_sg (sg := z) hk
          rw [List.getElem?_eq_getElem (by rw [Array.length_toList]; exact hk), ek] at this
          have := Option.some.inj this
          rw [this]
          exact decide_eq_true (hg k hk)
        · exact hb j (by omega)
    · rintro ρ ⟨hb, s2', s3, s4, rfl⟩
      rw [firstO_none fun j hj => hb j (by rw [List.length_map]; exact hj)]
      exact st_ret ev_non (by rfl)
def outc (K : PySem.W.Frag) : RT → Oc
  | .bad l w => .ex (He.ga K "BadText") [(("word" : Str), PyData.str w), (("line" : Str), PyData.int l)]
  | .ok rs w h bs => .rt (plD rs w h bs)
theorem cut_takeD {ds : List D} {m : Nat} (h : m ≤ ds.length) : cutDs ds none (some (m : Int)) = ds.take m := by
  unfold cutDs
  show List.take (HT.sIx ds.length ds.length (some ((m : Nat) : Int)) - 0) (ds.drop 0) = _
  rw [HT.sIx_nat, Nat.min_eq_left h, List.drop_zero, Nat.sub_zero]
theorem bar_facts {ls : List Str} (h : ("--" : Str) ∈ ls) : barP ls < ls.length ∧ ls.getD (barP ls) Str.empty = "--" ∧ ∀ j, j < barP ls → ls.getD j Str.empty ≠ "--" := by
  have h1 : barP ls < ls.length := List.findIdx_lt_length_of_exists ⟨_, h, decide_eq_true rfl⟩
  refine ⟨h1, ?_, fun j hj => ?_⟩
  · have := List.findIdx_getElem (w := h1)
    rw [List.getD_eq_getElem?_getD, List.getElem?_eq_getElem h1]
    exact of_decide_eq_true this
  · have := List.not_of_lt_findIdx hj
    rw [List.getD_eq_getElem?_getD, List.getElem?_eq_getElem (by omega)]
    simpa using this
theorem told_inv {wss : List (List Str)} (h : toldF 0 wss [] Str.empty = none) : ∀ i, i ≤ wss.length → ∀ j, j < i → signF (wss.getD j []) (stepN wss j).1 (stepN wss j).2 = none
  | 0, _, j, hj => absurd hj (Nat.not_lt_zero _)
  | i + 1, hi, j, hj => by
    have ih := told_inv h i (by omega)
    by_cases e : j = i
    · subst e
      cases hf : signF (wss.getD j []) (stepN wss j).1 (stepN wss j).2 with
      | none => rfl
      | some f =>
        rw [told_some (by omega) ih hf] at h
        cases h
    · exact ih j (by omega)
/-- what the lines of signs hold when nothing is wrong with them -/
structure WF (wss : List (List Str)) : Prop where
  two : ∀ i, i < wss.length → ∃ b, wss.getD i [] = [oneS (codeW (wss.getD i [])), b] ∧ codeW (wss.getD i []) ∈ SG.cps.toList ∧ nameB b = true
  new : ∀ i, i < wss.length → (wss.getD i []).getD 0 Str.empty ∉ firstsW (wss.take i)
  up : ∀ i, i < wss.length → ltS (stepN wss i).2 ((wss.getD i []).getD 1 Str.empty) = true
theorem linesF_none {ls : List Str} (h : linesF ls = none) : ls ≠ [] ∧ WF (ls.map wordsT) := by
  unfold linesF at h
  split at h
  · cases h
  rename_i hne
  have hi := told_inv h _ (Nat.le_refl _)
  refine ⟨hne, fun i hi' => ?_, fun i hi' => ?_, fun i hi' => ?_⟩
  · obtain ⟨a, b, e, ea, hc, nb, _, _⟩ := signF_none (hi i hi')
    refine ⟨b, ?_, hc, nb⟩
    rw [← ea]
    exact e
  · obtain ⟨a, b, e, _, _, _, na, _⟩ := signF_none (hi i hi')
    rw [e]
    exact na
  · obtain ⟨a, b, e, _, _, _, _, lt⟩ := signF_none (hi i hi')
    rw [e]
    exact lt
theorem dc_signs {wss : List (List Str)} (W : WF wss) : ∀ i, i ≤ wss.length → dcD i (fun _ => true) (fun i => .inr ((wss.getD i []).getD 0 Str.empty)) (fun _ => .bool true) = bS (firstsW (wss.take i))
  | 0, _ => rfl
  | i + 1, h => by
    unfold dcD
    rw [if_pos rfl, dc_signs W i (by omega), put_bS (W.new i h), firstsW_succ h]
def wwD (ws : List Str) : D := .list (ws.map PyData.str)
theorem gridF_none {rows sg : List Str} (h : gridF rows sg = none) : rows ≠ [] ∧ ∀ i, i < rows.length → rowF rows sg i = none := by
  unfold gridF at h
  split at h
  · cases h
  rename_i hne
  refine ⟨hne, fun i hi => ?_⟩
  cases hf : rowF rows sg i with
  | none => rfl
  | some w =>
    exfalso
    have key : ∀ n, i < n → firstO (rowF rows sg) n ≠ none := fun n => by
      induction n with
      | zero => omega
      | succ n ih =>
        intro hn
        unfold firstO
        cases hq : firstO (rowF rows sg) n with
        | some p => exact fun z => by cases z
        | none =>
          by_cases e : i = n
          · subst e
            rw [hf]
            exact fun z => by cases z
          · exact absurd hq (ih (by omega))
    exact key _ hi h
theorem rowF_none {rows sg : List Str} {i : Nat} (h : rowF rows sg i = none) : rows.getD i Str.empty ≠ "" ∧ (rows.getD i Str.empty).length = (rows.getD 0 Str.empty).length ∧ (rows.getD i Str.empty).length ≤ 160 ∧ i < 160 ∧ ∀ c ∈ (rows.getD i Str.empty).cps.toList, oneS c ∈ sg := by
  unfold rowF at h
  split at h
  · cases h
  rename_i h1
  split at h
  · cases h
  rename_i h2
  split at h
  · rename_i h3
    rw [Bool.or_eq_true, not_or] at h1 h2
    refine ⟨fun e => h1.1 (decide_eq_true e), ?_, ?_, ?_, fun c hc => of_decide_eq_true (List.all_eq_true.mp h3 c hc)⟩
    · exact Classical.byContradiction fun k => h1.2 (decide_eq_true k)
    · have := h2.1
      simp at this
      exact this
    · have := h2.2
      simp at this
      exact this
  · cases h
theorem boxF_occ {rows : List Str} {c : Nat} (h : boxF rows c = none) : occ rows c ≠ [] := fun e => by
  rw [boxF_nil e] at h
  cases h
section
variable {ls : List Str} {m : Nat}
theorem rd_lines {i : Nat} {w' : Str} (h : linesF (ls.drop (m + 1)) = some (i, w')) : readAt ls m = .bad (m + 2 + (i : Nat)) w' := by
  unfold readAt
  rw [h]
theorem rd_grid (h0 : linesF (ls.drop (m + 1)) = none) {i : Nat} {w' : Str} (h : gridF (ls.take m) (firstsW ((ls.drop (m + 1)).map wordsT)) = some (i, w')) : readAt ls m = .bad (1 + (i : Nat)) w' := by
  unfold readAt
  rw [h0]
  dsimp only
  rw [h]
theorem rd_box (h0 : linesF (ls.drop (m + 1)) = none) (h1 : gridF (ls.take m) (firstsW ((ls.drop (m + 1)).map wordsT)) = none) {i : Nat} {w' : Str} (h : firstO (fun i => boxF (ls.take m) (codeW (((ls.drop (m + 1)).map wordsT).getD i []))) ((ls.drop (m + 1)).map wordsT).length = some (i, w')) : readAt ls m = .bad (m + 2 + (i : Nat)) w' := by
  unfold readAt
  rw [h0]
  dsimp only
  rw [h1]
  dsimp only
  rw [h]
theorem rd_four (h0 : linesF (ls.drop (m + 1)) = none) (h1 : gridF (ls.take m) (firstsW ((ls.drop (m + 1)).map wordsT)) = none) (h2 : firstO (fun i => boxF (ls.take m) (codeW (((ls.drop (m + 1)).map wordsT).getD i []))) ((ls.drop (m + 1)).map wordsT).length = none) {i : Nat} {w' : Str} (h : firstO (fourF (ls.take m)) (m - 1) = some (i, w')) : readAt ls m = .bad ((i + 1 : Nat) : Int) w' := by
  unfold readAt
  rw [h0]
  dsimp only
  rw [h1]
  dsimp only
  rw [h2]
  dsimp only
  rw [h]
theorem rd_ok (h0 : linesF (ls.drop (m + 1)) = none) (h1 : gridF (ls.take m) (firstsW ((ls.drop (m + 1)).map wordsT)) = none) (h2 : firstO (fun i => boxF (ls.take m) (codeW (((ls.drop (m + 1)).map wordsT).getD i []))) ((ls.drop (m + 1)).map wordsT).length = none) (h : firstO (fourF (ls.take m)) (m - 1) = none) :
    readAt ls m = .ok (((ls.drop (m + 1)).map wordsT).map fun ws => ws.getD 1 Str.empty) ((ls.take m).getD 0 Str.empty).length m (((ls.drop (m + 1)).map wordsT).map fun ws => boxO (ls.take m) (codeW ws)) := by
  unfold readAt
  rw [h0]
  dsimp only
  rw [h1]
  dsimp only
  rw [h2]
  dsimp only
  rw [h]
end
theorem getD_take {ls : List Str} {m i : Nat} (h : i < m) : (ls.take m).getD i Str.empty = ls.getD i Str.empty := by
  rw [List.getD_eq_getElem?_getD, List.getD_eq_getElem?_getD, List.getElem?_take, if_pos h]
theorem ei_words {ρ : List Sl} {te : TE} {wss : List (List Str)} (h : EV K te ρ (.list (wss.map wwD))) : EI K (iSeqU K te) ρ wss.length (fun i => wwD (wss.getD i [])) := ei_map (h := wwD) [] h
theorem walk_read {z : Str} (hz : TP z) (T : Txt K mg) {Ex : XK} : ST K Ex (t_read_picture K Ex) [.fr (.str z), .no, .no, .no, .no, .no, .no, .no, .no, .no, .no, .no] (fun o => o = outc K (readT z)) := by
  unfold t_read_picture sp_text_lines sp_sign_lines_fault sp_words_of sp_shown_fault sp_sign_fault sp_sign_box sp_four_signs_meet
  refine q_asg (ev_call (ea_cons (ev_var rfl) ea_nil) ⟨z, rfl, hz.len, rfl⟩) ?_
  have hmany := hz.many
  have hwords := hz.words
  unfold readT
  generalize linesT z = ls at *
  show ST K Ex _ [.fr (.str z), .fr (.list (ls.map PyData.str)), .no, .no, .no, .no, .no, .no, .no, .no, .no, .no] _
  refine q_when (b := !decide (("--" : Str) ∈ ls)) (et_is (et_test (ev_op ev_str (ev_var (d := .list (ls.map PyData.str)) rfl) (od_ninL rfl (strs_flat _)))) (by rw [inD_str])) (fun h => ?_) fun h => ?_
  · refine st_raiseO (ds := [.int ((ls.length : Nat) + 1), .str "place"]) (ea_cons (ev_op (ev_is (d := .int (((ls.map PyData.str).length : Nat) : Int)) (ev_cb (ea_cons (ev_var rfl) ea_nil) cd_lenL) (by rw [List.length_map])) ev_int od_addI) (ea_cons ev_str ea_nil)) (by rfl) (by show 2 ≤ 1000; decide) ?_
    unfold readL
    rw [if_neg (by simpa using h)]
    rfl
  have hin : ("--" : Str) ∈ ls := by simpa using h
  have e0 : readL ls = readAt ls (barP ls) := if_pos hin
  rw [e0]
  obtain ⟨bl, be, bn⟩ := bar_facts hin
  refine q_asg (ev_lindex (zs := ls) (j := barP ls) (ev_var rfl) ev_str bl be bn) ?_
  clear h hin e0 be bn
  generalize barP ls = m at *
  have hrows : ∀ l ∈ ls.take m, l.length ≤ 4000 := fun l hl => hwords l (List.mem_of_mem_take hl)
  have hrl : (ls.take m).length = m := by rw [List.length_take]; omega
  refine q_asg (d := .list ((ls.take m).map PyData.str)) (ev_N (en_is (en_slL (ev_var (d := .list (ls.map PyData.str)) rfl) eo_none (eo_some (ev_var (d := .int (m : Nat)) rfl))) (by rw [cut_takeD (by rw [List.length_map]; omega), List.map_take]))) ?_
  have dropV : ∀ (ρ : List Sl), ρ[1]? = some (.fr (.list (ls.map PyData.str))) → ρ[2]? = some (.fr (.int (m : Nat))) → EV K (tSl (rSlU K) (tVar 1) (tPart (tOp (rAddU K) (tVar 2) (tC (.int 1)))) tNoPart) ρ (.list ((ls.drop (m + 1)).map PyData.str)) := fun ρ h1 h2 =>
    ev_N (en_is (en_slL (ev_var h1) (eo_some (ev_op (ev_var h2) ev_int od_addI)) eo_none) (by rw [cut_from (by rw [List.length_map]; exact bl), List.map_drop]))
  have hdl : (ls.drop (m + 1)).length ≤ 2000 := by rw [List.length_drop]; omega
  have hdz : ∀ l ∈ ls.drop (m + 1), l.length ≤ 4000 := fun l hl => hwords l (List.mem_of_mem_drop hl)
  refine q_asg (ev_call (ea_cons (dropV _ rfl rfl) ea_nil) ⟨ls.drop (m + 1), rfl, hdl, hdz, rfl⟩) ?_
  cases h0 : linesF (ls.drop (m + 1)) with
  | some p =>
    obtain ⟨i, f⟩ := p
    rw [rd_lines h0]
    refine q_yes (et_is (et_B (ev_notN (ev_var (d := .tuple [.int (i : Nat), .str f]) rfl))) (by rfl)) ?_
    exact st_raiseO (ds := [.int ((m : Int) + 2 + (i : Nat)), .str f]) (ea_cons (ev_op (ev_op (ev_var (d := .int (m : Nat)) rfl) ev_int od_addI) (ev_op (d1 := .tuple [.int (i : Nat), .str f]) (ev_var rfl) ev_int (od_ixT (by rfl))) od_addI) (ea_cons (ev_op (d1 := .tuple [.int (i : Nat), .str f]) (ev_var rfl) ev_int (od_ixT (by rfl))) ea_nil)) (by rfl) (by show 2 ≤ 1000; decide) (by rfl)
  | none =>
  refine q_no (et_is (et_B (ev_notN (ev_var (d := .none) rfl))) (by rfl)) ?_
  obtain ⟨_, W⟩ := linesF_none h0
  have wl : ((ls.drop (m + 1)).map wordsT).length ≤ 2000 := by rw [List.length_map]; exact hdl
  refine q_asg (d := .list (((ls.drop (m + 1)).map wordsT).map wwD)) (ev_N (en_is (en_lc (n := (ls.drop (m + 1)).length) (b := fun _ => true) (f := fun i => wwD (wordsT ((ls.drop (m + 1)).getD i Str.empty))) (ei_listS (zs := ls.drop (m + 1)) (dropV _ rfl rfl)) (by omega) fun i hi => ⟨_, _, gt_name, by simp, et_yes, fun _ => ev_call (ea_cons (ev_var rfl) ea_nil) ⟨_, rfl, by have := hdz _ (DL.getD_mem (z := Str.empty) hi); omega, rfl⟩⟩) (by rw [lc_map (h := fun l => wwD (wordsT l)) Str.empty (ls.drop (m + 1)), List.map_map]; rfl))) ?_
  generalize hwe : (ls.drop (m + 1)).map wordsT = wss at *
  generalize hre : ls.take m = rows at *
  have two : ∀ i, i < wss.length → ∃ b, wwD (wss.getD i []) = .list [.str (oneS (codeW (wss.getD i []))), .str b] ∧ (wss.getD i []).getD 1 Str.empty = b ∧ (wss.getD i []).getD 0 Str.empty = oneS (codeW (wss.getD i [])) := fun i hi => by
    obtain ⟨b, e, _⟩ := W.two i hi
    generalize codeW (wss.getD i []) = c at e ⊢
    rw [e]
    exact ⟨b, rfl, rfl, rfl⟩
  show ST K Ex _ [.fr (.str z), .fr (.list (ls.map PyData.str)), .fr (.int (m : Nat)), .fr (.list (rows.map PyData.str)), .fr .none, .fr (.list (wss.map wwD)), .no, .no, .no, .no, .no, .no] _
  refine q_asg (d := fltD (gridF rows (firstsW wss))) (ev_call (ds := [.list (rows.map PyData.str), dkD (bS (firstsW wss))]) (ea_cons (ev_var rfl) (ea_cons (ev_N (en_is (en_dc (n := wss.length) (b := fun _ => true) (k := fun i => .inr ((wss.getD i []).getD 0 Str.empty)) (f := fun _ => .bool true) (ei_words (ev_var rfl)) (by omega) ?_) ?_)) ea_nil)) ⟨rows, firstsW wss, rfl, by omega, hrows, rfl⟩) ?_
  · intro i hi
    obtain ⟨b, e1, _, e2⟩ := two i hi
    rw [e1]
    refine ⟨_, _, gt_unl rfl (gts_cons gt_name (gts_cons gt_name gts_nil)), by simp, et_yes, fun _ => ⟨ev_is (ev_var rfl) (by show PyData.str _ = PyData.str _; rw [e2]), ev_bl⟩⟩
  · rw [dc_signs W wss.length (Nat.le_refl _), List.take_length]
  cases h1 : gridF rows (firstsW wss) with
  | some p =>
    obtain ⟨i, f⟩ := p
    rw [rd_grid h0 (by rw [hwe, hre]; exact h1)]
    refine q_yes (et_is (et_B (ev_notN (ev_var (d := .tuple [.int (i : Nat), .str f]) rfl))) (by rfl)) ?_
    exact st_raiseO (ds := [.int (1 + (i : Nat)), .str f]) (ea_cons (ev_op ev_int (ev_op (d1 := .tuple [.int (i : Nat), .str f]) (ev_var rfl) ev_int (od_ixT (by rfl))) od_addI) (ea_cons (ev_op (d1 := .tuple [.int (i : Nat), .str f]) (ev_var rfl) ev_int (od_ixT (by rfl))) ea_nil)) (by rfl) (by show 2 ≤ 1000; decide) (by rfl)
  | none =>
  refine q_no (et_is (et_B (ev_notN (ev_var (d := .none) rfl))) (by rfl)) ?_
  obtain ⟨rne, rok⟩ := gridF_none h1
  have rlen : ∀ i, i < rows.length → (rows.getD i Str.empty).length = (rows.getD 0 Str.empty).length ∧ (rows.getD i Str.empty).length ≤ 160 := fun i hi => ⟨(rowF_none (rok i hi)).2.1, (rowF_none (rok i hi)).2.2.1⟩
  refine q_asgN (d := .list []) (en_lst ea_nil (by decide)) ?_
  show ST K Ex _ [.fr (.str z), .fr (.list (ls.map PyData.str)), .fr (.int (m : Nat)), .fr (.list (rows.map PyData.str)), .fr .none, .fr (.list (wss.map wwD)), .no, .no, .no, .ow (.list []), .no, .no] _
  refine q_for (ei_mono (ei_enumL (ds := wss.map wwD) (ea_cons (ev_var rfl) ea_nil)) fun i hi => rfl) (fun i ρ => (∀ j, j < i → boxF rows (codeW (wss.getD j [])) = none) ∧ ∃ s7 s8 s10 s11 : Sl, ρ = [.fr (.str z), .fr (.list (ls.map PyData.str)), .fr (.int (m : Nat)), .fr (.list (rows.map PyData.str)), .fr .none, .fr (.list (wss.map wwD)), .no, s7, s8, .ow (.list ((wss.take i).map fun ws => bxD (boxO rows (codeW ws)))), s10, s11]) ⟨fun j hj => absurd hj (Nat.not_lt_zero _), _, _, _, _, rfl⟩ ?_ ?_
  · rintro i ρ hi ⟨hb, s7, s8, s10, s11, rfl⟩
    rw [List.length_map] at hi
    obtain ⟨b, e1, _, e2⟩ := two i hi
    rw [getD_map hi [] PyData.none, e1]
    refine ⟨_, _, gt_tup rfl (gts_cons gt_name (gts_cons (gt_unl rfl (gts_cons gt_name (gts_cons gt_name gts_nil))) gts_nil)), ?_⟩
    generalize hc : codeW (wss.getD i []) = c at *
    show ST K Ex _ [.fr (.str z), .fr (.list (ls.map PyData.str)), .fr (.int (m : Nat)), .fr (.list (rows.map PyData.str)), .fr .none, .fr (.list (wss.map wwD)), .no, .fr (.str (oneS c)), .fr (.str b), .ow (.list ((wss.take i).map fun ws => bxD (boxO rows (codeW ws)))), .fr (.int (i : Nat)), s11] _
    refine q_asg (d := optS (boxF rows c)) (ev_call (ea_cons (ev_var rfl) (ea_cons (ev_var rfl) ea_nil)) ⟨rows, c, rfl, by omega, hrows, rfl⟩) ?_
    cases hf : boxF rows c with
    | some f =>
      refine q_yes (et_is (et_B (ev_notN (ev_var (d := .str f) rfl))) (by rfl)) ?_
      refine st_raiseO (ds := [.int ((m : Int) + 2 + (i : Nat)), .str f]) (ea_cons (ev_op (ev_op (ev_var (d := .int (m : Nat)) rfl) ev_int od_addI) (ev_var (d := .int (i : Nat)) rfl) od_addI) (ea_cons (ev_var (d := .str f) rfl) ea_nil)) (by rfl) (by show 2 ≤ 1000; decide) ?_
      rw [rd_box h0 (by rw [hwe, hre]; exact h1) (i := i) (w' := f) (by rw [hwe, hre]; exact firstO_some hi hb (by rw [hc]; exact hf))]
      rfl
    | none =>
      refine q_no (et_is (et_B (ev_notN (ev_var (d := .none) rfl))) (by rfl)) ?_
      refine st_append (n := 9) rfl (d := bxD (boxO rows c)) (ev_call (ea_cons (ev_var rfl) (ea_cons (ev_var rfl) ea_nil)) ⟨rows, c, rfl, by omega, boxF_occ hf, rfl⟩) (by rw [List.length_map, List.length_take]; omega) ⟨fun j hj => ?_, .fr (.str (oneS c)), .fr (.str b), .fr (.int (i : Nat)), .fr .none, ?_⟩
      · by_cases ej : j = i
        · rw [ej, hc]
          exact hf
        · exact hb j (by omega)
      · rw [take_one hi [], List.map_append]
        show _ = [_, _, _, _, _, _, _, _, _, Sl.ow (.list (_ ++ [bxD (boxO rows (codeW (wss.getD i [])))])), _, _]
        rw [hc]
        rfl
  · rintro ρ ⟨hb, s7, s8, s10, s11, rfl⟩
    rw [List.length_map] at hb ⊢
    have h2 : firstO (fun i => boxF rows (codeW (wss.getD i []))) wss.length = none := firstO_none hb
    rw [List.take_length]
    refine q_for (ei_rng2 (m := 1) (n := m) (ea_cons ev_int (ea_cons (ev_var rfl) ea_nil)) (by omega)) (fun i ρ => (∀ j, j < i → fourF rows j = none) ∧ ∃ s10 : Sl, ρ = [.fr (.str z), .fr (.list (ls.map PyData.str)), .fr (.int (m : Nat)), .fr (.list (rows.map PyData.str)), .fr .none, .fr (.list (wss.map wwD)), .no, s7, s8, .ow (.list (wss.map fun ws => bxD (boxO rows (codeW ws)))), s10, s11]) ⟨fun j hj => absurd hj (Nat.not_lt_zero _), _, rfl⟩ ?_ ?_
    · rintro i ρ hi ⟨hb4, s10, rfl⟩
      refine ⟨_, _, gt_name, ?_⟩
      have hi1 : i + 1 < rows.length := by omega
      show ST K Ex _ [.fr (.str z), .fr (.list (ls.map PyData.str)), .fr (.int (m : Nat)), .fr (.list (rows.map PyData.str)), .fr .none, .fr (.list (wss.map wwD)), .no, s7, s8, .ow (.list (wss.map fun ws => bxD (boxO rows (codeW ws)))), .fr (.int (1 + (i : Nat))), s11] _
      rw [show (1 : Int) + ((i : Nat) : Int) = ((i + 1 : Nat) : Int) from by omega]
      obtain ⟨l1, l2⟩ := rlen i (by omega)
      obtain ⟨l3, l4⟩ := rlen (i + 1) hi1
      refine st_if (b := fourB (rows.getD i Str.empty) (rows.getD (i + 1) Str.empty)) (et_trB (ev_call (ea_cons (ev_row (k := i) rfl (ev_is (ev_op (ev_var (d := .int ((i + 1 : Nat) : Int)) rfl) ev_int od_sub) (by congr 1; omega)) (by omega)) (ea_cons (ev_row (k := i + 1) rfl (ev_var rfl) hi1) ea_nil)) ⟨_, _, rfl, by omega, by omega, rfl⟩)) (fun h => ?_) fun h => st_next ⟨fun j hj => ?_, _, rfl⟩
      · refine st_raiseO (ds := [.int ((i + 1 : Nat) : Int), .str "four"]) (ea_cons (ev_var rfl) (ea_cons ev_str ea_nil)) (by rfl) (by show 2 ≤ 1000; decide) ?_
        rw [rd_four h0 (by rw [hwe, hre]; exact h1) (by rw [hwe, hre]; exact h2) (i := i) (w' := "four") (by rw [hre]; exact firstO_some (by omega) hb4 (by unfold fourF; rw [if_pos h]))]
        rfl
      · by_cases ej : j = i
        · rw [ej]
          unfold fourF
          rw [if_neg (by rw [h]; exact Bool.false_ne_true)]
        · exact hb4 j (by omega)
    · rintro ρ ⟨hb4, s10, rfl⟩
      have h3 : firstO (fourF rows) (m - 1) = none := firstO_none fun j hj => hb4 j (by omega)
      rw [rd_ok h0 (by rw [hwe, hre]; exact h1) (by rw [hwe, hre]; exact h2) (by rw [hre]; exact h3), hwe, hre]
      refine q_frz (i := 9) rfl ?_
      have h00 : 0 < rows.length := List.length_pos_iff.mpr rne
      have := (rlen 0 h00).2
      refine st_ret (ev_tup (ds := [.tuple ((wss.map fun ws => ws.getD 1 Str.empty).map PyData.str), .int ((rows.getD 0 Str.empty).length : Nat), .int (m : Nat), .tuple ((wss.map fun ws => boxO rows (codeW ws)).map bxD)])
        (ea_cons (ev_cb (ea_cons (ev_N (en_is (en_lc (n := wss.length) (b := fun _ => true) (f := fun i => .str ((wss.getD i []).getD 1 Str.empty)) (ei_words (ev_var rfl)) (by omega) ?_) (by rw [lc_map (h := fun ws : List Str => PyData.str (ws.getD 1 Str.empty)) [] wss, List.map_map]; rfl))) ea_nil) cd_tupL) (ea_cons (ev_cb (ea_cons (ev_row (k := 0) rfl ev_int h00) ea_nil) (cd_lenS (by rw [sizeLine_eq]; omega))) (ea_cons (ev_var rfl) (ea_cons (ev_cb (ea_cons (ev_is (ev_var rfl) (by rw [List.map_map]; rfl)) ea_nil) cd_tupL) ea_nil)))) s4) (by rfl)
      intro i hi
      obtain ⟨b, e1, e3, e2⟩ := two i hi
      rw [e1]
      exact ⟨_, _, gt_unl rfl (gts_cons gt_name (gts_cons gt_name gts_nil)), by simp, et_yes, fun _ => ev_is (ev_var rfl) (by rw [e3])⟩
theorem ok_read_picture (T : Txt K mg) (hd : FnP K "read_picture" s_read_picture) (hm : mg "read_picture" = some (.ref (He.ga K "read_picture"))) (O_text_lines : Okd P w K mg base CX0 1 "text_lines" ["text"] (sp_text_lines K)) (O_sign_lines_fault : Okd P w K mg base CX0 4 "sign_lines_fault" ["lines"] (sp_sign_lines_fault K)) (O_shown_fault : Okd P w K mg base CX0 1 "shown_fault" ["shown", "known"] (sp_shown_fault K)) (O_words_of : Okd P w K mg base CX0 1 "words_of" ["line"] (sp_words_of K)) (O_sign_fault : Okd P w K mg base CX0 2 "sign_fault" ["shown", "sign"] (sp_sign_fault K)) (O_four_signs_meet : Okd P w K mg base CX0 1 "four_signs_meet" ["upper", "lower"] (sp_four_signs_meet K)) (O_sign_box : Okd P w K mg base CX0 2 "sign_box" ["shown", "sign"] (sp_sign_box K)) (X_BadText : ExOk P w K mg base 1 "BadText" ["line", "word"]) : Okd P w K mg base (L2N.CX P w) 5 "read_picture" ["text"] (sp_read_picture K) := by
  obtain ⟨fd, F⟩ := hd
  refine ⟨hm, fd, fn_pxC F sc_read_picture ?_ ?_ (fun cdv A outer s H E hr => ⟨_, dv_read_picture T O_text_lines O_sign_lines_fault O_shown_fault O_words_of O_sign_fault O_four_signs_meet O_sign_box X_BadText cdv A outer s H E hr, ?_, ?_⟩), F.bindsN (fun _ _ _ _ _ _ us hl => match us, hl with | [_], _ => rfl), F.kp⟩
  · rintro ds d ⟨x0, rfl, _⟩
    rfl
  · rintro ds C fl ⟨x0, rfl, _⟩
    rfl
  · rintro ds d ⟨z, rfl, hz, rs, w', h, bs, hr, rfl⟩
    refine ST.mono (P := fun o => o = outc K (readT z)) (walk_read hz T) fun o h => .inl ?_
    rw [h, hr]
    rfl
  · rintro ds C fl ⟨z, rfl, hz, l, w', hr, rfl, rfl⟩
    refine ST.mono (P := fun o => o = outc K (readT z)) (walk_read hz T) fun o h => ?_
    rw [h, hr]
    rfl
theorem ok_u_law_name (T : Txt K mg) (hd : FnP K "_law_name" s_u_law_name) (hm : mg "_law_name" = some (.ref (He.ga K "_law_name")))  : Okd P w K mg base CX0 1 "_law_name" ["thing"] (sp_u_law_name K) := by
  obtain ⟨fd, F⟩ := hd
  refine ⟨hm, fd, fn_pf F sc_u_law_name ?_ (fun cdv A outer s H E hr => ⟨_, dv_u_law_name T  cdv A outer s H E hr, ?_⟩), F.bindsN (fun _ _ _ _ _ _ us hl => match us, hl with | [_], _ => rfl), F.kp⟩
  · rintro ds d ⟨x0, rfl, _⟩
    rfl
  · rintro ds d ⟨z, rfl, hz, rfl⟩
    refine ST.mono (P := fun o => o = .rt (.bool (nameB z))) ?_ fun o h => .inl h
    show ST K E0 (t_u_law_name K) [.fr (.str z), .no] _
    unfold t_u_law_name
    have hz' : z.length ≤ sizeLine := by rw [sizeLine_eq]; omega
    have hl := DL.len_list z
    refine q_when (b := !lenOk z) (et_is (et_or (et_test (ev_op (ev_cb (ea_cons (ev_var rfl) ea_nil) (cd_lenS hz')) ev_int od_cmpI)) fun _ => et_test (ev_op (ev_cb (ea_cons (ev_var rfl) ea_nil) (cd_lenS hz')) ev_int od_cmpI)) ?_) (fun hb => st_ret ev_bl ?_) fun hb => ?_
    · unfold lenOk
      by_cases h1 : (z.length : Int) < 1
      · rw [decide_eq_true h1, decide_eq_false (by omega : ¬ (1 ≤ (z.length : Int)))]; rfl
      · rw [decide_eq_false h1, decide_eq_true (by omega : (1 ≤ (z.length : Int)))]
        by_cases h2 : (z.length : Int) > 8
        · rw [decide_eq_true h2, decide_eq_false (by omega : ¬ ((z.length : Int) ≤ 8))]; rfl
        · rw [decide_eq_false h2, decide_eq_true (by omega : ((z.length : Int) ≤ 8))]; rfl
    · show Oc.rt (.bool false) = Oc.rt (.bool (isNoneD (if lenOk z = true then _ else _)))
      rw [if_neg (by simpa using hb)]
      rfl
    refine q_for (ei_rng1 (ea_cons (ev_cb (ea_cons (ev_var rfl) ea_nil) (cd_lenS hz')) ea_nil) (by omega) (by omega)) (fun i ρ => (∀ j, j < i → badAt z j = false) ∧ ∃ s, ρ = [.fr (.str z), s]) ⟨fun j hj => absurd hj (Nat.not_lt_zero _), _, rfl⟩ ?_ ?_
    · rintro i ρ hi ⟨hb2, s, rfl⟩
      have hi : i < z.cps.toList.length := by omega
      refine ⟨_, _, gt_name, ?_⟩
      have hc : ∀ {ρ : List Sl}, ρ[0]? = some (.fr (.str z)) → ρ[1]? = some (.fr (.int (i : Nat))) → EV K (tOp (rIx K) (tVar 0) (tVar 1)) ρ (.str ⟨#[z.cps.toList.getD i 0]⟩) := fun h0 h1 => ev_op (ev_var h0) (ev_var h1) (od_ixS hz' (ch_at (by omega) (by omega)))
      have hg : z.cps.toList.getD i 0 = z.cps.getD i 0 := by
        rw [List.getD_eq_getElem?_getD, Array.getElem?_toList, Array.getD_eq_getD_getElem?]
      rw [hg] at hc
      refine st_if (b := badAt z i) (et_and (et_test (ev_op (hc (by rfl) (by rfl)) ev_str od_ninC)) fun _ => et_or (et_test (ev_op (ev_var (by rfl)) ev_int od_eqI)) fun _ => et_test (ev_op (hc (by rfl) (by rfl)) ev_str od_ninC)) (fun hb3 => st_ret ev_bl ?_) (fun hb3 => st_next ?_)
      · show Oc.rt (.bool false) = Oc.rt (.bool (isNoneD (if lenOk z = true then _ else _)))
        rw [if_pos (by simpa using hb), firstP_some (by rw [← Array.length_toList]; exact hi) hb2 hb3]
        rfl
      · refine ⟨fun j hj => ?_, _, rfl⟩
        by_cases e : j = i
        · rw [e]; exact hb3
        · exact hb2 j (by omega)
    · rintro ρ ⟨hb2, s, rfl⟩
      refine st_ret ev_bl ?_
      show Oc.rt (.bool true) = Oc.rt (.bool (isNoneD (if lenOk z = true then _ else _)))
      rw [if_pos (by simpa using hb), firstP_none fun j hj => hb2 j (by rw [← Array.length_toList] at hj; omega)]
      rfl
theorem sg40 : (sgT 40).cps.toList = SG.cps.toList := by rw [sgT_list, List.take_of_length_le (by rw [SG_len]; exact Nat.le_refl _)]
theorem name_pos {b : Str} (h : nameB b = true) : ltS Str.empty b = true := by
  have h1 : lenOk b = true := by
    cases hq : lenOk b with
    | true => rfl
    | false =>
      unfold nameB nfS at h
      rw [hq] at h
      cases h
  unfold lenOk at h1
  have h2 := (Bool.and_eq_true_iff.mp h1).1
  have h3 : 1 ≤ (b.length : Int) := of_decide_eq_true h2
  rw [DL.len_list] at h3
  unfold ltS
  refine decide_eq_true ?_
  cases hb : b.cps.toList with
  | nil =>
    rw [hb] at h3
    simp at h3
  | cons x l => exact List.nil_lt_cons x l
def secW (wss : List (List Str)) : List Str := wss.map fun ws => ws.getD 1 Str.empty
theorem secW_succ {wss : List (List Str)} {i : Nat} (h : i < wss.length) : secW (wss.take (i + 1)) = secW (wss.take i) ++ [(wss.getD i []).getD 1 Str.empty] := by
  unfold secW
  rw [take_one h [], List.map_append]
  rfl
theorem secW_len (wss : List (List Str)) {i : Nat} (h : i ≤ wss.length) : (secW (wss.take i)).length = i := by
  unfold secW
  rw [List.length_map, List.length_take]
  omega
theorem firstsW_len (wss : List (List Str)) {i : Nat} (h : i ≤ wss.length) : (firstsW (wss.take i)).length = i := by
  unfold firstsW
  rw [List.length_map, List.length_take]
  omega
theorem ev_told {ρ : List Sl} {m i : Nat} {f : Str} (h4 : ρ[4]? = some (.fr (.int ((m + 1 + i : Nat) : Int)))) : EV K (tTup (tCons (tTup (tCons (tOp (rAddU K) (tVar 4) (tC (.int 1))) (tCons (tC (.str f)) tNil))) (tCons (tLst tNil) (tCons (tLst tNil) tNil)))) ρ (told2D (some ((m : Int) + 2 + (i : Nat), f)) [] []) :=
  ev_tup (ds := [.tuple [.int ((m : Int) + 2 + (i : Nat)), .str f], .list [], .list []]) (ea_cons (ev_tup (ea_cons (ev_is (ev_op (ev_var h4) ev_int od_addI) (by congr 1; omega)) (ea_cons ev_str ea_nil)) s2) (ea_cons (ev_N (en_lst ea_nil (Nat.zero_le _))) (ea_cons (ev_N (en_lst ea_nil (Nat.zero_le _))) ea_nil))) (by show 3 ≤ sizeLine; rw [sizeLine_eq]; decide)
theorem toldR_some {ls : List Str} {m i : Nat} {f : Str} (h : linesF (ls.drop (m + 1)) = some (i, f)) : toldR ls m = told2D (some ((m : Int) + 2 + (i : Nat), f)) [] [] := by
  unfold toldR
  rw [h]
theorem toldR_none {ls : List Str} {m : Nat} (h : linesF (ls.drop (m + 1)) = none) : toldR ls m = told2D none (firstsW ((ls.drop (m + 1)).map wordsT)) (secW ((ls.drop (m + 1)).map wordsT)) := by
  unfold toldR
  rw [h]
  rfl
theorem getD_drop {ls : List Str} {m i : Nat} : (ls.drop m).getD i Str.empty = ls.getD (m + i) Str.empty := by
  rw [List.getD_eq_getElem?_getD, List.getD_eq_getElem?_getD, List.getElem?_drop]
theorem ok_u_law_told (T : Txt K mg) (hd : FnP K "_law_told" s_u_law_told) (hm : mg "_law_told" = some (.ref (He.ga K "_law_told"))) (O_u_law_name : Okd P w K mg base CX0 1 "_law_name" ["thing"] (sp_u_law_name K)) (O_u_law_signs : Okd P w K mg base CX0 1 "_law_signs" ["many"] (sp_u_law_signs K)) : Okd P w K mg base CX0 2 "_law_told" ["lines", "end"] (sp_u_law_told K) := by
  obtain ⟨fd, F⟩ := hd
  refine ⟨hm, fd, fn_pf F sc_u_law_told ?_ (fun cdv A outer s H E hr => ⟨_, dv_u_law_told T O_u_law_name O_u_law_signs cdv A outer s H E hr, ?_⟩), F.bindsN (fun _ _ _ _ _ _ us hl => match us, hl with | [_, _], _ => rfl), F.kp⟩
  · rintro ds d ⟨x0, x1, rfl, _⟩
    rfl
  · rintro ds d ⟨ls, m, rfl, hm, hn, hl, rfl⟩
    refine ST.mono (P := fun o => o = .rt (toldR ls m)) ?_ fun o h => .inl h
    show ST K E0 (t_u_law_told K) [.fr (.list (ls.map PyData.str)), .fr (.int (m : Nat)), .no, .no, .no, .no, .no] _
    unfold t_u_law_told sp_u_law_signs sp_u_law_name
    refine q_asgN (d := .list []) (en_lst ea_nil (by decide)) ?_
    refine q_asgN (d := .list []) (en_lst ea_nil (by decide)) ?_
    have hdl : (ls.drop (m + 1)).length = ls.length - (m + 1) := List.length_drop
    have hml : ((ls.drop (m + 1)).map wordsT).length = ls.length - (m + 1) := by rw [List.length_map, hdl]
    generalize hwe : (ls.drop (m + 1)).map wordsT = wss at *
    have e0 : ls.drop (m + 1) ≠ [] → linesF (ls.drop (m + 1)) = toldF 0 wss [] Str.empty := fun h => by
      unfold linesF
      rw [if_neg h, hwe]
    refine q_for (ei_rng2 (m := (m : Int) + 1) (n := ls.length) (ea_cons (ev_op (ev_var (d := .int (m : Nat)) rfl) ev_int od_addI) (ea_cons (ev_is (d := .int (((ls.map PyData.str).length : Nat) : Int)) (ev_cb (ea_cons (ev_var rfl) ea_nil) cd_lenL) (by rw [List.length_map])) ea_nil)) (by omega)) (fun i ρ => i ≤ wss.length ∧ (∀ j, j < i → signF (wss.getD j []) (stepN wss j).1 (stepN wss j).2 = none) ∧ ∃ s4 s5 s6 : Sl, ρ = [.fr (.list (ls.map PyData.str)), .fr (.int (m : Nat)), .ow (.list ((firstsW (wss.take i)).map PyData.str)), .ow (.list ((secW (wss.take i)).map PyData.str)), s4, s5, s6]) ⟨Nat.zero_le _, fun j hj => absurd hj (Nat.not_lt_zero _), _, _, _, rfl⟩ ?_ ?_
    · rintro i ρ hi ⟨_, hb, s4', s5, s6, rfl⟩
      have hi' : i < wss.length := by omega
      have hne : ls.drop (m + 1) ≠ [] := fun e => by
        rw [e] at hdl
        simp at hdl
        omega
      refine ⟨_, _, gt_name, ?_⟩
      rw [show (m : Int) + 1 + ((i : Nat) : Int) = ((m + 1 + i : Nat) : Int) from by omega]
      have ew : wss.getD i [] = wordsT (ls.getD (m + 1 + i) Str.empty) := by
        rw [← hwe, getD_map (by rw [hdl]; omega) Str.empty [], getD_drop]
      have hz := hl _ (DL.getD_mem (z := Str.empty) (show m + 1 + i < ls.length by omega))
      refine q_asg (d := .list ((wordsT (ls.getD (m + 1 + i) Str.empty)).map PyData.str)) (ev_N (en_words (n := 6) (by simp) (by show 6 < 7; decide) (ev_row (k := m + 1 + i) rfl (ev_var rfl) (by omega)) (by omega))) ?_
      rw [← ew]
      have wz : ∀ w ∈ wss.getD i [], w.length ≤ 4000 := fun w hw => by
        rw [ew] at hw
        have := words_len w hw
        omega
      have ret : ∀ {f : Str}, signF (wss.getD i []) (stepN wss i).1 (stepN wss i).2 = some f → toldR ls m = told2D (some ((m : Int) + 2 + (i : Nat), f)) [] [] := fun hf => toldR_some (by rw [e0 hne]; exact told_some hi' hb hf)
      generalize hws : wss.getD i [] = ws at *
      show ST K E0 _ [.fr (.list (ls.map PyData.str)), .fr (.int (m : Nat)), .ow (.list ((firstsW (wss.take i)).map PyData.str)), .ow (.list ((secW (wss.take i)).map PyData.str)), .fr (.int ((m + 1 + i : Nat) : Int)), .fr (.list (ws.map PyData.str)), s6] _
      refine q_when (b := decide (ws.length ≠ 2)) (et_is (et_test (ev_op (ev_cb (ea_cons (ev_var (d := .list (ws.map PyData.str)) rfl) ea_nil) cd_lenL) ev_int od_neI)) (by rw [List.length_map]; by_cases h : ws.length = 2 <;> simp [h]; omega)) (fun h => st_ret (ev_told rfl) ?_) fun h => ?_
      · rw [ret (signF_ne (of_decide_eq_true h) _ _)]
        rfl
      have h2 : ws.length = 2 := by simpa using h
      obtain ⟨a, b, rfl⟩ := two_of h2
      clear h h2
      have hbz : b.length ≤ 4000 := wz b (by simp)
      have haz : a.length ≤ 4000 := wz a (by simp)
      have at_a : ∀ (ρ : List Sl), ρ[5]? = some (.fr (.list ([a, b].map PyData.str))) → EV K (tOp (rIx K) (tVar 5) (tC (.int 0))) ρ (.str a) := fun ρ h => ev_op (ev_var h) ev_int (od_ixL (by rfl))
      have at_b : ∀ (ρ : List Sl), ρ[5]? = some (.fr (.list ([a, b].map PyData.str))) → EV K (tOp (rIx K) (tVar 5) (tC (.int 1))) ρ (.str b) := fun ρ h => ev_op (ev_var h) ev_int (od_ixL (by rfl))
      rw [signF_two] at ret
      by_cases h1 : a.length = 1
      case neg =>
        refine q_yes (et_or1 (et_is (et_test (ev_op (ev_cb (ea_cons (at_a _ rfl) ea_nil) (cd_lenS (by rw [sizeLine_eq]; omega))) ev_int od_neI)) (by simp; omega))) (st_ret (ev_told rfl) ?_)
        rw [ret (if_pos fun k => h1 k.1)]
        rfl
      obtain ⟨c, rfl⟩ : ∃ c, a = oneS c := ⟨_, one_of h1⟩
      have e40 : EV K (tCall (sp_u_law_signs K) [] E0 (tCons (tC (.int 40)) tNil)) [.fr (.list (ls.map PyData.str)), .fr (.int (m : Nat)), .ow (.list ((firstsW (wss.take i)).map PyData.str)), .ow (.list ((secW (wss.take i)).map PyData.str)), .fr (.int ((m + 1 + i : Nat) : Int)), .fr (.list ([oneS c, b].map PyData.str)), s6] (.str (sgT 40)) := ev_call (ea_cons ev_int ea_nil) ⟨40, rfl, by decide, rfl⟩
      refine q_when (b := !decide (c ∈ SG.cps.toList)) (et_is (et_or (et_is (b := false) (et_test (ev_op (ev_cb (ea_cons (at_a _ rfl) ea_nil) (cd_lenS (by rw [sizeLine_eq]; show 1 ≤ _; decide))) ev_int od_neI)) (by rfl)) (fun _ => et_test (ev_op (d1 := .str (oneS c)) (d := .bool (!decide (c ∈ SG.cps.toList))) (at_a _ rfl) e40 (by rw [← sg40]; exact od_ninC (c := c) (z := sgT 40))))) (Bool.false_or _)) (fun h => st_ret (ev_told rfl) ?_) fun h => ?_
      · rw [ret (if_pos fun k => by
          have : c ∈ SG.cps.toList := k.2
          rw [decide_eq_true this] at h
          cases h)]
        rfl
      have hc : c ∈ SG.cps.toList := by simpa using h
      rw [if_neg (fun k => k ⟨h1, hc⟩)] at ret
      refine q_when (b := !nameB b) (et_not (et_trB (ev_call (ea_cons (at_b _ rfl) ea_nil) ⟨b, rfl, by omega, rfl⟩))) (fun h => st_ret (ev_told rfl) ?_) fun h => ?_
      · rw [ret (if_pos (by simpa using h))]
        rfl
      have hnb : nameB b = true := by simpa using h
      rw [if_neg (by rw [hnb]; exact Bool.noConfusion)] at ret
      refine q_when (b := decide (oneS c ∈ firstsW (wss.take i))) (et_is (et_test (ev_inO (n := 2) (at_a _ rfl) rfl rfl (strs_flat _))) inD_str) (fun h => st_ret (ev_told rfl) ?_) fun h => ?_
      · rw [ret (if_pos (of_decide_eq_true h))]
        rfl
      have hna : oneS c ∉ (stepN wss i).1 := of_decide_eq_false h
      rw [if_neg hna] at ret
      have hsl := secW_len wss (Nat.le_of_lt hi')
      refine q_when (b := !ltS (stepN wss i).2 b) (et_is (et_and (a := decide (0 < i)) (b := !ltS (stepN wss i).2 b) (et_is (et_test (ev_op (ev_lenO (n := 3) rfl) ev_int od_cmpI)) (decide_eq_decide.mpr (by rw [List.length_map, hsl]; omega))) fun hp => ?_) ?_) (fun h => st_ret (ev_told rfl) ?_) fun h => ?_
      · have hp := of_decide_eq_true hp
        refine et_not (et_test (ev_op (d1 := .str (stepN wss i).2) (ev_ixO (n := 3) rfl (ev_is (ev_op (ev_lenO (n := 3) rfl) ev_int od_sub) (e := .int ((i - 1 : Nat) : Int)) (by rw [List.length_map, hsl]; congr 1; omega)) ?_) (at_b _ rfl) od_cmpS))
        rw [atI_strs (by omega) (by rw [hsl]; omega), Int.toNat_natCast]
        congr 2
        unfold stepN secW
        rw [if_neg (by omega), getD_map (by rw [List.length_take]; omega) []]
        congr 1
        rw [List.getD_eq_getElem?_getD, List.getD_eq_getElem?_getD, List.getElem?_take, if_pos (by omega)]
      · by_cases hp : 0 < i
        · rw [decide_eq_true hp, Bool.true_and]
        · obtain rfl : i = 0 := by omega
          rw [show (stepN wss 0).2 = Str.empty from rfl, name_pos hnb]
          rfl
      · rw [ret (if_neg (by rw [show ltS (stepN wss i).2 b = false by simpa using h]; exact Bool.false_ne_true))]
        rfl
      have hlt : ltS (stepN wss i).2 b = true := by simpa using h
      have hfl := firstsW_len wss (Nat.le_of_lt hi')
      refine q_append (n := 2) rfl (at_a _ rfl) (by rw [List.length_map, hfl]; omega) ?_
      refine st_append (n := 3) rfl (at_b _ rfl) (by rw [List.length_map, hsl]; omega) ⟨hi', fun j hj => ?_, .fr (.int ((m + 1 + i : Nat) : Int)), .fr (.list ([oneS c, b].map PyData.str)), s6, ?_⟩
      · by_cases ej : j = i
        · rw [ej, hws, signF_two, if_neg (fun k => k ⟨h1, hc⟩), if_neg (by rw [hnb]; exact Bool.noConfusion), if_neg hna, if_pos hlt]
        · exact hb j (by omega)
      · rw [firstsW_succ hi', secW_succ hi', hws, List.map_append, List.map_append]
        rfl
    · rintro ρ ⟨_, hb, s4', s5, s6, rfl⟩
      have hk : ((ls.length : Int) - ((m : Int) + 1)).toNat = wss.length := by omega
      rw [hk] at hb ⊢
      rw [List.take_length]
      have hsl : (secW wss).length = wss.length := by unfold secW; rw [List.length_map]
      refine q_when (b := decide (wss.length = 0)) (et_is (et_test (ev_op (ev_lenO (n := 3) rfl) ev_int od_eqI)) (decide_eq_decide.mpr (by rw [List.length_map, hsl]; omega))) (fun h => ?_) fun h => ?_
      · have h := of_decide_eq_true h
        have he : ls.drop (m + 1) = [] := List.length_eq_zero_iff.mp (by rw [hdl]; omega)
        have hr : toldR ls m = told2D (some ((m : Int) + 2 + ((0 : Nat) : Int), "lacks")) [] [] := toldR_some (by rw [he]; rfl)
        refine st_ret (ev_tup (ds := [.tuple [.int ((m : Int) + 2 + ((0 : Nat) : Int)), .str "lacks"], .list [], .list []]) (ea_cons (ev_tup (ea_cons (ev_is (ev_op (ev_cb (ea_cons (ev_var (d := .list (ls.map PyData.str)) rfl) ea_nil) cd_lenL) ev_int od_addI) (by rw [List.length_map]; congr 1; omega)) (ea_cons ev_str ea_nil)) s2) (ea_cons (ev_N (en_lst ea_nil (Nat.zero_le _))) (ea_cons (ev_N (en_lst ea_nil (Nat.zero_le _))) ea_nil))) (by show 3 ≤ sizeLine; rw [sizeLine_eq]; decide)) ?_
        rw [hr]
        rfl
      have h := of_decide_eq_false h
      have hne : ls.drop (m + 1) ≠ [] := fun e => by
        rw [e] at hdl
        simp at hdl
        omega
      have hr := toldR_none (ls := ls) (m := m) (by rw [e0 hne]; exact told_none hb)
      rw [hwe] at hr
      refine q_frz (i := 2) rfl ?_
      refine q_frz (i := 3) rfl ?_
      refine st_ret (ev_tup (ds := [.none, .list ((firstsW wss).map PyData.str), .list ((secW wss).map PyData.str)]) (ea_cons ev_non (ea_cons (ev_var rfl) (ea_cons (ev_var rfl) ea_nil))) (by show 3 ≤ sizeLine; rw [sizeLine_eq]; decide)) ?_
      rw [hr]
      rfl
theorem ev_gridR {ρ : List Sl} {rows sg : List Str} {i : Nat} {f : Str} (h3 : ρ[3]? = some (.fr (.int (i : Nat)))) (h : gridF rows sg = some (i, f)) : EV K (tTup (tCons (tOp (rAddU K) (tVar 3) (tC (.int 1))) (tCons (tC (.str f)) tNil))) ρ (gridR rows sg) := by
  unfold gridR
  rw [h]
  exact ev_tup (ds := [.int (1 + (i : Nat)), .str f]) (ea_cons (ev_is (ev_op (ev_var h3) ev_int od_addI) (by congr 1; omega)) (ea_cons ev_str ea_nil)) s2
theorem ok_u_law_grid (T : Txt K mg) (hd : FnP K "_law_grid" s_u_law_grid) (hm : mg "_law_grid" = some (.ref (He.ga K "_law_grid")))  : Okd P w K mg base CX0 1 "_law_grid" ["lines", "end", "signs"] (sp_u_law_grid K) := by
  obtain ⟨fd, F⟩ := hd
  refine ⟨hm, fd, fn_pf F sc_u_law_grid ?_ (fun cdv A outer s H E hr => ⟨_, dv_u_law_grid T  cdv A outer s H E hr, ?_⟩), F.bindsN (fun _ _ _ _ _ _ us hl => match us, hl with | [_, _, _], _ => rfl), F.kp⟩
  · rintro ds d ⟨x0, x1, x2, rfl, _⟩
    rfl
  · rintro ds d ⟨ls, sg, m, rfl, hm, hn, hl, hs, rfl⟩
    refine ST.mono (P := fun o => o = .rt (gridR (ls.take m) sg)) ?_ fun o h => .inl h
    show ST K E0 (t_u_law_grid K) [.fr (.list (ls.map PyData.str)), .fr (.int (m : Nat)), .fr (.list (sg.map PyData.str)), .no, .no] _
    unfold t_u_law_grid
    have hrl : (ls.take m).length = m := by rw [List.length_take]; omega
    have h00 : 0 < ls.length := by omega
    have hz0 := hl _ (DL.getD_mem (z := Str.empty) h00)
    have row : ∀ i, i < m → (ls.take m).getD i Str.empty = ls.getD i Str.empty := fun i h => getD_take h
    generalize hre : ls.take m = rows at *
    refine q_for (ei_rng1 (ea_cons (ev_var (d := .int (m : Nat)) rfl) ea_nil) (by omega) (by omega)) (fun i ρ => (∀ j, j < i → rowF rows sg j = none) ∧ ∃ s3 s4 : Sl, ρ = [.fr (.list (ls.map PyData.str)), .fr (.int (m : Nat)), .fr (.list (sg.map PyData.str)), s3, s4]) ⟨fun j hj => absurd hj (Nat.not_lt_zero _), _, _, rfl⟩ ?_ ?_
    · rintro i ρ hi ⟨hb, s3, s4', rfl⟩
      have hi : i < m := by omega
      have hi2 : i < rows.length := by omega
      have hg : ∀ f, rowF rows sg i = some f → gridF rows sg = some (i, f) := fun f hf => by
        unfold gridF
        rw [if_neg (fun e => by rw [e] at hi2; exact absurd hi2 (Nat.not_lt_zero _)), firstO_some hi2 hb hf]
      refine ⟨_, _, gt_name, ?_⟩
      have hz := hl _ (DL.getD_mem (z := Str.empty) (show i < ls.length by omega))
      have er : rowF rows sg i = if (decide (rows.getD i Str.empty = ("" : Str)) || decide ((rows.getD i Str.empty).length ≠ (rows.getD 0 Str.empty).length)) = true then (some "width" : Option Str) else if (decide (160 < (rows.getD i Str.empty).length) || decide (160 ≤ i)) = true then (some "limit" : Option Str) else if ((rows.getD i Str.empty).cps.toList.all fun c => decide (oneS c ∈ sg)) = true then none else (some "unknown" : Option Str) := rfl
      rw [row i hi, row 0 (by omega)] at er
      have line : ∀ (ρ : List Sl), ρ[0]? = some (.fr (.list (ls.map PyData.str))) → ρ[3]? = some (.fr (.int (i : Nat))) → EV K (tOp (rIx K) (tVar 0) (tVar 3)) ρ (.str (ls.getD i Str.empty)) := fun ρ h0 h3 => ev_row (k := i) h0 (ev_var h3) (by omega)
      generalize hze : ls.getD i Str.empty = z at *
      show ST K E0 _ [.fr (.list (ls.map PyData.str)), .fr (.int (m : Nat)), .fr (.list (sg.map PyData.str)), .fr (.int (i : Nat)), s4'] _
      refine q_when (b := decide (z = ("" : Str)) || decide (z.length ≠ (ls.getD 0 Str.empty).length)) (et_or (et_test (ev_op (line _ rfl rfl) ev_str od_eqS)) fun _ => et_is (et_test (ev_op (ev_cb (ea_cons (line _ rfl rfl) ea_nil) (cd_lenS (by rw [sizeLine_eq]; omega))) (ev_cb (ea_cons (ev_row (k := 0) rfl ev_int h00) ea_nil) (cd_lenS (by rw [sizeLine_eq]; omega))) od_neI)) (by by_cases k : z.length = (ls.getD 0 Str.empty).length <;> simp [k]; omega)) (fun h => ?_) fun h => ?_
      · exact st_ret (ev_gridR rfl (hg "width" (by rw [er, if_pos h]))) (by rfl)
      rw [if_neg (by rw [h]; exact Bool.false_ne_true)] at er
      refine q_when (b := decide (160 < z.length) || decide (160 ≤ i)) (et_or (et_is (et_test (ev_op (ev_cb (ea_cons (line _ rfl rfl) ea_nil) (cd_lenS (by rw [sizeLine_eq]; omega))) ev_int od_cmpI)) (decide_eq_decide.mpr (by omega))) fun _ => et_is (et_test (ev_op (ev_var (d := .int (i : Nat)) rfl) ev_int od_cmpI)) (decide_eq_decide.mpr (by omega))) (fun h => ?_) fun h => ?_
      · exact st_ret (ev_gridR rfl (hg "limit" (by rw [er, if_pos h]))) (by rfl)
      rw [if_neg (by rw [h]; exact Bool.false_ne_true)] at er
      refine st_for (ei_mono (ei_str (z := z) (line _ rfl rfl)) fun k hk => chD_one z k) (fun k ρ => (∀ j, j < k → oneS (z.cps.getD j 0) ∈ sg) ∧ ∃ s4 : Sl, ρ = [.fr (.list (ls.map PyData.str)), .fr (.int (m : Nat)), .fr (.list (sg.map PyData.str)), .fr (.int (i : Nat)), s4]) ⟨fun j hj => absurd hj (Nat.not_lt_zero _), _, rfl⟩ ?_ ?_
      · rintro k ρ hk ⟨hgd, s4', rfl⟩
        refine ⟨_, _, gt_name, ?_⟩
        refine st_if (b := !decide (oneS (z.cps.getD k 0) ∈ sg)) (et_is (et_test (ev_op (d1 := .str (oneS (z.cps.getD k 0))) (ev_var rfl) (ev_var (d := .list (sg.map PyData.str)) (by rfl)) (od_ninL rfl (strs_flat _)))) (by rw [inD_str])) (fun h => ?_) fun h => st_next ⟨fun j hj => ?_, _, rfl⟩
        · refine st_ret (ev_gridR (by rfl) (hg "unknown" ?_)) (by rfl)
          rw [er, if_neg]
          intro hall
          have := List.all_eq_true.mp hall (z.cps.getD k 0) (by
            rw [List.mem_iff_getElem?]
            exact ⟨k, ix_sg hk⟩)
          rw [this] at h
          cases h
        · by_cases ej : j = k
          · rw [ej]
            simpa using h
          · exact hgd j (by omega)
      · rintro ρ ⟨hgd, s4', rfl⟩
        refine ⟨fun j hj => ?_, _, _, rfl⟩
        by_cases ej : j = i
        · rw [ej, er, if_pos]
          refine List.all_eq_true.mpr fun c hc => ?_
          obtain ⟨k, hk, ek⟩ := List.mem_iff_getElem.mp hc
          rw [Array.length_toList] at hk
          have := ix_sg (sg := z) hk
          rw [List.getElem?_eq_getElem (by rw [Array.length_toList]; exact hk), ek] at this
          have := Option.some.inj this
          rw [this]
          exact decide_eq_true (hgd k hk)
        · exact hb j (by omega)
    · rintro ρ ⟨hb, s3, s4', rfl⟩
      rw [Int.toNat_natCast] at hb
      refine st_ret (ev_ite (b := decide (m = 0)) (d1 := .tuple [.int 1, .str "width"]) (d2 := .none) (et_is (et_test (ev_op (ev_var (d := .int (m : Nat)) rfl) ev_int od_eqI)) (decide_eq_decide.mpr (by omega))) (fun _ => ev_tup (ea_cons ev_int (ea_cons ev_str ea_nil)) s2) fun _ => ev_non) ?_
      by_cases h0 : m = 0
      · have : rows = [] := List.length_eq_zero_iff.mp (by omega)
        rw [decide_eq_true h0, this]
        rfl
      · rw [decide_eq_false h0]
        have hg : gridF rows sg = none := by
          unfold gridF
          rw [if_neg (fun e => by rw [e] at hrl; exact h0 hrl.symm), firstO_none fun j hj => hb j (by omega)]
        unfold gridR
        rw [hg]
        rfl
theorem find_none {z : Str} {c : Nat} (h : c ∉ z.cps.toList) : Txt.find z (oneS c) = -1 := by
  rcases find_whole z (oneS c) with ⟨e, _⟩ | ⟨i, _, ha, _⟩
  · exact e
  · exact absurd (List.mem_of_getElem? (at_one.mp ha)) h
theorem getG_same (kvs : List (Key × D)) (k : Key) (d : D) : getG (putG kvs k d) k = some d := by
  unfold putG getG
  by_cases h : (kvs.any fun kv => decide (kv.1 = k)) = true
  · rw [if_pos h]
    obtain ⟨x, hx, hk⟩ := List.any_eq_true.mp h
    induction kvs with
    | nil => cases hx
    | cons a l ih =>
      rw [List.map_cons, List.find?_cons]
      by_cases e : a.1 = k
      · rw [if_pos e, decide_eq_true e]
        rfl
      · rw [if_neg e, decide_eq_false e]
        rcases List.mem_cons.mp hx with rfl | hx
        · exact absurd (of_decide_eq_true hk) e
        · exact ih (List.any_eq_true.mpr ⟨x, hx, hk⟩) hx
  · rw [if_neg h, List.find?_append]
    have : (kvs.find? fun kv => decide (kv.1 = k)) = none := List.find?_eq_none.mpr fun x hx hk => h (List.any_eq_true.mpr ⟨x, hx, hk⟩)
    rw [this]
    simp
theorem getG_other (kvs : List (Key × D)) {k j : Key} (d : D) (ne : j ≠ k) : getG (putG kvs k d) j = getG kvs j := by
  unfold putG getG
  by_cases h : (kvs.any fun kv => decide (kv.1 = k)) = true
  · rw [if_pos h]
    clear h
    induction kvs with
    | nil => rfl
    | cons a l ih =>
      rw [List.map_cons, List.find?_cons, List.find?_cons]
      by_cases e : a.1 = k
      · rw [if_pos e]
        have n1 : ¬ a.1 = j := fun z => ne (z.symm.trans e)
        rw [decide_eq_false (show ¬ (a.1, d).1 = j from n1)]
        exact ih
      · rw [if_neg e]
        by_cases ej : a.1 = j
        · rw [decide_eq_true ej]
        · rw [decide_eq_false ej]
          exact ih
  · rw [if_neg h, List.find?_append]
    cases hq : kvs.find? fun kv => decide (kv.1 = j) with
    | some x => rfl
    | none =>
      have : ¬ k = j := fun z => ne z.symm
      simp [this]
theorem putG_len2 (kvs : List (Key × D)) (k : Key) (d : D) : (putG kvs k d).length ≤ kvs.length + 1 := putG_len kvs k d
theorem oneS_inj {a b : Nat} (h : oneS a = oneS b) : a = b := by
  injection h with h
  simpa using h
theorem ok_u_law_found (T : Txt K mg) (hd : FnP K "_law_found" s_u_law_found) (hm : mg "_law_found" = some (.ref (He.ga K "_law_found")))  : Okd P w K mg base CX0 1 "_law_found" ["lines", "end", "signs"] (sp_u_law_found K) := by
  obtain ⟨fd, F⟩ := hd
  refine ⟨hm, fd, fn_pq F sc_u_law_found ?_ (fun cdv A outer s H E hr => ⟨_, dv_u_law_found T  cdv A outer s H E hr, ?_⟩), F.bindsN (fun _ _ _ _ _ _ us hl => match us, hl with | [_, _, _], _ => rfl), F.kp⟩
  · rintro ds ⟨x0, x1, x2, rfl, _⟩
    rfl
  · rintro ds ⟨ls, m, cs, rfl, hm, hm2, hl, hc, nd⟩
    show ST K E0 (t_u_law_found K) [.fr (.list (ls.map PyData.str)), .fr (.int (m : Nat)), .fr (.list (cs.map fun c => PyData.str (oneS c))), .no, .no, .no, .no, .no, .no, .no] _
    unfold t_u_law_found
    have hrl : (ls.take m).length = m := by rw [List.length_take]; omega
    have row : ∀ i, i < m → (ls.take m).getD i Str.empty = ls.getD i Str.empty := fun i h => getD_take h
    refine q_asgN (d := dkD []) en_dnewK ?_
    refine q_for (ei_rng1 (ea_cons (ev_var (d := .int (m : Nat)) rfl) ea_nil) (by omega) (by omega)) (fun k ρ => ∃ (kvs : List (Key × D)) (s4 s5 s6 s7 s8 s9 : Sl), kvs.length ≤ k * 40 ∧ (∀ c ∈ cs, getG kvs (.inr (oneS c)) = fndD (fndN (ls.take m) c k)) ∧ ρ = [.fr (.list (ls.map PyData.str)), .fr (.int (m : Nat)), .fr (.list (cs.map fun c => PyData.str (oneS c))), .ow (dkD kvs), s4, s5, s6, s7, s8, s9]) ⟨[], _, _, _, _, _, _, Nat.zero_le _, fun _ _ => rfl, rfl⟩ ?_ ?_
    · rintro k ρ hk ⟨kvs, s4', s5, s6, s7, s8, s9, hkl, hkv, rfl⟩
      have hk : k < m := by omega
      refine ⟨_, _, gt_name, ?_⟩
      show ST K E0 _ [.fr (.list (ls.map PyData.str)), .fr (.int (m : Nat)), .fr (.list (cs.map fun c => PyData.str (oneS c))), .ow (dkD kvs), .fr (.int (k : Nat)), s5, s6, s7, s8, s9] _
      refine st_for (ei_map (h := fun c => PyData.str (oneS c)) 0 (zs := cs) (ev_var rfl)) (fun j ρ => ∃ (kvs : List (Key × D)) (s5 s6 s7 s8 s9 : Sl), kvs.length ≤ k * 40 + j ∧ (∀ i, i < cs.length → getG kvs (.inr (oneS (cs.getD i 0))) = fndD (fndN (ls.take m) (cs.getD i 0) (if i < j then k + 1 else k))) ∧ ρ = [.fr (.list (ls.map PyData.str)), .fr (.int (m : Nat)), .fr (.list (cs.map fun c => PyData.str (oneS c))), .ow (dkD kvs), .fr (.int (k : Nat)), s5, s6, s7, s8, s9]) ⟨kvs, _, _, _, _, _, by omega, fun i hi => by rw [if_neg (Nat.not_lt_zero _)]; exact hkv _ (DL.getD_mem hi), rfl⟩ ?_ ?_
      · rintro j ρ hj ⟨kvs, s5, s6, s7, s8, s9, hkl, hkv, rfl⟩
        refine ⟨_, _, gt_name, ?_⟩
        have hz : (ls.getD k Str.empty).length ≤ 160 := by
          rw [← row k hk]
          exact hl _ (DL.getD_mem (by omega))
        have line : ∀ (ρ : List Sl), ρ[0]? = some (.fr (.list (ls.map PyData.str))) → ρ[4]? = some (.fr (.int (k : Nat))) → EV K (tOp (rIx K) (tVar 0) (tVar 4)) ρ (.str (ls.getD k Str.empty)) := fun ρ h0 h4 => ev_row (k := k) h0 (ev_var h4) (by omega)
        have hcur := hkv j hj
        rw [if_neg (Nat.lt_irrefl j)] at hcur
        have nxt : fndN (ls.take m) (cs.getD j 0) (k + 1) = if cs.getD j 0 ∈ (ls.getD k Str.empty).cps.toList then (match fndN (ls.take m) (cs.getD j 0) k with
            | none => some (Txt.find (ls.getD k Str.empty) (oneS (cs.getD j 0)), ((ls.take m).length : Int) - 1 - (k : Nat), Txt.rfind (ls.getD k Str.empty) (oneS (cs.getD j 0)) + 1, ((ls.take m).length : Int) - (k : Nat), Txt.count (ls.getD k Str.empty) (oneS (cs.getD j 0)))
            | some (w, s, e, n, a) => some (min w (Txt.find (ls.getD k Str.empty) (oneS (cs.getD j 0))), ((ls.take m).length : Int) - 1 - (k : Nat), max e (Txt.rfind (ls.getD k Str.empty) (oneS (cs.getD j 0)) + 1), n, a + Txt.count (ls.getD k Str.empty) (oneS (cs.getD j 0)))) else fndN (ls.take m) (cs.getD j 0) k := by
          rw [← row k hk]
          rfl
        have others : ∀ (kvs2 : List (Key × D)), getG kvs2 (.inr (oneS (cs.getD j 0))) = fndD (fndN (ls.take m) (cs.getD j 0) (k + 1)) → (∀ i, i < cs.length → i ≠ j → getG kvs2 (.inr (oneS (cs.getD i 0))) = getG kvs (.inr (oneS (cs.getD i 0)))) → ∀ i, i < cs.length → getG kvs2 (.inr (oneS (cs.getD i 0))) = fndD (fndN (ls.take m) (cs.getD i 0) (if i < j + 1 then k + 1 else k)) := fun kvs2 h1 h2 i hi => by
          by_cases e : i = j
          · rw [e, if_pos (Nat.lt_succ_self j)]
            exact h1
          · rw [h2 i hi e, hkv i hi]
            by_cases l : i < j
            · rw [if_pos l, if_pos (by omega)]
            · rw [if_neg l, if_neg (by omega)]
        have inj : ∀ i, i < cs.length → i ≠ j → cs.getD i 0 ≠ cs.getD j 0 := fun i hi ne e => by
          rw [List.getD_eq_getElem?_getD, List.getD_eq_getElem?_getD, List.getElem?_eq_getElem hi, List.getElem?_eq_getElem hj] at e
          exact ne ((List.getElem_inj nd).mp e)
        generalize hce : cs.getD j 0 = c at *
        generalize hze : ls.getD k Str.empty = z at *
        show ST K E0 _ [.fr (.list (ls.map PyData.str)), .fr (.int (m : Nat)), .fr (.list (cs.map fun c => PyData.str (oneS c))), .ow (dkD kvs), .fr (.int (k : Nat)), .fr (.str (oneS c)), s6, s7, s8, s9] _
        refine q_asg (d := .int (Txt.find z (oneS c))) (ev_find (line _ rfl rfl) (ev_var rfl)) ?_
        by_cases hin : c ∈ z.cps.toList
        · rw [if_pos hin] at nxt
          have hf := find_one hin
          refine st_if (b := true) (et_is (et_test (ev_op (ev_var (d := .int (Txt.find z (oneS c))) rfl) ev_int od_cmpI)) (decide_eq_true (by rw [hf]; omega))) (fun _ => ?_) fun h => nomatch h
          refine q_asg (d := .int (Txt.rfind z (oneS c) + 1)) (ev_op (ev_rfind (line _ rfl rfl) (ev_var rfl)) ev_int od_addI) ?_
          have hdef : EV K (tTup (tCons (tVar 6) (tCons (tOp rSubU (tOp rSubU (tVar 1) (tC (.int 1))) (tVar 4)) (tCons (tVar 7) (tCons (tOp rSubU (tVar 1) (tVar 4)) (tCons (tC (.int 0)) tNil)))))) [.fr (.list (ls.map PyData.str)), .fr (.int (m : Nat)), .fr (.list (cs.map fun c => PyData.str (oneS c))), .ow (dkD kvs), .fr (.int (k : Nat)), .fr (.str (oneS c)), .fr (.int (Txt.find z (oneS c))), .fr (.int (Txt.rfind z (oneS c) + 1)), s8, s9] (.tuple [.int (Txt.find z (oneS c)), .int ((m : Int) - 1 - (k : Nat)), .int (Txt.rfind z (oneS c) + 1), .int ((m : Int) - (k : Nat)), .int 0]) :=
            ev_tup (ea_cons (ev_var rfl) (ea_cons (ev_op (ev_op (ev_var rfl) ev_int od_sub) (ev_var rfl) od_sub) (ea_cons (ev_var rfl) (ea_cons (ev_op (ev_var rfl) (ev_var rfl) od_sub) (ea_cons ev_int ea_nil))))) (by show 5 ≤ sizeLine; rw [sizeLine_eq]; decide)
          obtain ⟨w0, s0, e0, n0, a0, hbox, hnew⟩ : ∃ w0 s0 e0 n0 a0 : Int, (getG kvs (.inr (oneS c))).getD (.tuple [.int (Txt.find z (oneS c)), .int ((m : Int) - 1 - (k : Nat)), .int (Txt.rfind z (oneS c) + 1), .int ((m : Int) - (k : Nat)), .int 0]) = .tuple [.int w0, .int s0, .int e0, .int n0, .int a0] ∧
              fndN (ls.take m) c (k + 1) = some (min w0 (Txt.find z (oneS c)), (m : Int) - 1 - (k : Nat), max e0 (Txt.rfind z (oneS c) + 1), n0, a0 + Txt.count z (oneS c)) := by
            rw [nxt, hcur, hrl]
            cases hq : fndN (ls.take m) c k with
            | none =>
              refine ⟨_, _, _, _, _, rfl, ?_⟩
              rw [Int.min_self, Int.max_self, Int.zero_add]
            | some p =>
              obtain ⟨w0, s0, e0, n0, a0⟩ := p
              exact ⟨w0, s0, e0, n0, a0, rfl, rfl⟩
          refine q_asg (d := .tuple [.int w0, .int s0, .int e0, .int n0, .int a0]) (ev_is (ev_get2O (n := 3) (k := .inr (oneS c)) rfl (ev_var rfl) rfl hdef) hbox) ?_
          have ixb : ∀ (ρ : List Sl) (q : Nat) (v : Int), ρ[8]? = some (.fr (.tuple [.int w0, .int s0, .int e0, .int n0, .int a0])) → ([.int w0, .int s0, .int e0, .int n0, .int a0] : List D)[q]? = some (.int v) → EV K (tOp (rIx K) (tVar 8) (tC (.int (q : Nat)))) ρ (.int v) := fun ρ q v h8 hv => ev_op (ev_var h8) ev_int (od_ixT (atI_nat hv))
          refine q_asg (d := .int (a0 + Txt.count z (oneS c))) (ev_op (ixb _ 4 a0 rfl rfl) (ev_count (line _ rfl rfl) (ev_var rfl)) od_addI) ?_
          refine st_dputK (n := 3) (k := .inr (oneS c)) rfl (ev_var rfl) rfl (ev_tup (ds := [.int (min w0 (Txt.find z (oneS c))), .int ((m : Int) - 1 - (k : Nat)), .int (max e0 (Txt.rfind z (oneS c) + 1)), .int n0, .int (a0 + Txt.count z (oneS c))]) (ea_cons (ev_cb (ea_cons (ixb _ 0 w0 rfl rfl) (ea_cons (ev_var rfl) ea_nil)) cd_min) (ea_cons (ev_op (ev_op (ev_var rfl) ev_int od_sub) (ev_var rfl) od_sub) (ea_cons (ev_cb (ea_cons (ixb _ 2 e0 rfl rfl) (ea_cons (ev_var rfl) ea_nil)) cd_max) (ea_cons (ixb _ 3 n0 rfl rfl) (ea_cons (ev_var rfl) ea_nil))))) (by show 5 ≤ sizeLine; rw [sizeLine_eq]; decide)) (by omega) ?_
          refine ⟨_, _, _, _, _, _, ?_, others _ ?_ fun i hi ne => getG_other _ _ fun e => ?_, rfl⟩
          · have := putG_len2 kvs (.inr (oneS c)) (.tuple [.int (min w0 (Txt.find z (oneS c))), .int ((m : Int) - 1 - (k : Nat)), .int (max e0 (Txt.rfind z (oneS c) + 1)), .int n0, .int (a0 + Txt.count z (oneS c))])
            omega
          · rw [getG_same, hnew]
            rfl
          · injection e with e
            exact inj i hi ne (oneS_inj e)
        · rw [if_neg hin] at nxt
          refine st_if (b := false) (et_is (et_test (ev_op (ev_var (d := .int (Txt.find z (oneS c))) rfl) ev_int od_cmpI)) (decide_eq_false (by rw [find_none hin]; omega))) (fun h => nomatch h) fun _ => st_next ⟨kvs, .fr (.str (oneS c)), .fr (.int (Txt.find z (oneS c))), s7, s8, s9, by omega, others _ (by rw [nxt]; exact hcur) fun _ _ _ => rfl, rfl⟩
      · rintro ρ ⟨kvs, s5, s6, s7, s8, s9, hkl, hkv, rfl⟩
        refine ⟨kvs, _, _, _, _, _, _, ?_, fun c hcm => ?_, rfl⟩
        · rw [Nat.succ_mul]
          omega
        · obtain ⟨i, hi, ei⟩ := List.mem_iff_getElem.mp hcm
          have := hkv i hi
          rw [if_pos hi] at this
          have e : cs.getD i 0 = c := by
            rw [List.getD_eq_getElem?_getD, List.getElem?_eq_getElem hi, ei]
            rfl
          rw [e] at this
          exact this
    · rintro ρ ⟨kvs, s4', s5, s6, s7, s8, s9, hkl, hkv, rfl⟩
      rw [Int.toNat_natCast] at hkv
      refine q_frz (i := 3) rfl ?_
      exact st_ret (ev_var rfl) ⟨_, rfl, ls, m, cs, kvs, rfl, rfl, hkv⟩
/-! plain: a sign that fills a rectangle -/
def RowIs (z : Str) (c w e : Nat) : Prop := ∀ x, z.cps.toList[x]? = some c ↔ w ≤ x ∧ x < e
theorem count_three (c : Nat) (L : List Nat) {w e : Nat} (h : w ≤ e) : L.count c = (L.take w).count c + ((L.drop w).take (e - w)).count c + (L.drop e).count c := by
  have e1 : L.take w ++ L.drop w = L := List.take_append_drop w L
  have e2 : (L.drop w).take (e - w) ++ (L.drop w).drop (e - w) = L.drop w := List.take_append_drop _ _
  have e3 : (L.drop w).drop (e - w) = L.drop e := by
    rw [List.drop_drop]
    congr 1
    omega
  calc L.count c = (L.take w ++ L.drop w).count c := by rw [e1]
    _ = (L.take w).count c + (L.drop w).count c := List.count_append
    _ = (L.take w).count c + (((L.drop w).take (e - w)).count c + (L.drop e).count c) := by
      conv => lhs; rw [← e2, List.count_append, e3]
    _ = _ := by omega
theorem not_take {L : List Nat} {c w : Nat} (h : ∀ x, x < w → L[x]? ≠ some c) : (L.take w).count c = 0 := by
  refine List.count_eq_zero.mpr fun hm => ?_
  obtain ⟨x, hx⟩ := List.getElem?_of_mem hm
  rw [List.getElem?_take] at hx
  split at hx
  · rename_i hl
    exact h x hl hx
  · cases hx
theorem not_drop {L : List Nat} {c e : Nat} (h : ∀ x, e ≤ x → L[x]? ≠ some c) : (L.drop e).count c = 0 := by
  refine List.count_eq_zero.mpr fun hm => ?_
  obtain ⟨x, hx⟩ := List.getElem?_of_mem hm
  rw [List.getElem?_drop] at hx
  exact h (e + x) (by omega) hx
theorem RowIs.mid {z : Str} {c w e : Nat} (h : RowIs z c w e) (hw : w < e) : (z.cps.toList.drop w).take (e - w) = List.replicate (e - w) c := by
  refine List.ext_getElem? fun i => ?_
  rw [List.getElem?_take, List.getElem?_replicate]
  split
  · rw [List.getElem?_drop]
    exact (h (w + i)).mpr (by omega)
  · rfl
theorem RowIs.cnt {z : Str} {c w e : Nat} (h : RowIs z c w e) (hw : w < e) : cntC z c = e - w := by
  unfold cntC
  rw [count_three c _ (Nat.le_of_lt hw), h.mid hw, not_take fun x hx k => by have := (h x).mp k; omega, not_drop fun x hx k => by have := (h x).mp k; omega, List.count_replicate_self]
  omega
theorem RowIs.mem {z : Str} {c w e : Nat} (h : RowIs z c w e) (hw : w < e) : c ∈ z.cps.toList := List.mem_of_getElem? ((h w).mpr ⟨Nat.le_refl _, hw⟩)
theorem RowIs.fst {z : Str} {c w e : Nat} (h : RowIs z c w e) (hw : w < e) : fstC z c = w := by
  have hx := (h w).mpr ⟨Nat.le_refl _, hw⟩
  obtain ⟨hl, he⟩ := List.getElem?_eq_some_iff.mp hx
  unfold fstC
  rw [List.findIdx_eq hl]
  refine ⟨decide_eq_true he, fun k hk => decide_eq_false fun ek => ?_⟩
  have := (h k).mp (by rw [List.getElem?_eq_getElem (by omega), ek])
  omega
theorem RowIs.line {z : Str} {c w e : Nat} (h : RowIs z c w e) (hw : w < e) : lineOk z c w (e - w) = true := by
  unfold lineOk
  rw [h.cnt hw, h.mid hw]
  simp
theorem line_row {z : Str} {c b m : Nat} (h : lineOk z c b m = true) (hm : 1 ≤ m) : RowIs z c b (b + m) := by
  unfold lineOk at h
  obtain ⟨h1, h2⟩ := Bool.and_eq_true_iff.mp h
  have h1 := of_decide_eq_true h1
  have h2 := of_decide_eq_true h2
  have h3 := count_three c z.cps.toList (w := b) (e := b + m) (by omega)
  unfold cntC at h1
  rw [Nat.add_sub_cancel_left, h2, List.count_replicate_self, h1] at h3
  have z1 : (z.cps.toList.take b).count c = 0 := by omega
  have z2 : (z.cps.toList.drop (b + m)).count c = 0 := by omega
  intro x
  constructor
  · intro hx
    constructor
    · refine Classical.byContradiction fun k => ?_
      refine List.count_eq_zero.mp z1 (List.mem_of_getElem? (i := x) ?_)
      rw [List.getElem?_take, if_pos (by omega)]
      exact hx
    · refine Classical.byContradiction fun k => ?_
      refine List.count_eq_zero.mp z2 (List.mem_of_getElem? (i := x - (b + m)) ?_)
      rw [List.getElem?_drop, show b + m + (x - (b + m)) = x from by omega]
      exact hx
  · rintro ⟨a1, a2⟩
    have := congrArg (fun l : List Nat => l[x - b]?) h2
    have this : ((z.cps.toList.drop b).take m)[x - b]? = (List.replicate m c)[x - b]? := this
    rw [List.getElem?_take, if_pos (by omega), List.getElem?_drop, List.getElem?_replicate, if_pos (by omega), show b + (x - b) = x from by omega] at this
    exact this
/-- what a row that holds the sign has -/
theorem row_any {z : Str} {c : Nat} (h : c ∈ z.cps.toList) : ∃ w e : Nat, Txt.find z (oneS c) = (w : Int) ∧ Txt.rfind z (oneS c) + 1 = (e : Int) ∧ w < e ∧ cntC z c ≤ e - w ∧ 1 ≤ cntC z c ∧ (cntC z c = e - w → RowIs z c w e) := by
  rcases find_whole z (oneS c) with ⟨_, hn⟩ | ⟨w, e1, ha, hk⟩
  · obtain ⟨j, hj, ej⟩ := List.mem_iff_getElem.mp h
    exact absurd (at_one.mpr (by rw [List.getElem?_eq_getElem hj, ej])) (hn j)
  rcases rfind_whole z (oneS c) with ⟨_, hn⟩ | ⟨i, e2, ha2, hk2⟩
  · exact absurd ha (hn w)
  have hw := at_one.mp ha
  have hi := at_one.mp ha2
  have hwi : w ≤ i := Classical.byContradiction fun k => hk2 w (by omega) ha
  have lo : ∀ x, x < w → z.cps.toList[x]? ≠ some c := fun x hx k => hk x hx (at_one.mpr k)
  have hi' : ∀ x, i + 1 ≤ x → z.cps.toList[x]? ≠ some c := fun x hx k => hk2 x (by omega) (at_one.mpr k)
  have h3 := count_three c z.cps.toList (w := w) (e := i + 1) (by omega)
  rw [not_take lo, not_drop hi'] at h3
  have hil := (List.getElem?_eq_some_iff.mp hi).1
  have hlen : ((z.cps.toList.drop w).take (i + 1 - w)).length = i + 1 - w := by
    rw [List.length_take, List.length_drop]
    omega
  have hle := List.count_le_length (a := c) (l := (z.cps.toList.drop w).take (i + 1 - w))
  rw [hlen] at hle
  refine ⟨w, i + 1, e1, by rw [e2]; omega, by omega, by unfold cntC; omega, List.count_pos_iff.mpr h, fun hc x => ⟨fun hx => ⟨?_, ?_⟩, fun hx => ?_⟩⟩
  · exact Classical.byContradiction fun k => lo x (by omega) hx
  · exact Classical.byContradiction fun k => hi' x (by omega) hx
  · unfold cntC at hc
    have hall := List.count_eq_length.mp (show ((z.cps.toList.drop w).take (i + 1 - w)).count c = ((z.cps.toList.drop w).take (i + 1 - w)).length by rw [hlen]; omega)
    have hxl : x - w < ((z.cps.toList.drop w).take (i + 1 - w)).length := by rw [hlen]; omega
    have := hall _ (List.getElem_mem hxl)
    have e4 : ((z.cps.toList.drop w).take (i + 1 - w))[x - w]? = some c := by rw [List.getElem?_eq_getElem hxl, ← this]
    rw [List.getElem?_take, if_pos (by omega), List.getElem?_drop, show w + (x - w) = x from by omega] at e4
    exact e4
theorem RowIs.find {z : Str} {c w e : Nat} (h : RowIs z c w e) (hw : w < e) : Txt.find z (oneS c) = (w : Int) ∧ Txt.rfind z (oneS c) + 1 = (e : Int) := by
  refine ⟨by rw [find_one (h.mem hw), h.fst hw], ?_⟩
  rcases rfind_whole z (oneS c) with ⟨_, hn⟩ | ⟨i, e2, ha2, hk2⟩
  · exact absurd (at_one.mpr ((h w).mpr ⟨Nat.le_refl _, hw⟩)) (hn w)
  · have h1 := (h i).mp (at_one.mp ha2)
    have h2 : e ≤ i + 1 := Classical.byContradiction fun k => hk2 (e - 1) (by omega) (at_one.mpr ((h (e - 1)).mpr (by omega)))
    rw [e2]
    omega
structure Rect (rows : List Str) (c w e f l : Nat) : Prop where
  hw : w < e
  hf : f ≤ l
  hl : l < rows.length
  row : ∀ k, f ≤ k → k ≤ l → RowIs (rows.getD k Str.empty) c w e
  out : ∀ k, k < rows.length → (k < f ∨ l < k) → c ∉ (rows.getD k Str.empty).cps.toList
theorem Rect.occ_iff {rows : List Str} {c w e f l : Nat} (R : Rect rows c w e f l) {k : Nat} : k ∈ occ rows c ↔ f ≤ k ∧ k ≤ l := by
  rw [occ_mem]
  constructor
  · rintro ⟨h1, h2⟩
    refine ⟨?_, ?_⟩
    · exact Classical.byContradiction fun k' => R.out k h1 (.inl (by omega)) h2
    · exact Classical.byContradiction fun k' => R.out k h1 (.inr (by omega)) h2
  · rintro ⟨h1, h2⟩
    have := R.hl
    exact ⟨by omega, (R.row k h1 h2).mem R.hw⟩
theorem occ_range {rows : List Str} {c f l : Nat} (hf : f ≤ l) (h : ∀ k, k ∈ occ rows c ↔ f ≤ k ∧ k ≤ l) : occ rows c = List.range' f (l + 1 - f) := by
  have up := occ_up rows c
  have nd : (occ rows c).Nodup := up.imp fun {a b} h e => by omega
  have pm : (occ rows c).Perm (List.range' f (l + 1 - f)) := (List.perm_ext_iff_of_nodup nd List.nodup_range').mpr fun k => by
    rw [h k, List.mem_range'_1]
    omega
  exact List.Perm.eq_of_pairwise (le := fun a b => a < b) (fun a b _ _ h1 h2 => by omega) up List.pairwise_lt_range' pm
theorem range_last (f n : Nat) : (List.range' f (n + 1)).getLastD 0 = f + n := by
  rw [List.range'_concat, List.getLastD_eq_getLast?, List.getLast?_append]
  simp
theorem Rect.box {rows : List Str} {c w e f l : Nat} (R : Rect rows c w e f l) : boxF rows c = none ∧ boxO rows c = ⟨w, (rows.length : Int) - 1 - (l : Nat), e, (rows.length : Int) - (f : Nat)⟩ := by
  have hf := R.hf
  have ho := occ_range hf fun k => R.occ_iff
  obtain ⟨n, hn⟩ : ∃ n, l + 1 - f = n + 1 := ⟨l - f, by omega⟩
  rw [hn] at ho
  have hc : occ rows c = f :: List.range' (f + 1) n := ho.trans List.range'_succ
  have hlast : (f :: List.range' (f + 1) n).getLastD 0 = l := by
    rw [← hc, ho, range_last]
    omega
  have r0 := R.row f (Nat.le_refl _) hf
  constructor
  · rw [boxF_cons hc, if_pos]
    rw [Bool.and_eq_true]
    refine ⟨decide_eq_true ?_, List.all_eq_true.mpr fun k hk => ?_⟩
    · rw [hlast, List.length_cons, List.length_range']
      omega
    · rw [r0.fst R.hw, r0.cnt R.hw]
      have hk := R.occ_iff.mp (show k ∈ occ rows c by rw [hc]; exact hk)
      exact (R.row k hk.1 hk.2).line R.hw
  · unfold boxO
    rw [hc]
    dsimp only
    rw [hlast]
    show Bx.mk (fstC (rows.getD f Str.empty) c : Nat) _ ((fstC (rows.getD f Str.empty) c : Nat) + (cntC (rows.getD f Str.empty) c : Nat)) _ = _
    rw [r0.fst R.hw, r0.cnt R.hw]
    have := R.hw
    congr 1
    omega
theorem rect_of_box {rows : List Str} {c : Nat} (h : boxF rows c = none) : ∃ w e f l, Rect rows c w e f l := by
  cases ho : occ rows c with
  | nil => exact absurd ho (boxF_occ h)
  | cons r rs =>
    rw [boxF_cons ho] at h
    split at h
    · rename_i hb
      obtain ⟨h1, h2⟩ := Bool.and_eq_true_iff.mp hb
      have h1 := of_decide_eq_true h1
      have up := occ_up rows c
      rw [ho] at up
      obtain ⟨lg, lm⟩ := last_ge up
      have hr := occ_mem.mp (show r ∈ occ rows c by rw [ho]; exact List.mem_cons_self ..)
      have hm : 1 ≤ cntC (rows.getD r Str.empty) c := List.count_pos_iff.mpr hr.2
      have nd : (r :: rs).Nodup := up.imp fun {a b} h e => by omega
      have bnd : ∀ k ∈ r :: rs, r ≤ k ∧ k ≤ (r :: rs).getLastD 0 := fun k hk => by
        refine ⟨?_, ?_⟩
        · rcases List.mem_cons.mp hk with rfl | hk
          · exact Nat.le_refl _
          · have := (List.pairwise_cons.mp up).1 k hk
            omega
        · clear h h1 h2 hb hr hm nd ho lg lm
          revert up hk
          generalize r :: rs = L
          intro up hk
          induction L with
          | nil => cases hk
          | cons a L ih =>
            cases L with
            | nil =>
              rcases List.mem_cons.mp hk with rfl | hk
              · exact Nat.le_refl _
              · cases hk
            | cons b L =>
              have e : (a :: b :: L).getLastD 0 = (b :: L).getLastD 0 := by simp [List.getLastD]
              rw [e]
              obtain ⟨u1, u2⟩ := List.pairwise_cons.mp up
              rcases List.mem_cons.mp hk with rfl | hk
              · have := (last_ge u2).2
                have := u1 _ this
                omega
              · exact ih u2 hk
      have pm := perm_of_sub (l := r :: rs) (m := List.range' r ((r :: rs).getLastD 0 + 1 - r)) nd (fun k hk => by
        have := bnd k hk
        rw [List.mem_range'_1]
        omega) (by rw [List.length_range']; omega)
      have all : ∀ k, r ≤ k → k ≤ (r :: rs).getLastD 0 → k ∈ occ rows c := fun k a b => by
        rw [ho]
        refine pm.mem_iff.mpr ?_
        rw [List.mem_range'_1]
        omega
      have hlast := occ_mem.mp (show (r :: rs).getLastD 0 ∈ occ rows c by rw [ho]; exact lm)
      refine ⟨fstC (rows.getD r Str.empty) c, fstC (rows.getD r Str.empty) c + cntC (rows.getD r Str.empty) c, r, (r :: rs).getLastD 0, ⟨?_, lg, hlast.1, fun k a b => ?_, fun k hk a b => ?_⟩⟩
      · omega
      · have hk := all k a b
        rw [ho] at hk
        exact line_row (List.all_eq_true.mp h2 k hk) hm
      · have := bnd k (by rw [← ho]; exact occ_mem.mpr ⟨hk, b⟩)
        omega
    · cases h
theorem fndN_out {rows : List Str} {c k : Nat} (h : c ∉ (rows.getD k Str.empty).cps.toList) : fndN rows c (k + 1) = fndN rows c k := if_neg h
theorem fndN_new {rows : List Str} {c k : Nat} (h : c ∈ (rows.getD k Str.empty).cps.toList) (hq : fndN rows c k = none) : fndN rows c (k + 1) = some (Txt.find (rows.getD k Str.empty) (oneS c), (rows.length : Int) - 1 - (k : Nat), Txt.rfind (rows.getD k Str.empty) (oneS c) + 1, (rows.length : Int) - (k : Nat), Txt.count (rows.getD k Str.empty) (oneS c)) := by
  have : fndN rows c (k + 1) = if c ∈ (rows.getD k Str.empty).cps.toList then (match fndN rows c k with
      | none => some (Txt.find (rows.getD k Str.empty) (oneS c), (rows.length : Int) - 1 - (k : Nat), Txt.rfind (rows.getD k Str.empty) (oneS c) + 1, (rows.length : Int) - (k : Nat), Txt.count (rows.getD k Str.empty) (oneS c))
      | some (w, s, e, n, a) => some (min w (Txt.find (rows.getD k Str.empty) (oneS c)), (rows.length : Int) - 1 - (k : Nat), max e (Txt.rfind (rows.getD k Str.empty) (oneS c) + 1), n, a + Txt.count (rows.getD k Str.empty) (oneS c))) else fndN rows c k := rfl
  rw [this, if_pos h, hq]
theorem fndN_more {rows : List Str} {c k : Nat} {w s e n a : Int} (h : c ∈ (rows.getD k Str.empty).cps.toList) (hq : fndN rows c k = some (w, s, e, n, a)) : fndN rows c (k + 1) = some (min w (Txt.find (rows.getD k Str.empty) (oneS c)), (rows.length : Int) - 1 - (k : Nat), max e (Txt.rfind (rows.getD k Str.empty) (oneS c) + 1), n, a + Txt.count (rows.getD k Str.empty) (oneS c)) := by
  have : fndN rows c (k + 1) = if c ∈ (rows.getD k Str.empty).cps.toList then (match fndN rows c k with
      | none => some (Txt.find (rows.getD k Str.empty) (oneS c), (rows.length : Int) - 1 - (k : Nat), Txt.rfind (rows.getD k Str.empty) (oneS c) + 1, (rows.length : Int) - (k : Nat), Txt.count (rows.getD k Str.empty) (oneS c))
      | some (w, s, e, n, a) => some (min w (Txt.find (rows.getD k Str.empty) (oneS c)), (rows.length : Int) - 1 - (k : Nat), max e (Txt.rfind (rows.getD k Str.empty) (oneS c) + 1), n, a + Txt.count (rows.getD k Str.empty) (oneS c))) else fndN rows c k := rfl
  rw [this, if_pos h, hq]
/-- what the law finds of a rectangle -/
theorem Rect.found {rows : List Str} {c w e f l : Nat} (R : Rect rows c w e f l) : ∀ K, K ≤ rows.length → fndN rows c K = if K ≤ f then none else some ((w : Int), (rows.length : Int) - 1 - (min (K - 1) l : Nat), (e : Int), (rows.length : Int) - (f : Nat), ((e : Int) - w) * ((min K (l + 1) : Nat) - (f : Nat)))
  | 0, _ => (if_pos (Nat.zero_le f)).symm
  | K + 1, hK => by
    have ih := R.found K (by omega)
    have hf := R.hf
    by_cases h1 : K < f
    · rw [fndN_out (R.out K (by omega) (.inl h1)), ih, if_pos (by omega), if_pos (by omega)]
    · by_cases h2 : l < K
      · rw [fndN_out (R.out K (by omega) (.inr h2)), ih, if_neg (by omega), if_neg (by omega)]
        rw [Nat.min_eq_right (by omega : l ≤ K - 1), Nat.min_eq_right (by omega : l ≤ K + 1 - 1), Nat.min_eq_right (by omega : l + 1 ≤ K), Nat.min_eq_right (by omega : l + 1 ≤ K + 1)]
      · have rk := R.row K (by omega) (by omega)
        have hm := rk.mem R.hw
        obtain ⟨e1, e2⟩ := rk.find R.hw
        have e3 : Txt.count (rows.getD K Str.empty) (oneS c) = ((e : Int) - w) := by
          rw [count_one]
          have := rk.cnt R.hw
          unfold cntC at this
          rw [this]
          have := R.hw
          omega
        rw [Nat.min_eq_left (by omega : K + 1 - 1 ≤ l), Nat.min_eq_left (by omega : K + 1 ≤ l + 1), if_neg (by omega)]
        by_cases h3 : K = f
        · rw [if_pos (by omega)] at ih
          rw [fndN_new hm ih, e1, e2, e3, show K + 1 - 1 = K from rfl, h3]
          rw [show ((f + 1 : Nat) : Int) - (f : Nat) = 1 from by omega, Int.mul_one]
        · rw [if_neg (by omega)] at ih
          rw [fndN_more hm ih, e1, e2, e3, Int.min_self, Int.max_self, show K + 1 - 1 = K from rfl, Nat.min_eq_left (by omega : K ≤ l + 1)]
          rw [show ((K + 1 : Nat) : Int) - (f : Nat) = ((K : Nat) - (f : Nat)) + 1 from by omega, Int.mul_add, Int.mul_one]
theorem Rect.found_all {rows : List Str} {c w e f l : Nat} (R : Rect rows c w e f l) : fndN rows c rows.length = some ((w : Int), (rows.length : Int) - 1 - (l : Nat), (e : Int), (rows.length : Int) - (f : Nat), ((e : Int) - w) * (((l + 1 : Nat) : Int) - (f : Nat))) := by
  have hl := R.hl
  have hf := R.hf
  have := R.found rows.length (Nat.le_refl _)
  rw [if_neg (by omega), Nat.min_eq_right (by omega : l ≤ rows.length - 1), Nat.min_eq_right (by omega : l + 1 ≤ rows.length)] at this
  exact this
theorem tight {a W n ck d q : Int} (hW : 1 ≤ W) (hn : 1 ≤ n) (hd : 0 ≤ d) (hq : 0 ≤ q) (ha : a ≤ W * n) (hc : ck ≤ W + d) : a + ck ≤ (W + d) * (n + 1 + q) ∧ (a + ck = (W + d) * (n + 1 + q) → d = 0 ∧ q = 0 ∧ a = W * n ∧ ck = W) := by
  have e : (W + d) * (n + 1 + q) = W * n + W + W * q + d * n + d + d * q := by
    rw [Int.add_mul, Int.mul_add, Int.mul_add, Int.mul_add, Int.mul_add, Int.mul_one, Int.mul_one]
    omega
  have h1 : 0 ≤ W * q := Int.mul_nonneg (by omega) hq
  have h2 : 0 ≤ d * n := Int.mul_nonneg hd (by omega)
  have h3 : 0 ≤ d * q := Int.mul_nonneg hd hq
  rw [e]
  refine ⟨by omega, fun h => ?_⟩
  have h4 : W * q = 0 := by omega
  have h5 : d * n = 0 := by omega
  have hq0 : q = 0 := by
    rcases Int.mul_eq_zero.mp h4 with z | z <;> omega
  have hd0 : d = 0 := by
    rcases Int.mul_eq_zero.mp h5 with z | z <;> omega
  exact ⟨hd0, hq0, by omega, by omega⟩
/-- what stands in the law's find -/
def FInv (rows : List Str) (c K : Nat) : Option (Int × Int × Int × Int × Int) → Prop
  | none => ∀ k, k < K → c ∉ (rows.getD k Str.empty).cps.toList
  | some (w, s, e, n, a) => ∃ w0 e0 f l : Nat, w = w0 ∧ e = e0 ∧ s = (rows.length : Int) - 1 - (l : Nat) ∧ n = (rows.length : Int) - (f : Nat) ∧ w0 < e0 ∧ f ≤ l ∧ l < K ∧ (∀ k, k < K → (k < f ∨ l < k) → c ∉ (rows.getD k Str.empty).cps.toList) ∧
      a ≤ ((e0 : Int) - w0) * (((l + 1 : Nat) : Int) - (f : Nat)) ∧ (a = ((e0 : Int) - w0) * (((l + 1 : Nat) : Int) - (f : Nat)) → ∀ k, f ≤ k → k ≤ l → RowIs (rows.getD k Str.empty) c w0 e0)
theorem fnd_inv (rows : List Str) (c : Nat) : ∀ K, FInv rows c K (fndN rows c K)
  | 0 => fun k hk => absurd hk (Nat.not_lt_zero _)
  | K + 1 => by
    have ih := fnd_inv rows c K
    by_cases hm : c ∈ (rows.getD K Str.empty).cps.toList
    · obtain ⟨w1, e1, q1, q2, lt, cle, cge, full⟩ := row_any hm
      have hc : Txt.count (rows.getD K Str.empty) (oneS c) = (cntC (rows.getD K Str.empty) c : Nat) := count_one _ _
      cases hq : fndN rows c K with
      | none =>
        rw [hq] at ih
        rw [fndN_new hm hq, q1, q2, hc]
        refine ⟨w1, e1, K, K, rfl, rfl, rfl, rfl, lt, Nat.le_refl _, Nat.lt_succ_self _, fun k hk h => ih k (by omega), ?_, fun ha k h1 h2 => ?_⟩
        · rw [show ((K + 1 : Nat) : Int) - (K : Nat) = 1 from by omega, Int.mul_one]
          omega
        · rw [show ((K + 1 : Nat) : Int) - (K : Nat) = 1 from by omega, Int.mul_one] at ha
          obtain rfl : k = K := by omega
          exact full (by omega)
      | some p =>
        obtain ⟨w, s, e, n, a⟩ := p
        rw [hq] at ih
        obtain ⟨w0, e0, f, l, rfl, rfl, rfl, rfl, lt0, fl, lK, out, ale, aeq⟩ := ih
        rw [fndN_more hm hq, q1, q2, hc]
        have hmin : min (w0 : Int) (w1 : Int) = ((min w0 w1 : Nat) : Int) := by omega
        have hmax : max (e0 : Int) (e1 : Int) = ((max e0 e1 : Nat) : Int) := by omega
        rw [hmin, hmax]
        have tt := tight (a := a) (W := (e0 : Int) - w0) (n := ((l + 1 : Nat) : Int) - (f : Nat)) (ck := (cntC (rows.getD K Str.empty) c : Nat)) (d := (((max e0 e1 : Nat) : Int) - (min w0 w1 : Nat)) - ((e0 : Int) - w0)) (q := (K : Int) - 1 - (l : Nat)) (by omega) (by omega) (by omega) (by omega) ale (by omega)
        rw [show ((e0 : Int) - w0) + ((((max e0 e1 : Nat) : Int) - (min w0 w1 : Nat)) - ((e0 : Int) - w0)) = ((max e0 e1 : Nat) : Int) - (min w0 w1 : Nat) from by omega, show (((l + 1 : Nat) : Int) - (f : Nat)) + 1 + ((K : Int) - 1 - (l : Nat)) = ((K + 1 : Nat) : Int) - (f : Nat) from by omega] at tt
        refine ⟨min w0 w1, max e0 e1, f, K, rfl, rfl, rfl, rfl, by omega, by omega, Nat.lt_succ_self _, fun k hk h => ?_, tt.1, fun ha k h1 h2 => ?_⟩
        · exact out k (by omega) (by omega)
        · obtain ⟨t1, t2, t3, t4⟩ := tt.2 ha
          have ew : min w0 w1 = w0 := by omega
          have ee : max e0 e1 = e0 := by omega
          rw [ew, ee]
          by_cases hk : k = K
          · rw [hk]
            have w1e : w1 = w0 := by omega
            have e1e : e1 = e0 := by omega
            have := full (by omega)
            rw [w1e, e1e] at this
            exact this
          · exact aeq t3 k h1 (by omega)
    · rw [fndN_out hm]
      cases hq : fndN rows c K with
      | none =>
        rw [hq] at ih
        exact fun k hk => by
          by_cases e : k = K
          · rw [e]
            exact hm
          · exact ih k (by omega)
      | some p =>
        obtain ⟨w, s, e, n, a⟩ := p
        rw [hq] at ih
        obtain ⟨w0, e0, f, l, h1, h2, h3, h4, h5, h6, h7, out, h9⟩ := ih
        refine ⟨w0, e0, f, l, h1, h2, h3, h4, h5, h6, by omega, fun k hk h => ?_, h9⟩
        by_cases e' : k = K
        · rw [e']
          exact hm
        · exact out k (by omega) h
/-- the law's word on a sign is the program's -/
theorem found_none {rows : List Str} {c : Nat} (h : fndN rows c rows.length = none) : boxF rows c = (some "lacks" : Option Str) := by
  have := fnd_inv rows c rows.length
  rw [h] at this
  refine boxF_nil ?_
  refine List.eq_nil_iff_forall_not_mem.mpr fun k hk => ?_
  obtain ⟨h1, h2⟩ := occ_mem.mp hk
  exact this k h1 h2
theorem found_rect {rows : List Str} {c : Nat} {w s e n a : Int} (h : fndN rows c rows.length = some (w, s, e, n, a)) (ha : a = (e - w) * (n - s)) : boxF rows c = none ∧ boxO rows c = ⟨w, s, e, n⟩ := by
  have := fnd_inv rows c rows.length
  rw [h] at this
  obtain ⟨w0, e0, f, l, rfl, rfl, rfl, rfl, lt0, fl, lK, out, ale, aeq⟩ := this
  rw [show ((rows.length : Int) - (f : Nat)) - ((rows.length : Int) - 1 - (l : Nat)) = ((l + 1 : Nat) : Int) - (f : Nat) from by omega] at ha
  have R : Rect rows c w0 e0 f l := ⟨lt0, fl, lK, aeq ha, out⟩
  exact R.box
theorem found_odd {rows : List Str} {c : Nat} {w s e n a : Int} (h : fndN rows c rows.length = some (w, s, e, n, a)) (ha : a ≠ (e - w) * (n - s)) : boxF rows c = (some "box" : Option Str) := by
  have hocc : occ rows c ≠ [] := fun e' => by
    have := fnd_inv rows c rows.length
    rw [h] at this
    obtain ⟨w0, e0, f, l, rfl, rfl, rfl, rfl, lt0, fl, lK, out, ale, aeq⟩ := this
    have none_of : ∀ K, K ≤ rows.length → fndN rows c K = none := fun K => by
      induction K with
      | zero => exact fun _ => rfl
      | succ K ih =>
        intro hK
        rw [fndN_out fun hm => ?_, ih (by omega)]
        have : K ∈ occ rows c := occ_mem.mpr ⟨by omega, hm⟩
        rw [e'] at this
        cases this
    rw [none_of _ (Nat.le_refl _)] at h
    cases h
  cases hb : boxF rows c with
  | none =>
    obtain ⟨w0, e0, f, l, R⟩ := rect_of_box hb
    have := R.found_all
    rw [h] at this
    have := Option.some.inj this
    injection this with a1 this
    injection this with a2 this
    injection this with a3 this
    injection this with a4 a5
    subst a1 a2 a3 a4
    refine absurd ?_ ha
    rw [a5]
    congr 1
    omega
  | some x =>
    cases ho : occ rows c with
    | nil => exact absurd ho hocc
    | cons r l =>
      rw [boxF_cons ho] at hb
      split at hb
      · cases hb
      · exact hb.symm
theorem dd_full {α : Type} [DecidableEq α] : ∀ {l : List α}, ¬ (dd l).length < l.length → l.Nodup
  | [], _ => List.nodup_nil
  | x :: l, h => by
    have := DL.dd_len l
    unfold dd at h
    split at h
    · rw [List.length_cons] at h
      omega
    · rename_i hx
      rw [List.length_cons, List.length_cons] at h
      exact List.nodup_cons.mpr ⟨fun m => hx (mem_dd.mpr m), dd_full (by omega)⟩
def uch (z : Str) (i : Nat) : Nat := z.cps.getD i 0
def neB (a b : Nat) : Bool := !decide (oneS a = oneS b)
theorem neB_iff {a b : Nat} : neB a b = true ↔ a ≠ b := by
  unfold neB
  constructor
  · intro h e
    rw [e] at h
    simp at h
  · intro h
    rw [decide_eq_false fun e => h (oneS_inj e)]
    rfl
/-- what the law's three cuts leave -/
def cutsL (u l : Str) : List Nat := (((List.range (u.length - 1)).filter fun i => neB (uch u i) (uch u (i + 1))).filter fun i => neB (uch l i) (uch l (i + 1))).filter fun i => neB (uch u i) (uch l i) && neB (uch u (i + 1)) (uch l (i + 1))
theorem four_eq {rows : List Str} {k : Nat} (hk : k + 1 < rows.length) (hl : (rows.getD k Str.empty).length = (rows.getD (k + 1) Str.empty).length) (hR : ∀ c, (c ∈ (rows.getD k Str.empty).cps.toList) → ∃ w e f l, Rect rows c w e f l) :
    decide (0 < (cutsL (rows.getD k Str.empty) (rows.getD (k + 1) Str.empty)).length) = fourB (rows.getD k Str.empty) (rows.getD (k + 1) Str.empty) := by
  have at1 : ∀ {z : Str} {i : Nat}, i < z.length → z.cps.toList[i]? = some (uch z i) := fun h => ix_sg h
  have mem1 : ∀ {z : Str} {i : Nat}, i < z.length → uch z i ∈ z.cps.toList := fun h => List.mem_of_getElem? (at1 h)
  have key : ∀ i, i + 1 < (rows.getD k Str.empty).length → uch (rows.getD k Str.empty) i ≠ uch (rows.getD k Str.empty) (i + 1) → uch (rows.getD k Str.empty) i ≠ uch (rows.getD (k + 1) Str.empty) (i + 1) ∧ uch (rows.getD k Str.empty) (i + 1) ≠ uch (rows.getD (k + 1) Str.empty) i := fun i hi ne => by
    constructor
    · intro e
      obtain ⟨w, e', f, l, R⟩ := hR _ (mem1 (z := rows.getD k Str.empty) (i := i) (by omega))
      have m1 := R.occ_iff.mp (occ_mem.mpr ⟨by omega, mem1 (z := rows.getD k Str.empty) (i := i) (by omega)⟩)
      have m2 := (R.occ_iff (k := k + 1)).mp (occ_mem.mpr ⟨hk, by rw [e]; exact mem1 (by omega)⟩)
      have x1 := (R.row k m1.1 m1.2 i).mp (at1 (by omega))
      have x2 := (R.row (k + 1) m2.1 m2.2 (i + 1)).mp (by rw [e]; exact at1 (by omega))
      have x3 := (R.row k m1.1 m1.2 (i + 1)).mpr (by omega)
      rw [at1 (by omega)] at x3
      exact ne (Option.some.inj x3).symm
    · intro e
      obtain ⟨w, e', f, l, R⟩ := hR _ (mem1 (z := rows.getD k Str.empty) (i := i + 1) (by omega))
      have m1 := R.occ_iff.mp (occ_mem.mpr ⟨by omega, mem1 (z := rows.getD k Str.empty) (i := i + 1) (by omega)⟩)
      have m2 := (R.occ_iff (k := k + 1)).mp (occ_mem.mpr ⟨hk, by rw [e]; exact mem1 (by omega)⟩)
      have x1 := (R.row k m1.1 m1.2 (i + 1)).mp (at1 (by omega))
      have x2 := (R.row (k + 1) m2.1 m2.2 i).mp (by rw [e]; exact at1 (by omega))
      have x3 := (R.row k m1.1 m1.2 i).mpr (by omega)
      rw [at1 (by omega)] at x3
      exact ne (Option.some.inj x3)
  generalize rows.getD k Str.empty = u at *
  generalize rows.getD (k + 1) Str.empty = l at *
  refine Bool.eq_iff_iff.mpr ⟨fun h => ?_, fun h => ?_⟩
  · obtain ⟨i, hi⟩ := List.exists_mem_of_length_pos (of_decide_eq_true h)
    unfold cutsL at hi
    obtain ⟨hi, h3⟩ := List.mem_filter.mp hi
    obtain ⟨hi, h2⟩ := List.mem_filter.mp hi
    obtain ⟨hi, h1⟩ := List.mem_filter.mp hi
    have hi := List.mem_range.mp hi
    have h1 := neB_iff.mp h1
    have h2 := neB_iff.mp h2
    obtain ⟨h3, h4⟩ := Bool.and_eq_true_iff.mp h3
    have h3 := neB_iff.mp h3
    have h4 := neB_iff.mp h4
    obtain ⟨h5, h6⟩ := key i (by omega) h1
    refine List.any_eq_true.mpr ⟨i + 1, List.mem_range.mpr (by omega), ?_⟩
    rw [Bool.and_eq_true]
    refine ⟨decide_eq_true (by omega), decide_eq_true ?_⟩
    show (dd [oneS (uch u i), oneS (uch u (i + 1)), oneS (uch l i), oneS (uch l (i + 1))]).length = 4
    rw [dd_of]
    · rfl
    · have n : ∀ {a b : Nat}, a ≠ b → oneS a ≠ oneS b := fun h e => h (oneS_inj e)
      simp only [List.nodup_cons, List.mem_cons, List.not_mem_nil, or_false, not_or, List.nodup_nil, and_true, not_false_eq_true]
      exact ⟨⟨n h1, n h3, n h5⟩, ⟨n h6, n h4⟩, n h2⟩
  · obtain ⟨x, hx, hp⟩ := List.any_eq_true.mp h
    obtain ⟨h1, h2⟩ := Bool.and_eq_true_iff.mp hp
    have h1 := of_decide_eq_true h1
    have h2 := of_decide_eq_true h2
    have hx := List.mem_range.mp hx
    obtain ⟨i, rfl⟩ : ∃ i, x = i + 1 := ⟨x - 1, by omega⟩
    have nd := dd_full (l := [oneS (uch u i), oneS (uch u (i + 1)), oneS (uch l i), oneS (uch l (i + 1))]) (by
      show ¬ (dd _).length < 4
      have h2 : (dd [oneS (uch u i), oneS (uch u (i + 1)), oneS (uch l i), oneS (uch l (i + 1))]).length = 4 := h2
      omega)
    simp only [List.nodup_cons, List.mem_cons, List.not_mem_nil, or_false, not_or, List.nodup_nil, and_true, not_false_eq_true] at nd
    obtain ⟨⟨a1, a2, a3⟩, ⟨b1, b2⟩, c1⟩ := nd
    have n : ∀ {a b : Nat}, oneS a ≠ oneS b → neB a b = true := fun h => neB_iff.mpr fun e => h (by rw [e])
    refine decide_eq_true (List.length_pos_of_mem (a := i) ?_)
    unfold cutsL
    refine List.mem_filter.mpr ⟨List.mem_filter.mpr ⟨List.mem_filter.mpr ⟨List.mem_range.mpr (by omega), n a1⟩, n c1⟩, ?_⟩
    rw [Bool.and_eq_true]
    exact ⟨n a2, n b2⟩
theorem map_str_inj : ∀ {a b : List Str}, a.map PyData.str = b.map PyData.str → a = b
  | [], [], _ => rfl
  | [], _ :: _, h => by cases h
  | _ :: _, [], h => by cases h
  | x :: a, y :: b, h => by
    rw [List.map_cons, List.map_cons] at h
    injection h with h1 h2
    injection h1 with h1
    rw [h1, map_str_inj h2]
theorem map_one_inj : ∀ {a b : List Nat}, (a.map fun c => PyData.str (oneS c)) = (b.map fun c => PyData.str (oneS c)) → a = b
  | [], [], _ => rfl
  | [], _ :: _, h => by cases h
  | _ :: _, [], h => by cases h
  | x :: a, y :: b, h => by
    rw [List.map_cons, List.map_cons] at h
    injection h with h1 h2
    injection h1 with h1
    rw [oneS_inj h1, map_one_inj h2]
theorem first_code {wss : List (List Str)} (W : WF wss) : firstsW wss = (wss.map codeW).map oneS := by
  unfold firstsW
  rw [List.map_map]
  refine List.map_congr_left fun ws hws => ?_
  obtain ⟨i, hi, e⟩ := List.mem_iff_getElem.mp hws
  obtain ⟨b, hb, _⟩ := W.two i hi
  rw [List.getD_eq_getElem?_getD, List.getElem?_eq_getElem hi] at hb
  have hb : wss[i] = [oneS (codeW wss[i]), b] := hb
  rw [e] at hb
  show ws.getD 0 Str.empty = oneS (codeW ws)
  generalize codeW ws = c at hb
  rw [hb]
  rfl
theorem codes_nodup {wss : List (List Str)} (W : WF wss) : (wss.map codeW).Nodup := by
  have : ∀ i, i ≤ wss.length → (firstsW (wss.take i)).Nodup := fun i => by
    induction i with
    | zero => exact fun _ => List.nodup_nil
    | succ i ih =>
      intro h
      rw [firstsW_succ h]
      exact List.nodup_append.mpr ⟨ih (by omega), List.nodup_cons.mpr ⟨by simp, List.nodup_nil⟩, fun x hx y hy exy => W.new i h (by
        rw [List.mem_singleton.mp hy] at exy
        exact exy ▸ hx)⟩
  have h := this wss.length (Nat.le_refl _)
  rw [List.take_length, first_code W] at h
  exact (List.pairwise_map.mp h).imp fun {a b} n e => n (by rw [e])
theorem codes_few {wss : List (List Str)} (W : WF wss) : wss.length ≤ 40 := by
  have h := nodup_le (codes_nodup W) (m := SG.cps.toList) fun c hc => by
    obtain ⟨ws, hws, rfl⟩ := List.mem_map.mp hc
    obtain ⟨i, hi, e⟩ := List.mem_iff_getElem.mp hws
    obtain ⟨b, _, h2, _⟩ := W.two i hi
    rw [List.getD_eq_getElem?_getD, List.getElem?_eq_getElem hi] at h2
    have h2 : codeW wss[i] ∈ SG.cps.toList := h2
    rw [e] at h2
    exact h2
  rw [List.length_map, SG_len] at h
  exact h
theorem boxes_rect {rows : List Str} {wss : List (List Str)} (h : ∀ i, i < wss.length → boxF rows (codeW (wss.getD i [])) = none) {c : Nat} (hc : oneS c ∈ (wss.map codeW).map oneS) : ∃ w e f l, Rect rows c w e f l := by
  obtain ⟨c', hc', e⟩ := List.mem_map.mp hc
  obtain rfl := oneS_inj e
  obtain ⟨ws, hws, rfl⟩ := List.mem_map.mp hc'
  obtain ⟨i, hi, ei⟩ := List.mem_iff_getElem.mp hws
  have := h i hi
  rw [List.getD_eq_getElem?_getD, List.getElem?_eq_getElem hi] at this
  have this : boxF rows (codeW wss[i]) = none := this
  rw [ei] at this
  exact rect_of_box this
theorem fnd_bound {rows : List Str} {c : Nat} {w s e n a : Int} (h : fndN rows c rows.length = some (w, s, e, n, a)) : 0 ≤ n - s ∧ n - s ≤ rows.length := by
  have := fnd_inv rows c rows.length
  rw [h] at this
  obtain ⟨w0, e0, f, l, rfl, rfl, rfl, rfl, lt0, fl, lK, out, ale, aeq⟩ := this
  omega
theorem ok_u_law_due (T : Txt K mg) (hd : FnP K "_law_due" s_u_law_due) (hm : mg "_law_due" = some (.ref (He.ga K "_law_due"))) (O_u_law_told : Okd P w K mg base CX0 2 "_law_told" ["lines", "end"] (sp_u_law_told K)) (O_u_law_found : Okd P w K mg base CX0 1 "_law_found" ["lines", "end", "signs"] (sp_u_law_found K)) (O_u_law_grid : Okd P w K mg base CX0 1 "_law_grid" ["lines", "end", "signs"] (sp_u_law_grid K)) : Okd P w K mg base CX0 3 "_law_due" ["text"] (sp_u_law_due K) := by
  obtain ⟨fd, F⟩ := hd
  refine ⟨hm, fd, fn_pf F sc_u_law_due ?_ (fun cdv A outer s H E hr => ⟨_, dv_u_law_due T O_u_law_told O_u_law_found O_u_law_grid cdv A outer s H E hr, ?_⟩), F.bindsN (fun _ _ _ _ _ _ us hl => match us, hl with | [_], _ => rfl), F.kp⟩
  · rintro ds d ⟨x0, rfl, _⟩
    rfl
  · rintro ds d ⟨z, rfl, hz, rfl⟩
    refine ST.mono (P := fun o => o = .rt (resX (readT z))) ?_ fun o h => .inl h
    show ST K E0 (t_u_law_due K) [.fr (.str z), .no, .no, .no, .no, .no, .no, .no, .no, .no, .no, .no, .no, .no, .no, .no, .no, .no] _
    unfold t_u_law_due sp_u_law_told sp_u_law_grid sp_u_law_found
    have hzl := hz.len
    refine q_asg (d := .list ((linesT z).map PyData.str)) (ev_is (ev_ite (d1 := .list ((piecesT 10 z).map PyData.str)) (d2 := .list []) (et_test (ev_op (ev_var (d := .str z) (by rfl)) ev_str od_neS)) (fun _ => ev_N (en_is (en_split (ev_var (d := .str z) (by rfl)) ev_str (by decide +kernel) (by rw [sizeLine_eq]; omega)) (by rw [split_nl]))) (fun _ => ev_N (en_lst ea_nil (Nat.zero_le _)))) ?_) ?_
    · unfold linesT
      by_cases h : z = ""
      · rw [decide_eq_true h, if_pos h]; rfl
      · rw [decide_eq_false h, if_neg h]; rfl
    have hmany := hz.many
    have hwords := hz.words
    unfold readT
    generalize linesT z = ls at *
    refine q_when (b := !decide (("--" : Str) ∈ ls)) (et_is (et_test (ev_op ev_str (ev_var (d := .list (ls.map PyData.str)) rfl) (od_ninL rfl (strs_flat _)))) (by rw [inD_str])) (fun h => ?_) fun h => ?_
    · refine st_ret (ev_tup (ds := [.int ((ls.length : Nat) + 1), .str "place"]) (ea_cons (ev_op (ev_is (d := .int (((ls.map PyData.str).length : Nat) : Int)) (ev_cb (ea_cons (ev_var rfl) ea_nil) cd_lenL) (by rw [List.length_map])) ev_int od_addI) (ea_cons ev_str ea_nil)) s2) ?_
      unfold readL
      rw [if_neg (by simpa using h)]
      rfl
    have hin : ("--" : Str) ∈ ls := by simpa using h
    have e0 : readL ls = readAt ls (barP ls) := if_pos hin
    rw [e0]
    obtain ⟨bl, be, bn⟩ := bar_facts hin
    refine q_asg (ev_lindex (zs := ls) (j := barP ls) (ev_var rfl) ev_str bl be bn) ?_
    clear h hin e0 be bn
    generalize barP ls = m at *
    have hrows : ∀ l ∈ ls.take m, l.length ≤ 4000 := fun l hl => hwords l (List.mem_of_mem_take hl)
    have hrl : (ls.take m).length = m := by rw [List.length_take]; omega
    have told : EV K (tCall (PF K fun ds d => ∃ (ls : List Str) (m : Nat), ds = [.list (ls.map PyData.str), .int (m : Nat)] ∧ m < ls.length ∧ ls.length ≤ 2000 ∧ (∀ l ∈ ls, l.length ≤ 4000) ∧ d = toldR ls m) [] E0 (tCons (tVar 1) (tCons (tVar 2) tNil))) [.fr (.str z), .fr (.list (ls.map PyData.str)), .fr (.int (m : Nat)), .no, .no, .no, .no, .no, .no, .no, .no, .no, .no, .no, .no, .no, .no, .no] (toldR ls m) := ev_call (ea_cons (ev_var rfl) (ea_cons (ev_var rfl) ea_nil)) ⟨ls, m, rfl, bl, hmany, hwords, rfl⟩
    cases h0 : linesF (ls.drop (m + 1)) with
    | some p =>
      obtain ⟨i, f⟩ := p
      rw [rd_lines h0]
      rw [toldR_some h0] at told
      refine q_asgG told (gt_tup rfl (gts_cons gt_name (gts_cons gt_name (gts_cons gt_name gts_nil)))) ?_
      refine q_no (et_is (et_B (ev_isN (ev_var (d := .tuple [.int ((m : Int) + 2 + (i : Nat)), .str f]) rfl))) (by rfl)) ?_
      exact q_yes (et_is (et_B (ev_notN (ev_var (d := .tuple [.int ((m : Int) + 2 + (i : Nat)), .str f]) rfl))) (by rfl)) (st_ret (ev_var (d := .tuple [.int ((m : Int) + 2 + (i : Nat)), .str f]) rfl) (by rfl))
    | none =>
    obtain ⟨_, W⟩ := linesF_none h0
    rw [toldR_none h0] at told
    have few := codes_few W
    generalize hwe : (ls.drop (m + 1)).map wordsT = wss at *
    have row : ∀ i, i < m → (ls.take m).getD i Str.empty = ls.getD i Str.empty := fun i h => getD_take h
    have fcode := first_code W
    refine q_asgG told (gt_tup rfl (gts_cons gt_name (gts_cons gt_name (gts_cons gt_name gts_nil)))) ?_
    show ST K E0 _ [.fr (.str z), .fr (.list (ls.map PyData.str)), .fr (.int (m : Nat)), .fr .none, .fr (.list ((firstsW wss).map PyData.str)), .fr (.list ((secW wss).map PyData.str)), .no, .no, .no, .no, .no, .no, .no, .no, .no, .no, .no, .no] _
    have fwl : (firstsW wss).length = wss.length := by unfold firstsW; rw [List.length_map]
    refine q_yes (et_is (et_B (ev_isN (ev_var (d := .none) rfl))) (by rfl)) (st_asg (d := gridR (ls.take m) (firstsW wss)) (ev_call (ea_cons (ev_var rfl) (ea_cons (ev_var rfl) (ea_cons (ev_var rfl) ea_nil))) ⟨ls, firstsW wss, m, rfl, bl, hmany, hwords, by omega, rfl⟩) ?_)
    show ST K E0 _ [.fr (.str z), .fr (.list (ls.map PyData.str)), .fr (.int (m : Nat)), .fr (gridR (ls.take m) (firstsW wss)), .fr (.list ((firstsW wss).map PyData.str)), .fr (.list ((secW wss).map PyData.str)), .no, .no, .no, .no, .no, .no, .no, .no, .no, .no, .no, .no] _
    cases h1 : gridF (ls.take m) (firstsW wss) with
    | some p =>
      obtain ⟨i, f⟩ := p
      rw [rd_grid h0 (by rw [hwe]; exact h1)]
      have eg : gridR (ls.take m) (firstsW wss) = .tuple [.int (1 + (i : Nat)), .str f] := by
        unfold gridR
        rw [h1]
      rw [eg]
      exact q_yes (et_is (et_B (ev_notN (ev_var (d := .tuple [.int (1 + (i : Nat)), .str f]) rfl))) (by rfl)) (st_ret (ev_var (d := .tuple [.int (1 + (i : Nat)), .str f]) rfl) (by rfl))
    | none =>
    have eg : gridR (ls.take m) (firstsW wss) = .none := by
      unfold gridR
      rw [h1]
    rw [eg]
    refine q_no (et_is (et_B (ev_notN (ev_var (d := .none) rfl))) (by rfl)) ?_
    obtain ⟨rne, rok⟩ := gridF_none h1
    have hm0 : 0 < m := by
      rw [← hrl]
      exact List.length_pos_iff.mpr rne
    have hm160 : m ≤ 160 := by
      have := (rowF_none (rok (m - 1) (by omega))).2.2.2.1
      omega
    have rlen : ∀ i, i < m → (ls.getD i Str.empty).length = (ls.getD 0 Str.empty).length ∧ (ls.getD i Str.empty).length ≤ 160 ∧ ∀ c ∈ (ls.getD i Str.empty).cps.toList, oneS c ∈ firstsW wss := fun i hi => by
      have := rowF_none (rok i (by omega))
      rw [row i hi, row 0 hm0] at this
      exact ⟨this.2.1, this.2.2.1, this.2.2.2.2⟩
    have esg : (firstsW wss).map PyData.str = (wss.map codeW).map fun c => PyData.str (oneS c) := by
      rw [fcode, List.map_map]
      rfl
    refine q_asgQ (ds := [.list (ls.map PyData.str), .int (m : Nat), .list ((firstsW wss).map PyData.str)]) (ea_cons (ev_var rfl) (ea_cons (ev_var rfl) (ea_cons (ev_var rfl) ea_nil))) ⟨ls, m, wss.map codeW, by rw [esg], bl, hm160, fun l hl => ?_, by rw [List.length_map]; exact few, codes_nodup W⟩ ?_
    · obtain ⟨i, hi, e⟩ := List.mem_iff_getElem.mp hl
      rw [hrl] at hi
      have := (rlen i hi).2.1
      rw [← row i hi, List.getD_eq_getElem?_getD, List.getElem?_eq_getElem (by omega)] at this
      rw [← e]
      exact this
    rintro d ⟨ls', m', cs', kvs, e, rfl, hkv⟩
    have hkv : ∀ i, i < wss.length → getG kvs (.inr (oneS (codeW (wss.getD i [])))) = fndD (fndN (ls.take m) (codeW (wss.getD i [])) (ls.take m).length) := fun i hi => by
      injection e with e1 e
      injection e with e2 e
      injection e with e3 e
      injection e1 with e1
      injection e2 with e2
      injection e3 with e3
      obtain rfl := map_str_inj e1
      obtain rfl : m = m' := Int.ofNat.inj e2
      rw [esg] at e3
      obtain rfl := map_one_inj e3
      rw [hrl]
      refine hkv _ (List.mem_map.mpr ⟨_, DL.getD_mem (z := []) hi, rfl⟩)
    clear e
    generalize hre : ls.take m = rows at *
    show ST K E0 _ [.fr (.str z), .fr (.list (ls.map PyData.str)), .fr (.int (m : Nat)), .fr .none, .fr (.list ((firstsW wss).map PyData.str)), .fr (.list ((secW wss).map PyData.str)), .fr (dkD kvs), .no, .no, .no, .no, .no, .no, .no, .no, .no, .no, .no] _
    refine q_asgN (d := .list []) (en_lst ea_nil (by decide)) ?_
    have sgn : ∀ (ρ : List Sl) (i : Nat), ρ[4]? = some (.fr (.list ((firstsW wss).map PyData.str))) → ρ[8]? = some (.fr (.int (i : Nat))) → i < wss.length → EV K (tOp (rIx K) (tVar 4) (tVar 8)) ρ (.str (oneS (codeW (wss.getD i [])))) := fun ρ i h4 h8 hi => ev_is (ev_row (k := i) h4 (ev_var h8) (by rw [fwl]; exact hi)) (by
      rw [fcode, List.map_map, getD_map hi [] Str.empty]
      rfl)
    refine q_for (ei_rng1 (ea_cons (ev_is (d := .int ((((firstsW wss).map PyData.str).length : Nat) : Int)) (ev_cb (ea_cons (ev_var rfl) ea_nil) cd_lenL) (e := .int (wss.length : Nat)) (by rw [List.length_map, fwl])) ea_nil) (by omega) (by omega)) (fun i ρ => (∀ j, j < i → boxF rows (codeW (wss.getD j [])) = none) ∧ ∃ s8 s9 s10 s11 s12 s13 : Sl, ρ = [.fr (.str z), .fr (.list (ls.map PyData.str)), .fr (.int (m : Nat)), .fr .none, .fr (.list ((firstsW wss).map PyData.str)), .fr (.list ((secW wss).map PyData.str)), .fr (dkD kvs), .ow (.list ((wss.take i).map fun ws => bxD (boxO rows (codeW ws)))), s8, s9, s10, s11, s12, s13, .no, .no, .no, .no]) ⟨fun j hj => absurd hj (Nat.not_lt_zero _), _, _, _, _, _, _, rfl⟩ ?_ ?_
    · rintro i ρ hi ⟨hb, s8, s9, s10, s11, s12, s13, rfl⟩
      have hi : i < wss.length := by omega
      refine ⟨_, _, gt_name, ?_⟩
      have hg := hkv i hi
      show ST K E0 _ [.fr (.str z), .fr (.list (ls.map PyData.str)), .fr (.int (m : Nat)), .fr .none, .fr (.list ((firstsW wss).map PyData.str)), .fr (.list ((secW wss).map PyData.str)), .fr (dkD kvs), .ow (.list ((wss.take i).map fun ws => bxD (boxO rows (codeW ws)))), .fr (.int (i : Nat)), s9, s10, s11, s12, s13, .no, .no, .no, .no] _
      have retf : ∀ (ρ : List Sl) (f : Str), ρ[2]? = some (.fr (.int (m : Nat))) → ρ[8]? = some (.fr (.int (i : Nat))) → boxF rows (codeW (wss.getD i [])) = some f → EV K (tTup (tCons (tOp (rAddU K) (tOp (rAddU K) (tVar 2) (tC (.int 2))) (tVar 8)) (tCons (tC (.str f)) tNil))) ρ (resX (readAt ls m)) := fun ρ f h2 h8 hf => by
        rw [rd_box h0 (by rw [hwe, hre]; exact h1) (i := i) (w' := f) (by rw [hwe, hre]; exact firstO_some hi hb hf)]
        exact ev_tup (ds := [.int ((m : Int) + 2 + (i : Nat)), .str f]) (ea_cons (ev_op (ev_op (ev_var h2) ev_int od_addI) (ev_var h8) od_addI) (ea_cons ev_str ea_nil)) s2
      cases hq : fndN rows (codeW (wss.getD i [])) rows.length with
      | none =>
        rw [hq] at hg
        refine q_yes (et_is (et_B (ev_ninD (k := .inr (oneS (codeW (wss.getD i [])))) (sgn _ i rfl rfl hi) rfl (ev_var rfl))) (by unfold hasG; rw [hg]; rfl)) ?_
        exact st_ret (retf _ "lacks" rfl rfl (found_none hq)) (by rfl)
      | some p =>
        obtain ⟨w0, s0, e1, n1, a1⟩ := p
        rw [hq] at hg
        refine q_no (et_is (et_B (ev_ninD (k := .inr (oneS (codeW (wss.getD i [])))) (sgn _ i rfl rfl hi) rfl (ev_var rfl))) (by unfold hasG; rw [hg]; rfl)) ?_
        refine q_asgG (d := .tuple [.int w0, .int s0, .int e1, .int n1, .int a1]) (ev_getD (k := .inr (oneS (codeW (wss.getD i [])))) (ev_var rfl) (sgn _ i rfl rfl hi) rfl hg) (gt_tup rfl (gts_cons gt_name (gts_cons gt_name (gts_cons gt_name (gts_cons gt_name (gts_cons gt_name gts_nil)))))) ?_
        show ST K E0 _ [.fr (.str z), .fr (.list (ls.map PyData.str)), .fr (.int (m : Nat)), .fr .none, .fr (.list ((firstsW wss).map PyData.str)), .fr (.list ((secW wss).map PyData.str)), .fr (dkD kvs), .ow (.list ((wss.take i).map fun ws => bxD (boxO rows (codeW ws)))), .fr (.int (i : Nat)), .fr (.int w0), .fr (.int s0), .fr (.int e1), .fr (.int n1), .fr (.int a1), .no, .no, .no, .no] _
        have hbd := fnd_bound hq
        refine q_when (b := !decide (a1 = (e1 - w0) * (n1 - s0))) (et_test (ev_op (ev_var rfl) (ev_op (ev_op (ev_var rfl) (ev_var rfl) od_sub) (ev_op (ev_var rfl) (ev_var rfl) od_sub) (od_mulI (.inr (by omega)))) od_neI)) (fun h => ?_) fun h => ?_
        · exact st_ret (retf _ "box" rfl rfl (found_odd hq (by simpa using h))) (by rfl)
        · have ha : a1 = (e1 - w0) * (n1 - s0) := by simpa using h
          obtain ⟨f1, f2⟩ := found_rect hq ha
          refine st_append (n := 7) rfl (d := bxD ⟨w0, s0, e1, n1⟩) (ev_tup (ds := [.int w0, .int s0, .int e1, .int n1]) (ea_cons (ev_var rfl) (ea_cons (ev_var rfl) (ea_cons (ev_var rfl) (ea_cons (ev_var rfl) ea_nil)))) s4) (by rw [List.length_map, List.length_take]; omega) ⟨fun j hj => ?_, .fr (.int (i : Nat)), .fr (.int w0), .fr (.int s0), .fr (.int e1), .fr (.int n1), .fr (.int a1), ?_⟩
          · by_cases ej : j = i
            · rw [ej]
              exact f1
            · exact hb j (by omega)
          · rw [take_one hi [], List.map_append]
            show _ = [_, _, _, _, _, _, _, Sl.ow (.list (_ ++ [bxD (boxO rows (codeW (wss.getD i [])))])), _, _, _, _, _, _, _, _, _, _]
            rw [f2]
            rfl
    · rintro ρ ⟨hb, s8, s9, s10, s11, s12, s13, rfl⟩
      rw [Int.toNat_natCast] at hb ⊢
      rw [List.take_length]
      have h2 : firstO (fun i => boxF rows (codeW (wss.getD i []))) wss.length = none := firstO_none hb
      refine q_for (ei_rng1 (ea_cons (ev_op (ev_var (d := .int (m : Nat)) rfl) ev_int od_sub) ea_nil) (by omega) (by omega)) (fun i ρ => (∀ j, j < i → fourF rows j = none) ∧ ∃ s8 s14 s15 s16 : Sl, ρ = [.fr (.str z), .fr (.list (ls.map PyData.str)), .fr (.int (m : Nat)), .fr .none, .fr (.list ((firstsW wss).map PyData.str)), .fr (.list ((secW wss).map PyData.str)), .fr (dkD kvs), .ow (.list (wss.map fun ws => bxD (boxO rows (codeW ws)))), s8, s9, s10, s11, s12, s13, s14, s15, s16, .no]) ⟨fun j hj => absurd hj (Nat.not_lt_zero _), _, _, _, _, rfl⟩ ?_ ?_
      · rintro i ρ hi ⟨hb4, s8, s14, s15, s16, rfl⟩
        have hi1 : i + 1 < m := by omega
        refine ⟨_, _, gt_name, ?_⟩
        obtain ⟨l1, l2, l3⟩ := rlen i (by omega)
        obtain ⟨k1, k2, k3⟩ := rlen (i + 1) hi1
        have e4 := four_eq (rows := rows) (k := i) (by omega) (by rw [row i (by omega), row (i + 1) hi1]; omega) (fun c hc => boxes_rect (wss := wss) hb (by rw [← fcode]; rw [row i (by omega)] at hc; exact l3 c hc))
        have f4 : fourF rows i = if fourB (rows.getD i Str.empty) (rows.getD (i + 1) Str.empty) = true then (some "four" : Option Str) else none := rfl
        rw [row i (by omega), row (i + 1) hi1] at e4 f4
        refine q_asgG (d := .tuple [.str (ls.getD i Str.empty), .str (ls.getD (i + 1) Str.empty)]) (ev_tup (ea_cons (ev_row (k := i) rfl (ev_var rfl) (by omega)) (ea_cons (ev_row (k := i + 1) rfl (ev_op (ev_var (d := .int (i : Nat)) rfl) ev_int od_addI) (by omega)) ea_nil)) s2) (gt_tup rfl (gts_cons gt_name (gts_cons gt_name gts_nil))) ?_
        generalize hu : ls.getD i Str.empty = u at *
        generalize hl' : ls.getD (i + 1) Str.empty = l at *
        show ST K E0 _ [.fr (.str z), .fr (.list (ls.map PyData.str)), .fr (.int (m : Nat)), .fr .none, .fr (.list ((firstsW wss).map PyData.str)), .fr (.list ((secW wss).map PyData.str)), .fr (dkD kvs), .ow (.list (wss.map fun ws => bxD (boxO rows (codeW ws)))), .fr (.int (i : Nat)), s9, s10, s11, s12, s13, .fr (.str u), .fr (.str l), s16, .no] _
        have us : u.length ≤ sizeLine := by rw [sizeLine_eq]; omega
        have ls' : l.length ≤ sizeLine := by rw [sizeLine_eq]; omega
        have ul : u.length = l.length := by omega
        have a0 : ∀ (ρ : List Sl) (n : Nat) (y : Str) (x : Nat), ρ[n]? = some (.fr (.str y)) → ρ[17]? = some (.fr (.int (1 + (x : Nat)))) → y.length ≤ sizeLine → x + 1 < y.length → EV K (tOp (rIx K) (tVar n) (tOp rSubU (tVar 17) (tC (.int 1)))) ρ (.str (oneS (uch y x))) ∧ EV K (tOp (rIx K) (tVar n) (tVar 17)) ρ (.str (oneS (uch y (x + 1)))) := fun ρ n y x hn h17 hy hx =>
          ⟨ev_op (ev_var hn) (ev_is (ev_op (ev_var h17) ev_int od_sub) (e := .int ((x : Nat) : Int)) (by congr 1; omega)) (od_ixS hy (ix_ch (by omega))), ev_op (ev_var hn) (ev_is (ev_var h17) (e := .int ((x + 1 : Nat) : Int)) (by congr 1; omega)) (od_ixS hy (ix_ch hx))⟩
        refine q_asg (d := .list (((List.range (u.length - 1)).filter fun x => neB (uch u x) (uch u (x + 1))).map fun x => PyData.int (1 + (x : Nat)))) (ev_N (en_is (en_lc (n := ((u.length : Int) - 1).toNat) (b := fun x => neB (uch u x) (uch u (x + 1))) (f := fun x => .int (1 + (x : Nat))) (ei_rng2 (m := 1) (n := u.length) (ea_cons ev_int (ea_cons (ev_cb (ea_cons (ev_var rfl) ea_nil) (cd_lenS us)) ea_nil)) (by omega)) (by omega) fun x hx => ⟨_, _, gt_name, by simp, et_test (ev_op (a0 _ 14 u x rfl rfl us (by omega)).1 (a0 _ 14 u x rfl rfl us (by omega)).2 od_neS), fun _ => ev_var rfl⟩) (by rw [show ((u.length : Int) - 1).toNat = u.length - 1 from by omega, lc_rngF]))) ?_
        have inr : ∀ {x : Nat} {p : Nat → Bool}, x ∈ (List.range (u.length - 1)).filter p → x + 1 < u.length := fun h => by
          have := List.mem_range.mp (List.mem_filter.mp h).1
          omega
        generalize hc1 : ((List.range (u.length - 1)).filter fun x => neB (uch u x) (uch u (x + 1))) = c1 at *
        have hc1m : ∀ x ∈ c1, x + 1 < u.length := fun x hx => by
          rw [← hc1] at hx
          exact inr hx
        have hc1l : c1.length ≤ 160 := by
          rw [← hc1]
          have := List.length_filter_le (fun x => neB (uch u x) (uch u (x + 1))) (List.range (u.length - 1))
          rw [List.length_range] at this
          omega
        refine q_asg (d := .list ((c1.filter fun x => neB (uch l x) (uch l (x + 1))).map fun x => PyData.int (1 + (x : Nat)))) (ev_N (en_is (en_lc (n := c1.length) (b := fun j => neB (uch l (c1.getD j 0)) (uch l (c1.getD j 0 + 1))) (f := fun j => .int (1 + (c1.getD j 0 : Nat))) (ei_map (h := fun x : Nat => PyData.int (1 + (x : Nat))) 0 (zs := c1) (ev_var rfl)) (by omega) fun j hj => ⟨_, _, gt_name, by simp, et_test (ev_op (a0 _ 15 l (c1.getD j 0) rfl rfl ls' (by rw [← ul]; exact hc1m _ (DL.getD_mem hj))).1 (a0 _ 15 l (c1.getD j 0) rfl rfl ls' (by rw [← ul]; exact hc1m _ (DL.getD_mem hj))).2 od_neS), fun _ => ev_var rfl⟩) (congrArg PyData.list (lc_filterA (p := fun x => neB (uch l x) (uch l (x + 1))) (h := fun x : Nat => PyData.int (1 + (x : Nat))) 0 c1)))) ?_
        have hcut : cutsL u l = (c1.filter fun x => neB (uch l x) (uch l (x + 1))).filter fun x => neB (uch u x) (uch l x) && neB (uch u (x + 1)) (uch l (x + 1)) := by
          unfold cutsL
          rw [hc1]
        generalize hc2 : (c1.filter fun x => neB (uch l x) (uch l (x + 1))) = c2 at *
        have hc2m : ∀ x ∈ c2, x + 1 < u.length := fun x hx => by
          rw [← hc2] at hx
          exact hc1m x (List.mem_filter.mp hx).1
        have hc2l : c2.length ≤ 160 := by
          rw [← hc2]
          have := List.length_filter_le (fun x => neB (uch l x) (uch l (x + 1))) c1
          omega
        refine st_if (b := fourB u l) (et_is (et_test (ev_op (ev_cb (ea_cons (ev_N (en_is (en_lc (n := c2.length) (b := fun j => neB (uch u (c2.getD j 0)) (uch l (c2.getD j 0)) && neB (uch u (c2.getD j 0 + 1)) (uch l (c2.getD j 0 + 1))) (f := fun j => .int (1 + (c2.getD j 0 : Nat))) (ei_map (h := fun x : Nat => PyData.int (1 + (x : Nat))) 0 (zs := c2) (ev_var rfl)) (by omega) fun j hj => ⟨_, _, gt_name, by simp, et_and (et_test (ev_op (a0 _ 14 u (c2.getD j 0) rfl rfl us (hc2m _ (DL.getD_mem hj))).1 (a0 _ 15 l (c2.getD j 0) rfl rfl ls' (by rw [← ul]; exact hc2m _ (DL.getD_mem hj))).1 od_neS)) (fun _ => et_test (ev_op (a0 _ 14 u (c2.getD j 0) rfl rfl us (hc2m _ (DL.getD_mem hj))).2 (a0 _ 15 l (c2.getD j 0) rfl rfl ls' (by rw [← ul]; exact hc2m _ (DL.getD_mem hj))).2 od_neS)), fun _ => ev_var rfl⟩) (congrArg PyData.list (lc_filterA (p := fun x => neB (uch u x) (uch l x) && neB (uch u (x + 1)) (uch l (x + 1))) (h := fun x : Nat => PyData.int (1 + (x : Nat))) 0 c2)))) ea_nil) cd_lenL) ev_int od_cmpI)) (by rw [← e4, hcut, List.length_map]; exact decide_eq_decide.mpr (by omega))) (fun h => ?_) fun h => st_next ⟨fun j hj => ?_, _, _, _, _, rfl⟩
        · rw [rd_four h0 (by rw [hwe, hre]; exact h1) (by rw [hwe, hre]; exact h2) (i := i) (w' := "four") (by rw [hre]; exact firstO_some (by omega) hb4 (by rw [f4, if_pos h]))]
          refine st_ret (ev_tup (ds := [.int ((i + 1 : Nat) : Int), .str "four"]) (ea_cons (ev_op (ev_var (d := .int (i : Nat)) rfl) ev_int od_addI) (ea_cons ev_str ea_nil)) s2) (by rfl)
        · by_cases ej : j = i
          · rw [ej, f4, if_neg (by rw [h]; exact Bool.false_ne_true)]
          · exact hb4 j (by omega)
      · rintro ρ ⟨hb4, s8, s14, s15, s16, rfl⟩
        have h3 : firstO (fourF rows) (m - 1) = none := firstO_none fun j hj => hb4 j (by omega)
        rw [rd_ok h0 (by rw [hwe, hre]; exact h1) (by rw [hwe, hre]; exact h2) (by rw [hre]; exact h3), hwe, hre]
        refine q_frz (i := 7) rfl ?_
        have := (rlen 0 hm0).2.1
        refine st_ret (ev_tup (ds := [.tuple ((wss.map fun ws => ws.getD 1 Str.empty).map PyData.str), .int ((rows.getD 0 Str.empty).length : Nat), .int (m : Nat), .tuple ((wss.map fun ws => boxO rows (codeW ws)).map bxD)])
          (ea_cons (ev_cb (ea_cons (ev_var rfl) ea_nil) cd_tupL) (ea_cons (ev_is (ev_cb (ea_cons (ev_row (k := 0) rfl ev_int (by omega)) ea_nil) (cd_lenS (by rw [sizeLine_eq]; omega))) (by rw [row 0 hm0])) (ea_cons (ev_var rfl) (ea_cons (ev_cb (ea_cons (ev_is (ev_var rfl) (by rw [List.map_map]; rfl)) ea_nil) cd_tupL) ea_nil)))) s4) (by rfl)
theorem plainA_of {ds : List D} (h : ∀ d ∈ ds, plain d = true) : plainA ds = true := by
  induction ds with
  | nil => exact plainA.eq_1
  | cons d ds ih =>
    rw [plainA.eq_2, h d List.mem_cons_self, ih fun e he => h e (List.mem_cons_of_mem _ he)]
    rfl
theorem plain_tup {ds : List D} (h : ∀ d ∈ ds, plain d = true) : plain (.tuple ds) = true := by
  rw [plain]
  exact plainA_of h
theorem nodes_tup (ds : List D) : nodes (.tuple ds) = 1 + tot ds := by rw [nodes, nodesA_tot]
theorem tot_map {α : Type} {f : α → D} {c : Nat} (h : ∀ a, nodes (f a) = c) (l : List α) : tot (l.map f) = c * l.length := by
  induction l with
  | nil => rfl
  | cons a l ih =>
    show nodes (f a) + tot (l.map f) = _
    rw [ih, h a, List.length_cons, Nat.mul_succ]
    omega
theorem nodes_str (z : Str) : nodes (.str z) = 1 := by rw [nodes]; simp
theorem nodes_int (i : Int) : nodes (.int i) = 1 := by rw [nodes]; simp
theorem nodes_bx (b : Bx) : nodes (bxD b) = 5 := by
  unfold bxD
  rw [nodes_tup]
  show 1 + (nodes (.int b.w) + (nodes (.int b.s) + (nodes (.int b.e) + (nodes (.int b.n) + 0)))) = 5
  rw [nodes_int, nodes_int, nodes_int, nodes_int]
theorem nodes_pl (rs : List Str) (w h : Int) (bs : List Bx) : nodes (plD rs w h bs) = 5 + rs.length + 5 * bs.length := by
  unfold plD
  rw [nodes_tup]
  show 1 + (nodes (.tuple (rs.map PyData.str)) + (nodes (.int w) + (nodes (.int h) + (nodes (.tuple (bs.map bxD)) + 0)))) = _
  rw [nodes_tup, nodes_tup, nodes_int, nodes_int, tot_map nodes_str, tot_map nodes_bx]
  omega
theorem plain_str (z : Str) : plain (.str z) = true := by rw [plain]
theorem plain_int (i : Int) : plain (.int i) = true := by rw [plain]
theorem plain_bx (b : Bx) : plain (bxD b) = true := plain_tup (by
  intro d hd
  simp only [List.mem_cons, List.not_mem_nil, or_false] at hd
  rcases hd with rfl | rfl | rfl | rfl <;> exact plain_int _)
theorem plain_pl (rs : List Str) (w h : Int) (bs : List Bx) : plain (plD rs w h bs) = true := plain_tup (by
  intro d hd
  simp only [List.mem_cons, List.not_mem_nil, or_false] at hd
  rcases hd with rfl | rfl | rfl | rfl
  · refine plain_tup fun d hd => ?_
    obtain ⟨z, _, rfl⟩ := List.mem_map.mp hd
    exact plain_str z
  · exact plain_int _
  · exact plain_int _
  · refine plain_tup fun d hd => ?_
    obtain ⟨b, _, rfl⟩ := List.mem_map.mp hd
    exact plain_bx b)
theorem plain_iw (l : Int) (w' : Str) : plain (.tuple [.int l, .str w']) = true := plain_tup (by
  intro d hd
  simp only [List.mem_cons, List.not_mem_nil, or_false] at hd
  rcases hd with rfl | rfl
  · exact plain_int _
  · exact plain_str _)
theorem nodes_iw (l : Int) (w' : Str) : nodes (.tuple [.int l, .str w']) = 3 := by
  rw [nodes_tup]
  show 1 + (nodes (.int l) + (nodes (.str w') + 0)) = 3
  rw [nodes_int, nodes_str]
theorem readT_ok {z : Str} (hz : TP z) {rs : List Str} {w' h : Nat} {bs : List Bx} (e : readT z = .ok rs w' h bs) : rs.length ≤ 2000 ∧ bs.length ≤ 2000 := by
  have hm := hz.many
  unfold readT at e
  generalize linesT z = ls at *
  unfold readL at e
  split at e
  · generalize barP ls = m at *
    unfold readAt at e
    split at e
    · cases e
    · dsimp only at e
      split at e
      · cases e
      · split at e
        · cases e
        · split at e
          · cases e
          · injection e with e1 e2 e3 e4
            rw [← e1, ← e4]
            simp
            omega
  · cases e
theorem ok_u_law_ask (T : Txt K mg) (hd : FnP K "_law_ask" s_u_law_ask) (hm : mg "_law_ask" = some (.ref (He.ga K "_law_ask"))) (O_u_law_due : Okd P w K mg base CX0 3 "_law_due" ["text"] (sp_u_law_due K)) (O_read_picture : Okd P w K mg base (L2N.CX P w) 5 "read_picture" ["text"] (sp_read_picture K)) (O_u_law_same : Okd P w K mg base CX0 2 "_law_same" ["told", "due"] (sp_u_law_same K)) (X_BadText : ExOk P w K mg base 1 "BadText" ["line", "word"]) : Okd P w K mg base CX0 6 "_law_ask" ["text"] (sp_u_law_ask K) := by
  obtain ⟨fd, F⟩ := hd
  refine ⟨hm, fd, fn_pf F sc_u_law_ask ?_ (fun cdv A outer s H E hr => ⟨_, dv_u_law_ask T O_u_law_due O_read_picture O_u_law_same X_BadText cdv A outer s H E hr, ?_⟩), F.bindsN (fun _ _ _ _ _ _ us hl => match us, hl with | [_], _ => rfl), F.kp⟩
  · rintro ds d ⟨x0, rfl, _⟩
    rfl
  · rintro ds d ⟨z, rfl, hz, rfl⟩
    refine ST.mono (P := fun o => o = .rt (.bool true)) ?_ fun o h => .inl h
    show ST K E0 (t_u_law_ask K) [.fr (.str z), .no, .no, .no, .no, .no, .no] _
    unfold t_u_law_ask sp_u_law_due sp_read_picture sp_u_law_same
    refine q_asg (ev_call (ea_cons (ev_var rfl) ea_nil) ⟨_, rfl, hz, rfl⟩) ?_
    refine q_asg ev_non ?_
    refine q_asg ev_bl ?_
    refine q_asgG (d := .tuple [.none, .none]) (ev_tup (ea_cons ev_non (ea_cons ev_non ea_nil)) s2) (gt_tup rfl (gts_cons gt_name (gts_cons gt_name gts_nil))) ?_
    cases hn : readT z with
    | ok rs w' h bs =>
      obtain ⟨h1, h2⟩ := readT_ok hz hn
      have en : EV K (tCB (rLen K) (tCons (tVar 1) tNil)) [.fr (.str z), .fr (plD rs w' h bs), .fr (plD rs w' h bs), .fr (.bool false), .fr .none, .fr .none, .no] (.int 4) := ev_cb (ea_cons (ev_var (d := plD rs w' h bs) rfl) ea_nil) cd_lenT
      refine st_seq (st_tryA (ea_cons (ev_var rfl) ea_nil) (.inl ⟨_, ⟨_, rfl, hz, rs, w', h, bs, hn, rfl⟩, ?_⟩))
      show ST K E0 _ [.fr (.str z), .fr (plD rs w' h bs), .fr (plD rs w' h bs), .fr (.bool false), .fr .none, .fr .none, .no] _
      refine q_no (et_is (et_test (ev_op en ev_int od_eqI)) (by rfl)) ?_
      refine st_ret (d := .bool true) (ev_is (d := .bool (true && true)) ?_ rfl) rfl
      refine ev_andV (ev_is (d := .bool (!false)) (ev_notV (ev_var rfl)) rfl) fun _ => ?_
      exact ev_call (ea_cons (ev_var rfl) (ea_cons (ev_var rfl) ea_nil)) ⟨_, rfl, plain_pl _ _ _ _, by rw [nodes_pl]; omega, rfl⟩
    | bad l wd =>
      refine st_seq (st_tryA (ea_cons (ev_var rfl) ea_nil) (.inr ⟨_, _, ⟨_, rfl, hz, l, wd, hn, rfl, rfl⟩, T.e_BadText_BadText, fun a dd => ?_⟩))
      unfold ts_u_law_ask
      have isR : ∀ {c : Addr} {b : Bool} (ρ : List Sl), ρ[6]? = some (Sl.ex a dd [(("word" : Str), .str wd), (("line" : Str), .int l)]) → PySem.W.kitOne K (.ref (He.ga K "BadText")) (.ref c) = some b → EV K (tCB (rIsX K (.ref (He.ga K "BadText")) (some dd) a) (tCons (tVar 6) (tCons (tC (.ref c)) tNil))) ρ (.bool b) := fun ρ h k => ev_isX h T.x_BadText.exc (fun _ z => z) k
      have isT : ∀ {c : String} {b : Bool} (ρ : List Sl), ρ[6]? = some (Sl.ex a dd [(("word" : Str), .str wd), (("line" : Str), .int l)]) → PySem.W.kitOne K (.ref (He.ga K "BadText")) (.type c) = some b → EV K (tCB (rIsX K (.ref (He.ga K "BadText")) (some dd) a) (tCons (tVar 6) (tCons (tC (.ty c)) tNil))) ρ (.bool b) := fun ρ h k => ev_isX h T.x_BadText.exc (fun _ z => z) k
      refine q_no (et_is (et_or (et_not (et_trB (isR _ rfl T.k_BadText_TextError))) fun _ => et_or (et_not (et_trB (isR _ rfl T.k_BadText_PlanError))) fun _ => et_not (et_trB (isT _ rfl T.k_BadText_ValueError))) (by rfl)) ?_
      refine q_no (et_is (et_or (et_trB (isR _ rfl T.k_BadText_DataError)) fun _ => et_or (et_trB (isR _ rfl T.k_BadText_CallError)) fun _ => et_trB (isR _ rfl T.k_BadText_DeskError)) (by rfl)) ?_
      refine q_asg ev_bl ?_
      refine st_par (ev_xf (d := .int l) rfl rfl) (ev_xf (d := .str wd) rfl rfl) ?_
      show ST K E0 _ [.fr (.str z), .fr (.tuple [.int l, .str wd]), .fr .none, .fr (.bool true), .fr (.int l), .fr (.str wd), .no] _
      have en : EV K (tCB (rLen K) (tCons (tVar 1) tNil)) [.fr (.str z), .fr (.tuple [.int l, .str wd]), .fr .none, .fr (.bool true), .fr (.int l), .fr (.str wd), .no] (.int 2) := ev_cb (ea_cons (ev_var (d := .tuple [.int l, .str wd]) rfl) ea_nil) cd_lenT
      refine q_yes (et_is (et_test (ev_op en ev_int od_eqI)) (by rfl)) ?_
      refine st_ret (d := .bool true) (ev_is (d := .bool (true && true)) ?_ rfl) rfl
      refine ev_andV (ev_var rfl) fun _ => ?_
      exact ev_call (ea_cons (ev_tup (ea_cons (ev_var rfl) (ea_cons (ev_var rfl) ea_nil)) s2) (ea_cons (ev_var rfl) ea_nil)) ⟨.tuple [.int l, .str wd], rfl, plain_iw _ _, by rw [nodes_iw]; omega, rfl⟩
theorem ok_u_law_wide (T : Txt K mg) (hd : FnP K "_law_wide" s_u_law_wide) (hm : mg "_law_wide" = some (.ref (He.ga K "_law_wide"))) (O_picture_of : Okd P w K mg base (L2N.CX P w) 3 "picture_of" ["plan"] (sp_picture_of K)) (X_BadStep : ExOk P w K mg base 1 "BadStep" ["word"]) : Okd P w K mg base CX0 4 "_law_wide" ["plan"] (sp_u_law_wide K) := by
  obtain ⟨fd, F⟩ := hd
  refine ⟨hm, fd, fn_pf F sc_u_law_wide ?_ (fun cdv A outer s H E hr => ⟨_, dv_u_law_wide T O_picture_of X_BadStep cdv A outer s H E hr, ?_⟩), F.bindsN (fun _ _ _ _ _ _ us hl => match us, hl with | [_], _ => rfl), F.kp⟩
  · rintro ds d ⟨x0, x1, x2, x3, rfl, _⟩
    rfl
  · rintro ds d ⟨rs, w', h, bs, rfl, hwh, rfl⟩
    refine ST.mono (P := fun o => o = .rt (.bool true)) ?_ fun o h => .inl h
    show ST K E0 (t_u_law_wide K) [.fr (plD rs w' h bs), .no, .no] _
    unfold t_u_law_wide sp_picture_of
    refine q_asg ev_str ?_
    refine st_seq (st_tryE (ea_cons (ev_var rfl) ea_nil) (.inr ⟨_, _, ⟨rs, w', h, bs, rfl, hwh, rfl, rfl⟩, T.e_BadStep_BadStep, fun a dd => ?_⟩))
    unfold ts_u_law_wide
    refine st_asg (ev_xf (d := .str "wide") rfl rfl) ?_
    show ST K E0 _ [.fr (plD rs w' h bs), .fr (.str "wide"), .no] _
    refine st_ret (d := .bool true) (ev_is (d := .bool (true && true)) ?_ rfl) rfl
    exact ev_andV (ev_isi (ev_var (d := .str "wide") rfl) rfl (show kitB _ _ = some true from rfl)) fun _ => ev_is (ev_op (ev_var (d := .str "wide") rfl) ev_str od_eqS) (congrArg PyData.bool (decide_eq_true rfl))
/-! the law's changed texts -/
theorem line_app {a b : Nat} {x y : Str} (h : LineP a x) (k : LineP b y) : LineP (a + b) (x ++ y) := by
  refine ⟨?_, by rw [DL.len_app]; exact Nat.add_le_add h.2 k.2⟩
  rw [PyProof.Rows.cps_toList_append]
  exact fun hm => (List.mem_append.mp hm).elim h.1 k.1
theorem LineP.mono {a b : Nat} {x : Str} (h : LineP a x) (k : a ≤ b) : LineP b x := ⟨h.1, Nat.le_trans h.2 k⟩
theorem line_cut {n : Nat} {z : Str} (h : LineP n z) (lo hi : Option Int) : LineP n (cutS z lo hi) := by
  refine ⟨fun hm => h.1 ?_, Nat.le_trans (DL.len_cut z lo hi) h.2⟩
  unfold cutS at hm
  exact List.mem_of_mem_drop (List.mem_of_mem_take hm)
theorem line_one {n c : Nat} {z : Str} (h : LineP n z) (hc : c ∈ z.cps.toList) : LineP 1 (oneS c) := by
  refine ⟨fun hm => h.1 ?_, Nat.le_refl _⟩
  have : (10 : Nat) = c := by simpa [oneS] using hm
  rw [this]
  exact hc
def TxtX (n : Nat) : D → Prop := fun d => ∃ z, d = .str z ∧ LineP n z
def LstX (n m : Nat) : D → Prop := fun d => ∃ ls : List Str, d = .list (ls.map PyData.str) ∧ Rows n m ls
theorem Rows.mono {a b m k : Nat} {ls : List Str} (h : Rows a m ls) (h1 : a ≤ b) (h2 : m ≤ k) : Rows b k ls := ⟨fun l hl => (h.line l hl).mono h1, Nat.le_trans h.many h2⟩
theorem Rows.app {n a b : Nat} {x y : List Str} (h : Rows n a x) (k : Rows n b y) : Rows n (a + b) (x ++ y) := ⟨fun l hl => (List.mem_append.mp hl).elim (h.line l) (k.line l), by rw [List.length_append]; exact Nat.add_le_add h.many k.many⟩
theorem evx_addL {ρ : List Sl} {ta tb : TE} {n a b : Nat} (ha : EVX K ta ρ (LstX n a)) (hb : EVX K tb ρ (LstX n b)) (h : a + b ≤ 100000) : EVX K (tOp (rAddU K) ta tb) ρ (LstX n (a + b)) := evx_N (evnx_op ha hb (by
  rintro u v ⟨x, rfl, hx⟩ ⟨y, rfl, hy⟩
  exact ⟨_, on_addL (by rw [sizeLine_eq, List.length_map, List.length_map]; have := hx.many; have := hy.many; omega), x ++ y, by rw [List.map_append], hx.app hy⟩))
theorem evx_lst1 {ρ : List Sl} {te : TE} {n : Nat} (h : EVX K te ρ (TxtX n)) : EVX K (tLst (tCons te tNil)) ρ (LstX n 1) := evx_N (evnx_lst (Pl := fun ds => ∃ z, ds = [.str z] ∧ LineP n z) (eax_one h (by rintro d ⟨z, rfl, hz⟩; exact ⟨z, rfl, hz⟩)) (by
  rintro ds ⟨z, rfl, hz⟩
  exact ⟨by show 1 ≤ sizeLine; rw [sizeLine_eq]; decide, [z], rfl, fun l hl => by rw [List.mem_singleton.mp hl]; exact hz, Nat.le_refl _⟩))
theorem evx_pick {ρ : List Sl} {ta tb : TE} {zs : List Str} {n : Nat} (h : EV K ta ρ (.list (zs.map PyData.str))) (ht : EVX K tb ρ (IntB zs.length)) (hz : ∀ z ∈ zs, LineP n z) : EVX K (tOp (rIx K) ta tb) ρ (TxtX n) := evx_op (Pa := fun d => d = .list (zs.map PyData.str)) (evx_of h rfl) ht (by
  rintro a b rfl ⟨v, rfl, h0, h1⟩
  exact ⟨_, od_ixL (atI_strs h0 h1), _, rfl, hz _ (DL.getD_mem (by omega))⟩)
theorem ev_takeB {ρ : List Sl} {n : Nat} {m : Int} {tb : TE} (hi : ρ[n]? = some (.fr stD)) (hb : EV K tb ρ (.int m)) (h0 : 0 < m) (h1 : m ≤ 1000000) : EVX K (tCall (sp_u_law_take K) [] E0 (tCons (tVar n) (tCons tb tNil))) ρ (IntB m) := ev_take hi hb h0 h1 fun v a b => ⟨v, rfl, a, b⟩
theorem litP {n : Nat} {z : Str} (h : z.cps.toList.contains 10 = false) (k : z.length ≤ n) : LineP n z := by
  refine ⟨fun hm => ?_, k⟩
  rw [List.contains_iff_mem.mpr hm] at h
  cases h
theorem ok_u_law_change (T : Txt K mg) (hd : FnP K "_law_change" s_u_law_change) (hm : mg "_law_change" = some (.ref (He.ga K "_law_change"))) (O_u_law_take : Okd P w K mg base CX0 1 "_law_take" ["state", "many"] (sp_u_law_take K)) : Okd P w K mg base CX0 2 "_law_change" ["state", "line", "signs"] (sp_u_law_change K) := by
  obtain ⟨fd, F⟩ := hd
  refine ⟨hm, fd, fn_pq F sc_u_law_change ?_ (fun cdv A outer s H E hr => ⟨_, dv_u_law_change T O_u_law_take cdv A outer s H E hr, ?_⟩), F.bindsN (fun _ _ _ _ _ _ us hl => match us, hl with | [_, _, _], _ => rfl), F.kp⟩
  · rintro ds ⟨x0, x1, x2, rfl, _⟩
    rfl
  · rintro ds ⟨n, l, sg, rfl, n4, n1, hl, hs⟩
    show ST K E0 (t_u_law_change K) [.fr stD, .fr (.str l), .fr (.str sg), .no, .no, .no, .no] _
    unfold t_u_law_change
    have hl2 := hl.2
    have hs2 := hs.2
    have hN : LineP l.length l := ⟨hl.1, Nat.le_refl _⟩
    refine q_when (b := decide (l = ("" : Str))) (et_test (ev_op (ev_var (d := .str l) rfl) ev_str od_eqS)) (fun h => ?_) fun h => ?_
    · refine st_retV (evx_pick (n := 2) (zs := ["a", " ", "-", "--"]) (ev_N (en_lst (ds := (["a", " ", "-", "--"] : List Str).map PyData.str) (ea_cons ev_str (ea_cons ev_str (ea_cons ev_str (ea_cons ev_str ea_nil)))) (by show 4 ≤ sizeLine; rw [sizeLine_eq]; decide))) (ev_takeB (n := 0) rfl ev_int (by decide) (by decide)) ?_) ?_
      · intro z hz
        simp only [List.mem_cons, List.not_mem_nil, or_false] at hz
        rcases hz with rfl | rfl | rfl | rfl <;> exact litP (by decide +kernel) (by decide +kernel)
      · rintro d ⟨z, rfl, hz⟩
        exact ⟨_, rfl, n, l, z, [.str sg], rfl, rfl, hz.1, by have := hz.2; omega⟩
    have hne := of_decide_eq_false h
    have hpos : 0 < l.length := by
      rcases Nat.eq_zero_or_pos l.length with h0 | h0
      · refine absurd (str_ext (a := l) (b := "") ?_) hne
        rw [DL.len_list] at h0
        rw [List.length_eq_zero_iff.mp h0]
        rfl
      · exact h0
    have lz : l.length ≤ sizeLine := by rw [sizeLine_eq]; omega
    refine q_asgV (ev_takeB (n := 0) rfl (ev_cb (ea_cons (ev_var rfl) ea_nil) (cd_lenS lz)) (by omega) (by omega)) ?_
    rintro d ⟨v, rfl, v0, v1⟩
    refine q_asg (d := .str (sg ++ "O-Z aM0#" ++ l)) (ev_op (ev_op (ev_var (d := .str sg) rfl) ev_str (od_addS (by rw [sizeLine_eq]; show _ + 8 ≤ _; omega))) (ev_var (d := .str l) rfl) (od_addS (by rw [sizeLine_eq, DL.len_app]; show _ + 8 + _ ≤ _; omega))) ?_
    have hmore : LineP (40 + 8 + l.length) (sg ++ "O-Z aM0#" ++ l) := line_app (line_app hs (litP (by decide +kernel) (by decide +kernel))) hN
    have hm8 : 8 ≤ (sg ++ ("O-Z aM0#" : Str) ++ l).length := by
      rw [DL.len_app, DL.len_app]
      show 8 ≤ _ + 8 + _
      omega
    generalize sg ++ ("O-Z aM0#" : Str) ++ l = more at *
    have hml := hmore.2
    have mz : more.length ≤ sizeLine := by rw [sizeLine_eq]; omega
    refine q_asgV (Pd := TxtX 1) (evx_op (Pa := fun d => d = .str more) (evx_of (ev_var rfl) rfl) (ev_takeB (n := 0) rfl (ev_cb (ea_cons (ev_var rfl) ea_nil) (cd_lenS mz)) (by omega) (by omega)) ?_) ?_
    · rintro a b rfl ⟨u, rfl, u0, u1⟩
      have hu : u.toNat < more.cps.size := by
        show u.toNat < more.length
        omega
      refine ⟨_, od_ixS mz (by rw [show u = ((u.toNat : Nat) : Int) from by omega]; exact atI_nat (ix_sg hu)), _, rfl, line_one hmore (List.mem_of_getElem? (ix_sg hu))⟩
    rintro d ⟨z1, rfl, hz1⟩
    have hz1l := hz1.2
    show ST K E0 _ [.fr stD, .fr (.str l), .fr (.str sg), .fr (.int v), .fr (.str more), .fr (.str z1), .no] _
    have hA := line_cut hN none (some v)
    have hB := line_cut hN (some (v + 1)) none
    have hC := line_cut hN (some v) none
    have eA : ∀ (ρ : List Sl), ρ[1]? = some (.fr (.str l)) → ρ[3]? = some (.fr (.int v)) → EV K (tSl (rSlU K) (tVar 1) tNoPart (tPart (tVar 3))) ρ (.str (cutS l none (some v))) := fun ρ h1 h3 => ev_slS (ev_var h1) lz eo_none (eo_some (ev_var h3))
    have eB : ∀ (ρ : List Sl), ρ[1]? = some (.fr (.str l)) → ρ[3]? = some (.fr (.int v)) → EV K (tSl (rSlU K) (tVar 1) (tPart (tOp (rAddU K) (tVar 3) (tC (.int 1)))) tNoPart) ρ (.str (cutS l (some (v + 1)) none)) := fun ρ h1 h3 => ev_slS (ev_var h1) lz (eo_some (ev_op (ev_var h3) ev_int od_addI)) eo_none
    have eC : ∀ (ρ : List Sl), ρ[1]? = some (.fr (.str l)) → ρ[3]? = some (.fr (.int v)) → EV K (tSl (rSlU K) (tVar 1) (tPart (tVar 3)) tNoPart) ρ (.str (cutS l (some v) none)) := fun ρ h1 h3 => ev_slS (ev_var h1) lz (eo_some (ev_var h3)) eo_none
    have lA := hA.2
    have lB := hB.2
    have lC := hC.2
    generalize cutS l none (some v) = A at *
    generalize cutS l (some (v + 1)) none = B at *
    generalize cutS l (some v) none = C at *
    refine q_asg (d := .list (([A ++ z1 ++ B, A ++ B, A ++ z1 ++ C, l ++ z1] : List Str).map PyData.str)) (ev_N (en_lst (ds := ([A ++ z1 ++ B, A ++ B, A ++ z1 ++ C, l ++ z1] : List Str).map PyData.str) (ea_cons (ev_op (ev_op (eA _ rfl rfl) (ev_var (d := .str z1) rfl) (od_addS (by rw [sizeLine_eq]; omega))) (eB _ rfl rfl) (od_addS (by rw [sizeLine_eq, DL.len_app]; omega))) (ea_cons (ev_op (eA _ rfl rfl) (eB _ rfl rfl) (od_addS (by rw [sizeLine_eq]; omega))) (ea_cons (ev_op (ev_op (eA _ rfl rfl) (ev_var (d := .str z1) rfl) (od_addS (by rw [sizeLine_eq]; omega))) (eC _ rfl rfl) (od_addS (by rw [sizeLine_eq, DL.len_app]; omega))) (ea_cons (ev_op (ev_var (d := .str l) rfl) (ev_var (d := .str z1) rfl) (od_addS (by rw [sizeLine_eq]; omega))) ea_nil)))) (by show 4 ≤ sizeLine; exact s4))) ?_
    refine st_retV (evx_pick (n := 2 * l.length + 4) (zs := ([A ++ z1 ++ B, A ++ B, A ++ z1 ++ C, l ++ z1] : List Str) ++ (["", l ++ l, " " ++ l, l ++ " "] : List Str)) (ev_N (en_is (en_op (d1 := .list (([A ++ z1 ++ B, A ++ B, A ++ z1 ++ C, l ++ z1] : List Str).map PyData.str)) (d2 := .list ((["", l ++ l, " " ++ l, l ++ " "] : List Str).map PyData.str)) (ev_var rfl) (ev_N (en_lst (ea_cons ev_str (ea_cons (ev_op (ev_var (d := .str l) rfl) (ev_var (d := .str l) rfl) (od_addS (by rw [sizeLine_eq]; omega))) (ea_cons (ev_op ev_str (ev_var (d := .str l) rfl) (od_addS (by rw [sizeLine_eq]; show 1 + _ ≤ _; omega))) (ea_cons (ev_op (ev_var (d := .str l) rfl) ev_str (od_addS (by rw [sizeLine_eq]; show _ + 1 ≤ _; omega))) ea_nil)))) (by show 4 ≤ sizeLine; exact s4))) (on_addL (by show 4 + 4 ≤ sizeLine; rw [sizeLine_eq]; decide))) (by rw [List.map_append]))) (ev_takeB (n := 0) rfl ev_int (by show (0 : Int) < 8; decide) (by show (8 : Int) ≤ 1000000; decide)) ?_) ?_
    · intro z hz
      have sp : LineP 1 " " := litP (by decide +kernel) (by decide +kernel)
      simp only [List.mem_append, List.mem_cons, List.not_mem_nil, or_false] at hz
      rcases hz with (rfl | rfl | rfl | rfl) | rfl | rfl | rfl | rfl
      · exact (line_app (line_app hA hz1) hB).mono (by omega)
      · exact (line_app hA hB).mono (by omega)
      · exact (line_app (line_app hA hz1) hC).mono (by omega)
      · exact (line_app hN hz1).mono (by omega)
      · exact litP (by decide +kernel) (Nat.zero_le _)
      · exact (line_app hN hN).mono (by omega)
      · exact (line_app sp hN).mono (by omega)
      · exact (line_app hN sp).mono (by omega)
    · rintro d ⟨z, rfl, hz⟩
      exact ⟨_, rfl, n, l, z, [.str sg], rfl, rfl, hz.1, hz.2⟩
theorem cut_at {ds : List D} {k : Nat} (h : k ≤ ds.length) : cutDs ds (some (k : Int)) none = ds.drop k := by
  unfold cutDs
  show List.take (HT.sIx ds.length ds.length none - HT.sIx ds.length 0 (some ((k : Nat) : Int))) (ds.drop (HT.sIx ds.length 0 (some ((k : Nat) : Int)))) = _
  rw [HT.sIx_nat, Nat.min_eq_left h]
  show (ds.drop k).take (ds.length - k) = _
  exact List.take_of_length_le (by rw [List.length_drop]; exact Nat.le_refl _)
/-- the greatest length, at least 20 -/
def mxL : List Str → Nat
  | [] => 20
  | l :: r => max l.length (mxL r)
theorem mxL_le : ∀ {ls : List Str} {n : Nat}, 20 ≤ n → (∀ l ∈ ls, l.length ≤ n) → mxL ls ≤ n
  | [], n, h, _ => h
  | l :: r, n, h, k => Nat.max_le.mpr ⟨k l (List.mem_cons_self ..), mxL_le h fun x hx => k x (List.mem_cons_of_mem _ hx)⟩
theorem mxL_ge : ∀ {ls : List Str} {l : Str}, l ∈ ls → l.length ≤ mxL ls
  | l :: r, x, h => by
    rcases List.mem_cons.mp h with rfl | h
    · exact Nat.le_max_left _ _
    · exact Nat.le_trans (mxL_ge h) (Nat.le_max_right _ _)
theorem mxL_20 : ∀ ls : List Str, 20 ≤ mxL ls
  | [] => Nat.le_refl _
  | l :: r => Nat.le_trans (mxL_20 r) (Nat.le_max_right _ _)
theorem lst_of {ρ : List Sl} {te : TE} {ls : List Str} {n m : Nat} (h : EV K te ρ (.list (ls.map PyData.str))) (r : Rows n m ls) : EVX K te ρ (LstX n m) := evx_of h ⟨ls, rfl, r⟩
theorem pieces_ne (s : Nat) (z : Str) : piecesT s z ≠ [] := fun e => cutAt_ne s z.cps.toList (List.map_eq_nil_iff.mp e)
theorem ok_u_law_bend (T : Txt K mg) (hd : FnP K "_law_bend" s_u_law_bend) (hm : mg "_law_bend" = some (.ref (He.ga K "_law_bend"))) (O_u_law_take : Okd P w K mg base CX0 1 "_law_take" ["state", "many"] (sp_u_law_take K)) (O_u_law_change : Okd P w K mg base CX0 2 "_law_change" ["state", "line", "signs"] (sp_u_law_change K)) : Okd P w K mg base CX0 3 "_law_bend" ["state", "lines", "signs"] (sp_u_law_bend K) := by
  obtain ⟨fd, F⟩ := hd
  refine ⟨hm, fd, fn_pq F sc_u_law_bend ?_ (fun cdv A outer s H E hr => ⟨_, dv_u_law_bend T O_u_law_take O_u_law_change cdv A outer s H E hr, ?_⟩), F.bindsN (fun _ _ _ _ _ _ us hl => match us, hl with | [_, _, _], _ => rfl), F.kp⟩
  · rintro ds ⟨x0, x1, x2, x3, rfl, _⟩
    rfl
  · rintro ds ⟨n, m, ls, sg, rfl, n20, n1, m1, h1, R, hs1, hs⟩
    show ST K E0 (t_u_law_bend K) [.fr stD, .fr (.list (ls.map PyData.str)), .fr (.str sg), .no, .no, .no, .no, .no, .no] _
    unfold t_u_law_bend
    have hmx : mxL ls ≤ 1000 := Nat.le_trans (mxL_le n20 fun l hl => (R.line l hl).2) n1
    have h20 := mxL_20 ls
    have hlen : ls.length ≤ 1000 := Nat.le_trans R.many m1
    have RN : Rows (2 * mxL ls + 4) ls.length ls := ⟨fun l hl => ⟨(R.line l hl).1, Nat.le_trans (mxL_ge hl) (by omega)⟩, Nat.le_refl _⟩
    have fin : ∀ d, LstX (2 * mxL ls + 4) (ls.length + 1) d → (fun o : Oc => ∃ d, o = .rt d ∧ ∃ (ls' : List Str) (t : List D) (ls2 : List Str), [stD, .list (ls.map PyData.str), .str sg] = stD :: .list (ls'.map PyData.str) :: t ∧ d = .list (ls2.map PyData.str) ∧ ∀ n m, 20 ≤ n → Rows n m ls' → Rows (2 * n + 4) (m + 1) ls2) (.rt d) := fun d hd => by
      obtain ⟨ls2, rfl, R2⟩ := hd
      refine ⟨_, rfl, ls, [.str sg], ls2, rfl, rfl, fun n m h20' R' => ?_⟩
      have := mxL_le h20' fun l hl => (R'.line l hl).2
      have := R'.many
      exact R2.mono (by omega) (by omega)
    have len : ∀ (ρ : List Sl), ρ[1]? = some (.fr (.list (ls.map PyData.str))) → EV K (tCB (rLen K) (tCons (tVar 1) tNil)) ρ (.int (ls.length : Nat)) := fun ρ h => ev_is (ev_cb (ea_cons (ev_var h) ea_nil) cd_lenL) (by rw [List.length_map])
    refine q_asgV (Pd := IntB ls.length) (ev_takeB (n := 0) rfl (len _ rfl) (by omega) (by omega)) ?_
    rintro d ⟨a0, rfl, a01, a02⟩
    refine q_asgV (Pd := IntB ls.length) (ev_takeB (n := 0) rfl (len _ rfl) (by omega) (by omega)) ?_
    rintro d ⟨t0, rfl, t01, t02⟩
    obtain ⟨j, rfl⟩ := Int.eq_ofNat_of_zero_le t01
    refine q_cut (fun ρ => ∃ k : Nat, k < ls.length ∧ ρ = [.fr stD, .fr (.list (ls.map PyData.str)), .fr (.str sg), .fr (.int (k : Nat)), .fr (.int (j : Nat)), .no, .no, .no, .no]) ?_ ?_
    · refine st_ifV (Pb := fun b => b = true → ("--" : Str) ∈ ls) (etx_and (Pb := fun _ => True) (Pe := fun b => b = decide (("--" : Str) ∈ ls)) (etx_test (Pd := fun d => ∃ b, d = .bool b) (evx_op (Pc := fun d => d = .int 0) (ev_takeB (n := 0) rfl ev_int (by decide) (by decide)) (evx_of ev_int rfl) (by rintro a b ⟨i, rfl, _⟩ rfl; exact ⟨_, od_eqI, _, rfl⟩)) (by rintro d ⟨b, rfl⟩; exact ⟨b, rfl, trivial⟩)) (fun _ => etx_of (et_test (ev_op ev_str (ev_var (d := .list (ls.map PyData.str)) rfl) (od_inL rfl (strs_flat _)))) inD_str) (fun _ z => nomatch z) (by
          intro b _ hb h
          rw [h] at hb
          exact of_decide_eq_true hb.symm)) (fun hb => ?_) (fun _ => st_next ⟨a0.toNat, by omega, by rw [Int.toNat_of_nonneg a01]; rfl⟩)
      have hin := hb rfl
      obtain ⟨bl, be, bn⟩ := bar_facts hin
      refine st_asgV (Pd := fun d => ∃ k : Nat, d = .int (k : Nat) ∧ k < ls.length) (evx_cb (Pl := fun ds => ∃ u : Int, ds = [.int ((ls.length : Int) - 1), .int u] ∧ 0 ≤ u) (eax_cons (Pa := fun d => d = .int ((ls.length : Int) - 1)) (Pl := fun ds => ∃ u : Int, ds = [.int u] ∧ 0 ≤ u) (evx_of (ev_op (len _ rfl) ev_int od_sub) rfl) (eax_one (Pa := fun d => ∃ u : Int, d = .int u ∧ 0 ≤ u) (evx_op (Pa := fun d => d = .int (barP ls : Nat)) (evx_of (ev_lindex (zs := ls) (j := barP ls) (ev_var rfl) ev_str bl be bn) rfl) (ev_takeB (n := 0) rfl ev_int (by decide) (by decide)) (by
          rintro a b rfl ⟨i, rfl, i0, _⟩
          exact ⟨_, od_addI, _, rfl, by omega⟩)) (by rintro d ⟨u, rfl, u0⟩; exact ⟨u, rfl, u0⟩)) (by rintro d ds rfl ⟨u, rfl, u0⟩; exact ⟨u, rfl, u0⟩)) (by
          rintro ds ⟨u, rfl, u0⟩
          refine ⟨_, cd_min, (min ((ls.length : Int) - 1) u).toNat, ?_, by omega⟩
          rw [Int.toNat_of_nonneg (by omega)])) ?_
      rintro d ⟨k, rfl, hk⟩
      exact ⟨k, hk, rfl⟩
    rintro ρ ⟨k, hk, rfl⟩
    clear a01 a02
    obtain ⟨j1, j2⟩ : j < ls.length ∧ True := ⟨by omega, trivial⟩
    have hkz := RN.line _ (DL.getD_mem (z := Str.empty) hk)
    have hk0 := R.line _ (DL.getD_mem (z := Str.empty) hk)
    have hjz := RN.line _ (DL.getD_mem (z := Str.empty) j1)
    have kmx := mxL_ge (DL.getD_mem (z := Str.empty) hk)
    have hd1 : Rows (2 * mxL ls + 4) k (ls.take k) := ⟨fun l hl => RN.line l (List.mem_of_mem_take hl), by rw [List.length_take]; omega⟩
    have hd2 : Rows (2 * mxL ls + 4) (ls.length - (k + 1)) (ls.drop (k + 1)) := ⟨fun l hl => RN.line l (List.mem_of_mem_drop hl), by rw [List.length_drop]; exact Nat.le_refl _⟩
    have hd3 : Rows (2 * mxL ls + 4) (ls.length - k) (ls.drop k) := ⟨fun l hl => RN.line l (List.mem_of_mem_drop hl), by rw [List.length_drop]; exact Nat.le_refl _⟩
    have c1 : ∀ (ρ : List Sl), ρ[1]? = some (.fr (.list (ls.map PyData.str))) → ρ[3]? = some (.fr (.int (k : Nat))) → EVX K (tSl (rSlU K) (tVar 1) tNoPart (tPart (tVar 3))) ρ (LstX (2 * mxL ls + 4) k) := fun ρ h1 h3 => lst_of (ev_N (en_is (en_slL (ev_var h1) eo_none (eo_some (ev_var h3))) (by rw [cut_takeD (by rw [List.length_map]; omega), ← List.map_take]))) hd1
    have c2 : ∀ (ρ : List Sl), ρ[1]? = some (.fr (.list (ls.map PyData.str))) → ρ[3]? = some (.fr (.int (k : Nat))) → EVX K (tSl (rSlU K) (tVar 1) (tPart (tOp (rAddU K) (tVar 3) (tC (.int 1)))) tNoPart) ρ (LstX (2 * mxL ls + 4) (ls.length - (k + 1))) := fun ρ h1 h3 => lst_of (ev_N (en_is (en_slL (ev_var h1) (eo_some (ev_op (ev_var h3) ev_int od_addI)) eo_none) (by rw [cut_from (by rw [List.length_map]; exact hk), ← List.map_drop]))) hd2
    have c3 : ∀ (ρ : List Sl), ρ[1]? = some (.fr (.list (ls.map PyData.str))) → ρ[3]? = some (.fr (.int (k : Nat))) → EVX K (tSl (rSlU K) (tVar 1) (tPart (tVar 3)) tNoPart) ρ (LstX (2 * mxL ls + 4) (ls.length - k)) := fun ρ h1 h3 => lst_of (ev_N (en_is (en_slL (ev_var h1) (eo_some (ev_var h3)) eo_none) (by rw [cut_at (by rw [List.length_map]; omega), ← List.map_drop]))) hd3
    have lk : ∀ (ρ : List Sl), ρ[1]? = some (.fr (.list (ls.map PyData.str))) → ρ[3]? = some (.fr (.int (k : Nat))) → EV K (tOp (rIx K) (tVar 1) (tVar 3)) ρ (.str (ls.getD k Str.empty)) := fun ρ h1 h3 => ev_row h1 (ev_var h3) hk
    have lj : ∀ (ρ : List Sl), ρ[1]? = some (.fr (.list (ls.map PyData.str))) → ρ[4]? = some (.fr (.int (j : Nat))) → EV K (tOp (rIx K) (tVar 1) (tVar 4)) ρ (.str (ls.getD j Str.empty)) := fun ρ h1 h4 => ev_row h1 (ev_var h4) j1
    refine q_asgV (Pd := IntB 9) (ev_takeB (n := 0) rfl ev_int (by decide) (by decide)) ?_
    rintro d ⟨so, rfl, so0, so1⟩
    show ST K E0 _ [.fr stD, .fr (.list (ls.map PyData.str)), .fr (.str sg), .fr (.int (k : Nat)), .fr (.int (j : Nat)), .fr (.int so), .no, .no, .no] _
    have okL : ∀ {a b c : Nat} {d : D}, a + b + c ≤ ls.length + 1 → LstX (2 * mxL ls + 4) (a + b + c) d → LstX (2 * mxL ls + 4) (ls.length + 1) d := fun h hd => by
      obtain ⟨x, e, r⟩ := hd
      exact ⟨x, e, r.mono (Nat.le_refl _) h⟩
    refine q_when (b := decide (so < 4)) (et_test (ev_op (ev_var (d := .int so) rfl) ev_int od_cmpI)) (fun _ => ?_) fun _ => ?_
    · refine st_retV (evx_addL (evx_addL (c1 _ rfl rfl) (evx_lst1 (n := 2 * mxL ls + 4) ?_) (by omega)) (c2 _ rfl rfl) (by omega)) fun d hd => fin d (okL (by omega) hd)
      unfold sp_u_law_change
      refine evx_callQ (Pl := fun ds => ds = [stD, .str (ls.getD k Str.empty), .str sg]) (eax_of (ea_cons (ev_var rfl) (ea_cons (lk _ rfl rfl) (ea_cons (ev_var rfl) ea_nil))) rfl) ?_
      rintro ds rfl
      refine ⟨⟨n, _, sg, rfl, by omega, n1, hk0, hs⟩, ?_⟩
      rintro d ⟨n', l', l2, t, e, rfl, q1, q2⟩
      injection e with _ e
      injection e with e _
      injection e with e
      subst e
      exact ⟨l2, rfl, q1, by omega⟩
    refine q_when (b := decide (so = 4)) (et_test (ev_op (ev_var (d := .int so) rfl) ev_int od_eqI)) (fun _ => ?_) fun _ => ?_
    · exact st_retV (evx_addL (c1 _ rfl rfl) (c2 _ rfl rfl) (by omega)) fun d hd => fin d (okL (a := k) (b := 0) (c := ls.length - (k + 1)) (by omega) (by rw [Nat.add_zero]; exact hd))
    refine q_when (b := decide (so = 5)) (et_test (ev_op (ev_var (d := .int so) rfl) ev_int od_eqI)) (fun _ => ?_) fun _ => ?_
    · exact st_retV (evx_addL (evx_addL (c1 _ rfl rfl) (evx_lst1 (evx_of (lj _ rfl rfl) ⟨_, rfl, hjz⟩)) (by omega)) (c3 _ rfl rfl) (by omega)) fun d hd => fin d (okL (by omega) hd)
    refine q_when (b := decide (so = 6)) (et_test (ev_op (ev_var (d := .int so) rfl) ev_int od_eqI)) (fun _ => ?_) fun _ => ?_
    · refine q_asgN (d := .list (ls.map PyData.str)) (en_cb (ea_cons (ev_var rfl) ea_nil) cn_listL) ?_
      refine q_setL (n := 6) (ds := ls.map PyData.str) rfl (lj _ rfl rfl) (ev_var rfl) (by rw [List.length_map]; exact (ixN_nn (by omega) (by omega)).trans (congrArg some (Int.toNat_natCast k))) ?_
      refine q_setL (n := 6) (ds := (ls.map PyData.str).set k (.str (ls.getD j Str.empty))) rfl (lk _ rfl rfl) (ev_var rfl) (by rw [List.length_set, List.length_map]; exact (ixN_nn (by omega) (by omega)).trans (congrArg some (Int.toNat_natCast j))) ?_
      refine q_frz (i := 6) rfl ?_
      refine st_ret (d := .list (((ls.set k (ls.getD j Str.empty)).set j (ls.getD k Str.empty)).map PyData.str)) (ev_is (ev_var (by rfl)) (by rw [List.map_set, List.map_set])) (fin _ ⟨_, rfl, fun l hl => ?_, by rw [List.length_set, List.length_set]; omega⟩)
      rcases List.mem_or_eq_of_mem_set hl with hl | rfl
      · rcases List.mem_or_eq_of_mem_set hl with hl | rfl
        · exact RN.line l hl
        · exact hjz
      · exact hkz
    have sgz : sg.length ≤ sizeLine := by rw [sizeLine_eq]; have := hs.2; omega
    refine q_when (b := decide (so = 7)) (et_test (ev_op (ev_var (d := .int so) rfl) ev_int od_eqI)) (fun _ => ?_) fun _ => ?_
    · have h0 : 0 < sg.cps.size := hs1
      have s0 : LineP 1 (oneS (sgC sg 0)) := line_one hs (List.mem_of_getElem? (ix_sg h0))
      refine st_retV (evx_addL (evx_addL (c1 _ rfl rfl) (evx_lst1 (evx_pick (zs := ["", "--", "# a", "a b", oneS (sgC sg 0) ++ " zz", "a  b ", "N n", "O o"]) (ev_N (en_lst (ds := (["", "--", "# a", "a b", oneS (sgC sg 0) ++ (" zz" : Str), "a  b ", "N n", "O o"] : List Str).map PyData.str) (ea_cons ev_str (ea_cons ev_str (ea_cons ev_str (ea_cons ev_str (ea_cons (ev_op (ev_op (d := .str (oneS (sgC sg 0))) (ev_var (d := .str sg) rfl) ev_int (od_ixS sgz (atI_nat (j := 0) (ix_sg h0)))) ev_str (od_addS (by rw [sizeLine_eq]; show 1 + 3 ≤ _; decide))) (ea_cons ev_str (ea_cons ev_str (ea_cons ev_str ea_nil)))))))) (by show 8 ≤ sizeLine; rw [sizeLine_eq]; decide))) (ev_takeB (n := 0) rfl ev_int (by show (0 : Int) < 8; decide) (by show (8 : Int) ≤ 1000000; decide)) ?_)) (by omega)) (c3 _ rfl rfl) (by omega)) fun d hd => fin d (okL (by omega) hd)
      intro z hz
      simp only [List.mem_cons, List.not_mem_nil, or_false] at hz
      rcases hz with rfl | rfl | rfl | rfl | rfl | rfl | rfl | rfl
      · exact litP (by decide +kernel) (Nat.zero_le _)
      · exact litP (by decide +kernel) (Nat.le_trans (by decide +kernel : _ ≤ 20) (by omega))
      · exact litP (by decide +kernel) (Nat.le_trans (by decide +kernel : _ ≤ 20) (by omega))
      · exact litP (by decide +kernel) (Nat.le_trans (by decide +kernel : _ ≤ 20) (by omega))
      · exact (line_app s0 (litP (n := 3) (by decide +kernel) (by decide +kernel))).mono (by omega)
      · exact litP (by decide +kernel) (Nat.le_trans (by decide +kernel : _ ≤ 20) (by omega))
      · exact litP (by decide +kernel) (Nat.le_trans (by decide +kernel : _ ≤ 20) (by omega))
      · exact litP (by decide +kernel) (Nat.le_trans (by decide +kernel : _ ≤ 20) (by omega))
    have hkl := hk0.2
    generalize hze : ls.getD k Str.empty = z at *
    refine q_asg (d := .list ((piecesT 32 z).map PyData.str)) (ev_N (en_is (en_split (lk _ rfl rfl) ev_str (by decide +kernel) (by rw [sizeLine_eq]; omega)) (by rw [split_sp]))) ?_
    have pne := pieces_ne 32 z
    have pl : 0 < (piecesT 32 z).length := List.length_pos_iff.mpr pne
    have pz : ∀ p ∈ piecesT 32 z, LineP (mxL ls) p := fun p hp => by
      obtain ⟨_, q2, q3⟩ := pieces_mem hp
      exact ⟨fun h => hk0.1 (q2 10 h), by omega⟩
    have ppl := pieces_len 32 z
    generalize hpe : piecesT 32 z = ps at *
    show ST K E0 _ [.fr stD, .fr (.list (ls.map PyData.str)), .fr (.str sg), .fr (.int (k : Nat)), .fr (.int (j : Nat)), .fr (.int so), .no, .fr (.list (ps.map PyData.str)), .no] _
    have plast := pz _ (DL.getD_mem (z := Str.empty) (show ps.length - 1 < ps.length by omega))
    have pfirst := pz _ (DL.getD_mem (z := Str.empty) pl)
    have pl2 := plast.2
    have pf2 := pfirst.2
    refine q_asgV (Pd := TxtX (mxL ls + 1)) (evx_pick (zs := ["A", "", "1a", "abcdefghi", "a", "zzzzzzzz", ps.getD (ps.length - 1) Str.empty ++ "0", "a-b"]) (ev_N (en_lst (ds := (["A", "", "1a", "abcdefghi", "a", "zzzzzzzz", ps.getD (ps.length - 1) Str.empty ++ ("0" : Str), "a-b"] : List Str).map PyData.str) (ea_cons ev_str (ea_cons ev_str (ea_cons ev_str (ea_cons ev_str (ea_cons ev_str (ea_cons ev_str (ea_cons (ev_op (ev_row (k := ps.length - 1) rfl (ev_is (ev_op (ev_cb (ea_cons (ev_var (d := .list (ps.map PyData.str)) rfl) ea_nil) cd_lenL) ev_int od_sub) (by rw [List.length_map]; congr 1; omega)) (by omega)) ev_str (od_addS (by rw [sizeLine_eq]; show _ + 1 ≤ _; omega))) (ea_cons ev_str ea_nil)))))))) (by show 8 ≤ sizeLine; rw [sizeLine_eq]; decide))) (ev_takeB (n := 0) rfl ev_int (by show (0 : Int) < 8; decide) (by show (8 : Int) ≤ 1000000; decide)) ?_) ?_
    · intro z hz
      simp only [List.mem_cons, List.not_mem_nil, or_false] at hz
      rcases hz with rfl | rfl | rfl | rfl | rfl | rfl | rfl | rfl
      · exact litP (by decide +kernel) (Nat.le_trans (by decide +kernel : _ ≤ 20) (by omega))
      · exact litP (by decide +kernel) (Nat.zero_le _)
      · exact litP (by decide +kernel) (Nat.le_trans (by decide +kernel : _ ≤ 20) (by omega))
      · exact litP (by decide +kernel) (Nat.le_trans (by decide +kernel : _ ≤ 20) (by omega))
      · exact litP (by decide +kernel) (Nat.le_trans (by decide +kernel : _ ≤ 20) (by omega))
      · exact litP (by decide +kernel) (Nat.le_trans (by decide +kernel : _ ≤ 20) (by omega))
      · exact line_app plast (litP (n := 1) (by decide +kernel) (by decide +kernel))
      · exact litP (by decide +kernel) (Nat.le_trans (by decide +kernel : _ ≤ 20) (by omega))
    rintro d ⟨nm, rfl, hnm⟩
    have hn2 := hnm.2
    refine st_retV (evx_addL (evx_addL (c1 _ rfl rfl) (evx_lst1 (evx_of (d := .str (ps.getD 0 Str.empty ++ " " ++ nm)) (ev_op (ev_op (ev_row (k := 0) rfl ev_int pl) ev_str (od_addS (by rw [sizeLine_eq]; show _ + 1 ≤ _; omega))) (ev_var (d := .str nm) rfl) (od_addS (by rw [sizeLine_eq, DL.len_app]; show _ + 1 + _ ≤ _; omega))) ⟨_, rfl, (line_app (line_app pfirst (litP (n := 1) (by decide +kernel) (by decide +kernel))) hnm).mono (by omega)⟩)) (by omega)) (c2 _ rfl rfl) (by omega)) fun d hd => fin d (okL (by omega) hd)
theorem repP {n : Nat} {c : Nat} (h : c ≠ 10) : LineP n (repS (oneS c) (n : Int)) := by
  refine ⟨fun hm => ?_, ?_⟩
  · rw [rep_list] at hm
    exact h (List.eq_of_mem_replicate hm).symm
  · rw [DL.len_list, rep_list, List.length_replicate]
    exact Nat.le_refl _
def lsD (ls : List Str) : D := .list (ls.map PyData.str)
def tStrs : List Str → TA
  | [] => tNil
  | z :: r => tCons (tC (.str z)) (tStrs r)
theorem ea_strs {ρ : List Sl} : ∀ zs : List Str, EA K (tStrs zs) ρ (zs.map PyData.str)
  | [] => ea_nil
  | z :: r => ea_cons ev_str (ea_strs r)
theorem ev_lit {ρ : List Sl} (zs : List Str) (h : zs.length ≤ 1000) : EV K (tLst (tStrs zs)) ρ (lsD zs) := ev_N (en_lst (ea_strs zs) (by rw [List.length_map, sizeLine_eq]; omega))
theorem rep_flat (x : D) : ∀ n : Nat, (List.replicate n [x]).flatten = List.replicate n x
  | 0 => rfl
  | n + 1 => by
    rw [List.replicate_succ, List.flatten_cons, rep_flat x n, List.replicate_succ]
    rfl
theorem lit_rows {zs : List Str} (h : (zs.all fun l => !l.cps.toList.contains 10 && decide (l.length ≤ 20)) = true) (hm : zs.length ≤ 1000) : Rows 1000 1000 zs := ⟨fun l hl => by
  have := List.all_eq_true.mp h l hl
  rw [Bool.and_eq_true] at this
  exact litP (by simpa using this.1) (Nat.le_trans (of_decide_eq_true this.2) (by decide)), hm⟩
theorem ok_u_law_fixed (T : Txt K mg) (hd : FnP K "_law_fixed" s_u_law_fixed) (hm : mg "_law_fixed" = some (.ref (He.ga K "_law_fixed")))  : Okd P w K mg base CX0 1 "_law_fixed" ["wide"] (sp_u_law_fixed K) := by
  obtain ⟨fd, F⟩ := hd
  refine ⟨hm, fd, fn_pq F sc_u_law_fixed ?_ (fun cdv A outer s H E hr => ⟨_, dv_u_law_fixed T  cdv A outer s H E hr, ?_⟩), F.bindsN (fun _ _ _ _ _ _ us hl => match us, hl with | [_], _ => rfl), F.kp⟩
  · rintro ds ⟨x0, rfl, _⟩
    rfl
  · rintro ds ⟨w', rfl, hw⟩
    show ST K E0 (t_u_law_fixed K) [.fr (.int w'), .no, .no, .no, .no, .no, .no] _
    unfold t_u_law_fixed
    have hw2 : 2 ≤ w' ∧ w' ≤ 160 := by omega
    obtain ⟨n, hn⟩ := Int.eq_ofNat_of_zero_le (show 0 ≤ w' - 1 by omega)
    have r0 : LineP n (repS (oneS 97) (n : Int)) := repP (by decide)
    have rl0 := r0.2
    have rowP : LineP 1000 (repS (oneS 97) (n : Int) ++ "b") := (line_app (a := n) (b := 1) r0 (litP (by decide +kernel) (by decide +kernel))).mono (by omega)
    refine q_asg (d := .str (repS (oneS 97) (n : Int) ++ "b")) (ev_op (ev_op (d1 := .str (oneS 97)) (d := .str (repS (oneS 97) (n : Int))) ev_str (ev_is (ev_op (ev_var rfl) ev_int od_sub) (congrArg PyData.int hn)) (od_mulS (by omega) (by omega) (by rw [sizeLine_eq]; show 1 * _ ≤ _; omega))) ev_str (od_addS (by rw [sizeLine_eq]; show _ + 1 ≤ _; omega))) ?_
    generalize repS (oneS 97) (n : Int) ++ ("b" : Str) = row at *
    refine q_asg (ev_lit ["ab", "ab", "cd", "cd", "--", "a a", "b b", "c c", "d d"] (by decide)) ?_
    refine q_asg (ev_lit ["aab", "ccb", "ccd", "--", "a x", "b x0", "c x00", "d y"] (by decide)) ?_
    refine q_asg (ev_lit ["abb", "acd", "aec", "--", "a a", "b b", "c c", "d d", "e e"] (by decide)) ?_
    have er : (List.replicate (160 : Int).toNat [PyData.str row]).flatten = (List.replicate 160 row).map PyData.str := by
      rw [show (160 : Int).toNat = 160 from rfl, rep_flat, List.map_replicate]
    refine q_asg (d := lsD (List.replicate 160 row ++ (["--", "a x", "b y"] : List Str))) (ev_N (en_is (en_op (d1 := .list ((List.replicate 160 row).map PyData.str)) (ev_N (en_is (en_op (d1 := .list [.str row]) (ev_N (en_lst (ea_cons (ev_var rfl) ea_nil) (by show 1 ≤ sizeLine; rw [sizeLine_eq]; decide))) ev_int (on_mulL (by decide) (by decide) (by rw [sizeLine_eq]; show 1 * 160 ≤ 16777216; decide))) (by rw [er]))) (ev_lit ["--", "a x", "b y"] (by decide)) (on_addL (by rw [List.length_map, List.length_replicate, List.length_map, sizeLine_eq]; decide))) (by unfold lsD; rw [List.map_append]))) ?_
    have hlong : Rows 1000 163 (List.replicate 160 row ++ (["--", "a x", "b y"] : List Str)) := Rows.app (a := 160) (b := 3) ⟨fun l hl => by rw [List.eq_of_mem_replicate hl]; exact rowP, by rw [List.length_replicate]; exact Nat.le_refl _⟩ ⟨(lit_rows (zs := ["--", "a x", "b y"]) (by decide +kernel) (by decide)).line, by decide⟩
    have hrow : Rows 1000 1 [row] := ⟨fun l hl => by rw [List.mem_singleton.mp hl]; exact rowP, Nat.le_refl _⟩
    generalize hlo : List.replicate 160 row ++ (["--", "a x", "b y"] : List Str) = long at *
    have hll := hlong.many
    show ST K E0 _ [.fr (.int w'), .fr (.str row), .fr (lsD ["ab", "ab", "cd", "cd", "--", "a a", "b b", "c c", "d d"]), .fr (lsD ["aab", "ccb", "ccd", "--", "a x", "b x0", "c x00", "d y"]), .fr (lsD ["abb", "acd", "aec", "--", "a a", "b b", "c c", "d d", "e e"]), .fr (lsD long), .no] _
    refine q_asgN (d := .list (([["ab", "ab", "cd", "cd", "--", "a a", "b b", "c c", "d d"], ["aab", "ccb", "ccd", "--", "a x", "b x0", "c x00", "d y"], ["abb", "acd", "aec", "--", "a a", "b b", "c c", "d d", "e e"], long, [row] ++ long, ["--", "a a"], ["a", "--"], ["", "--", "a a"], ["a", "--", "a a", ""], ["a"]] : List (List Str)).map lsD)) (en_lst (ds := ([["ab", "ab", "cd", "cd", "--", "a a", "b b", "c c", "d d"], ["aab", "ccb", "ccd", "--", "a x", "b x0", "c x00", "d y"], ["abb", "acd", "aec", "--", "a a", "b b", "c c", "d d", "e e"], long, [row] ++ long, ["--", "a a"], ["a", "--"], ["", "--", "a a"], ["a", "--", "a a", ""], ["a"]] : List (List Str)).map lsD)
      (ea_cons (ev_var rfl) (ea_cons (ev_var rfl) (ea_cons (ev_var rfl) (ea_cons (ev_var rfl) (ea_cons (ev_N (en_is (en_op (d1 := lsD [row]) (d2 := lsD long) (ev_N (en_lst (ea_cons (ev_var rfl) ea_nil) (by show 1 ≤ sizeLine; rw [sizeLine_eq]; decide))) (ev_var rfl) (on_addL (by rw [List.length_map, List.length_map, sizeLine_eq]; show 1 + _ ≤ _; omega))) (by unfold lsD; rw [List.map_append]))) (ea_cons (ev_lit ["--", "a a"] (by decide)) (ea_cons (ev_lit ["a", "--"] (by decide)) (ea_cons (ev_lit ["", "--", "a a"] (by decide)) (ea_cons (ev_lit ["a", "--", "a a", ""] (by decide)) (ea_cons (ev_lit ["a"] (by decide)) ea_nil)))))))))) (by show 10 ≤ sizeLine; rw [sizeLine_eq]; decide)) ?_
    have ra : LineP 161 (repS (oneS 97) ((161 : Nat) : Int)) := repP (by decide)
    refine q_augO (n := 6) (es := ([[repS (oneS 97) ((161 : Nat) : Int), "--", "a a"], ["a", "--", "a a", "--"], ["--"], [" a", "--", "a a"], ["a", "", "--", "a a"]] : List (List Str)).map lsD) rfl (ev_N (en_lst (ds := ([[repS (oneS 97) ((161 : Nat) : Int), "--", "a a"], ["a", "--", "a a", "--"], ["--"], [" a", "--", "a a"], ["a", "", "--", "a a"]] : List (List Str)).map lsD)
      (ea_cons (ev_N (en_lst (ds := ([repS (oneS 97) ((161 : Nat) : Int), "--", "a a"] : List Str).map PyData.str) (ea_cons (ev_op (d1 := .str (oneS 97)) (d := .str (repS (oneS 97) ((161 : Nat) : Int))) ev_str ev_int (od_mulS (by decide) (by decide) (by rw [sizeLine_eq]; decide))) (ea_cons ev_str (ea_cons ev_str ea_nil))) (by show 3 ≤ sizeLine; rw [sizeLine_eq]; decide))) (ea_cons (ev_lit ["a", "--", "a a", "--"] (by decide)) (ea_cons (ev_lit ["--"] (by decide)) (ea_cons (ev_lit [" a", "--", "a a"] (by decide)) (ea_cons (ev_lit ["a", "", "--", "a a"] (by decide)) ea_nil))))) (by show 5 ≤ sizeLine; rw [sizeLine_eq]; decide))) (by show 10 + 5 ≤ 16000000; decide) ?_
    refine q_augO (n := 6) (es := ([["ab", "ab", "--", "b a", "a b"], ["ab", "ab", "--", " b   a ", "a b"], ["a", "--", "a a", "b b"], ["a", " --", "a a"]] : List (List Str)).map lsD) rfl (ev_N (en_lst (ds := ([["ab", "ab", "--", "b a", "a b"], ["ab", "ab", "--", " b   a ", "a b"], ["a", "--", "a a", "b b"], ["a", " --", "a a"]] : List (List Str)).map lsD)
      (ea_cons (ev_lit ["ab", "ab", "--", "b a", "a b"] (by decide)) (ea_cons (ev_lit ["ab", "ab", "--", " b   a ", "a b"] (by decide)) (ea_cons (ev_lit ["a", "--", "a a", "b b"] (by decide)) (ea_cons (ev_lit ["a", " --", "a a"] (by decide)) ea_nil)))) (by show 4 ≤ sizeLine; exact s4))) (by show 15 + 4 ≤ 16000000; decide) ?_
    refine q_frz (i := 6) rfl ?_
    refine st_ret (ev_var rfl) ⟨_, rfl, ([["ab", "ab", "cd", "cd", "--", "a a", "b b", "c c", "d d"], ["aab", "ccb", "ccd", "--", "a x", "b x0", "c x00", "d y"], ["abb", "acd", "aec", "--", "a a", "b b", "c c", "d d", "e e"], long, [row] ++ long, ["--", "a a"], ["a", "--"], ["", "--", "a a"], ["a", "--", "a a", ""], ["a"]] : List (List Str)) ++ ([[repS (oneS 97) ((161 : Nat) : Int), "--", "a a"], ["a", "--", "a a", "--"], ["--"], [" a", "--", "a a"], ["a", "", "--", "a a"]] : List (List Str)) ++ ([["ab", "ab", "--", "b a", "a b"], ["ab", "ab", "--", " b   a ", "a b"], ["a", "--", "a a", "b b"], ["a", " --", "a a"]] : List (List Str)), by rw [List.map_append, List.map_append]; rfl, by show 19 ≤ 30; decide, fun ls hl => ?_⟩
    simp only [List.mem_append, List.mem_cons, List.not_mem_nil, or_false] at hl
    rcases hl with ((rfl | rfl | rfl | rfl | rfl | rfl | rfl | rfl | rfl | rfl) | rfl | rfl | rfl | rfl | rfl) | rfl | rfl | rfl | rfl
    · exact lit_rows (by decide +kernel) (by decide)
    · exact lit_rows (by decide +kernel) (by decide)
    · exact lit_rows (by decide +kernel) (by decide)
    · exact hlong.mono (Nat.le_refl _) (by decide)
    · exact (hrow.app hlong).mono (Nat.le_refl _) (by decide)
    · exact lit_rows (by decide +kernel) (by decide)
    · exact lit_rows (by decide +kernel) (by decide)
    · exact lit_rows (by decide +kernel) (by decide)
    · exact lit_rows (by decide +kernel) (by decide)
    · exact lit_rows (by decide +kernel) (by decide)
    · refine ⟨fun l hl => ?_, by show 3 ≤ 1000; decide⟩
      rcases List.mem_cons.mp hl with rfl | hl
      · exact ra.mono (by decide)
      · exact (lit_rows (zs := ["--", "a a"]) (by decide +kernel) (by decide)).line l hl
    · exact lit_rows (by decide +kernel) (by decide)
    · exact lit_rows (by decide +kernel) (by decide)
    · exact lit_rows (by decide +kernel) (by decide)
    · exact lit_rows (by decide +kernel) (by decide)
    · exact lit_rows (by decide +kernel) (by decide)
    · exact lit_rows (by decide +kernel) (by decide)
    · exact lit_rows (by decide +kernel) (by decide)
    · exact lit_rows (by decide +kernel) (by decide)
/-! plain: boxes without overlap within w x h have at most w*h cells -/
def sumN : Nat → (Nat → Int) → Int
  | 0, _ => 0
  | n + 1, f => sumN n f + f n
theorem sumN_congr {f g : Nat → Int} : ∀ {n : Nat}, (∀ i, i < n → f i = g i) → sumN n f = sumN n g
  | 0, _ => rfl
  | n + 1, h => by
    unfold sumN
    rw [sumN_congr fun i hi => h i (by omega), h n (by omega)]
theorem sumN_add (f g : Nat → Int) : ∀ n : Nat, sumN n (fun i => f i + g i) = sumN n f + sumN n g
  | 0 => rfl
  | n + 1 => by
    unfold sumN
    rw [sumN_add f g n]
    dsimp only
    omega
theorem sumN_le {f g : Nat → Int} : ∀ {n : Nat}, (∀ i, i < n → f i ≤ g i) → sumN n f ≤ sumN n g
  | 0, _ => Int.le_refl _
  | n + 1, h => by
    unfold sumN
    have := sumN_le (n := n) fun i hi => h i (by omega)
    have := h n (by omega)
    omega
theorem sumN_zero : ∀ n : Nat, sumN n (fun _ => 0) = 0
  | 0 => rfl
  | n + 1 => by
    unfold sumN
    rw [sumN_zero n]
    rfl
theorem sumN_mul (c : Int) (f : Nat → Int) : ∀ n : Nat, sumN n (fun i => f i * c) = sumN n f * c
  | 0 => (Int.zero_mul c).symm
  | n + 1 => by
    unfold sumN
    rw [sumN_mul c f n, Int.add_mul]
theorem sumN_mulL (c : Int) (f : Nat → Int) (n : Nat) : sumN n (fun i => c * f i) = c * sumN n f := by
  rw [sumN_congr (g := fun i => f i * c) fun i _ => Int.mul_comm _ _, sumN_mul, Int.mul_comm]
def ind (a b : Int) (i : Nat) : Int := if a ≤ (i : Int) ∧ (i : Int) < b then 1 else 0
theorem sumN_ind {a b : Int} (h0 : 0 ≤ a) (h1 : a ≤ b) : ∀ n : Nat, sumN n (ind a b) = min b n - min a n
  | 0 => by
    show (0 : Int) = _
    omega
  | n + 1 => by
    unfold sumN ind
    have := sumN_ind h0 h1 n
    unfold ind at this
    rw [this]
    split <;> omega
def cell (b : Bx) (x y : Nat) : Int := ind b.w b.e x * ind b.s b.n y
theorem cells_area {b : Bx} {w h : Nat} (hp : Pos b) (h1 : 0 ≤ b.w) (h2 : b.e ≤ w) (h3 : 0 ≤ b.s) (h4 : b.n ≤ h) : sumN w (fun x => sumN h (fun y => cell b x y)) = area b := by
  unfold Pos at hp
  unfold cell area
  rw [sumN_congr (g := fun x => ind b.w b.e x * (b.n - b.s)) fun x _ => ?_, sumN_mul, sumN_ind h1 (by omega)]
  · congr 1
    omega
  · rw [sumN_mulL, sumN_ind h3 (by omega)]
    congr 1
    omega
def cellsOf (bs : List Bx) (x y : Nat) : Int := (bs.map fun b => cell b x y).sum
theorem cell01 (b : Bx) (x y : Nat) : cell b x y = 0 ∨ (cell b x y = 1 ∧ (b.w ≤ x ∧ (x : Int) < b.e) ∧ b.s ≤ y ∧ (y : Int) < b.n) := by
  unfold cell ind
  split
  · split
    · right
      rename_i p q
      exact ⟨rfl, p, q⟩
    · left; rfl
  · left; exact Int.zero_mul _
theorem cells_zero {b : Bx} {x y : Nat} (hx : b.w ≤ x ∧ (x : Int) < b.e) (hy : b.s ≤ y ∧ (y : Int) < b.n) : ∀ {bs : List Bx}, (∀ a ∈ bs, Dis b a) → cellsOf bs x y = 0
  | [], _ => rfl
  | a :: bs, d1 => by
    have e : cellsOf (a :: bs) x y = cell a x y + cellsOf bs x y := by
      unfold cellsOf
      rw [List.map_cons, List.sum_cons]
    rw [e, cells_zero hx hy fun q hq => d1 q (List.mem_cons_of_mem _ hq)]
    rcases cell01 a x y with c2 | ⟨c2, hx2, hy2⟩
    · omega
    · have := d1 a List.mem_cons_self
      unfold Dis acr alo at this
      omega
theorem cells_le {bs : List Bx} (x y : Nat) (hd : bs.Pairwise Dis) : 0 ≤ cellsOf bs x y ∧ cellsOf bs x y ≤ 1 := by
  induction bs with
  | nil => exact ⟨Int.le_refl _, by show (0 : Int) ≤ 1; decide⟩
  | cons b bs ih =>
    obtain ⟨d1, d2⟩ := List.pairwise_cons.mp hd
    have ih := ih d2
    have e : cellsOf (b :: bs) x y = cell b x y + cellsOf bs x y := by
      unfold cellsOf
      rw [List.map_cons, List.sum_cons]
    rw [e]
    rcases cell01 b x y with c | ⟨c, hx, hy⟩
    · omega
    · have z : cellsOf bs x y = 0 := cells_zero hx hy d1
      omega
theorem sum_cells {bs : List Bx} {w h : Nat} (hb : ∀ b ∈ bs, Pos b ∧ 0 ≤ b.w ∧ b.e ≤ w ∧ 0 ≤ b.s ∧ b.n ≤ h) : areas bs = sumN w (fun x => sumN h (fun y => cellsOf bs x y)) := by
  induction bs with
  | nil =>
    rw [sumN_congr (g := fun _ => 0) fun x _ => ?_, sumN_zero]
    · rfl
    · exact (sumN_congr (g := fun _ => 0) fun y _ => rfl).trans (sumN_zero h)
  | cons b bs ih =>
    rw [areas_cons, ih fun q hq => hb q (List.mem_cons_of_mem _ hq)]
    obtain ⟨p, h1, h2, h3, h4⟩ := hb b List.mem_cons_self
    rw [← cells_area p h1 h2 h3 h4, ← sumN_add]
    refine sumN_congr fun x _ => ?_
    rw [← sumN_add]
    refine sumN_congr fun y _ => ?_
    unfold cellsOf
    rw [List.map_cons, List.sum_cons]
theorem sumN_less {f g : Nat → Int} {i0 : Nat} : ∀ {n : Nat}, (∀ i, i < n → f i ≤ g i) → i0 < n → f i0 + 1 ≤ g i0 → sumN n f + 1 ≤ sumN n g
  | 0, _, h, _ => absurd h (Nat.not_lt_zero _)
  | n + 1, h, hi, h0 => by
    unfold sumN
    by_cases e : i0 = n
    · subst e
      have := sumN_le (n := i0) fun i hi => h i (by omega)
      omega
    · have := sumN_less (n := n) (fun i hi => h i (by omega)) (by omega) h0
      have := h n (by omega)
      omega
theorem sumN_one : ∀ n : Nat, sumN n (fun _ => 1) = n
  | 0 => rfl
  | n + 1 => by
    unfold sumN
    rw [sumN_one n]
    dsimp only
    omega
theorem cells_pos {bs : List Bx} {x y : Nat} (h : cellsOf bs x y ≠ 0) : ∃ b ∈ bs, (b.w ≤ x ∧ (x : Int) < b.e) ∧ b.s ≤ y ∧ (y : Int) < b.n := by
  induction bs with
  | nil => exact absurd rfl h
  | cons a bs ih =>
    have e : cellsOf (a :: bs) x y = cell a x y + cellsOf bs x y := by
      unfold cellsOf
      rw [List.map_cons, List.sum_cons]
    rcases cell01 a x y with c | ⟨_, h1, h2⟩
    · obtain ⟨b, hb, q⟩ := ih (by omega)
      exact ⟨b, List.mem_cons_of_mem _ hb, q⟩
    · exact ⟨a, List.mem_cons_self .., h1, h2⟩
/-- every cell is in a box -/
theorem covered {bs : List Bx} {w h : Nat} (hb : ∀ b ∈ bs, Pos b ∧ 0 ≤ b.w ∧ b.e ≤ w ∧ 0 ≤ b.s ∧ b.n ≤ h) (hd : bs.Pairwise Dis) (hs : areas bs = (w : Int) * h) {x y : Nat} (hx : x < w) (hy : y < h) : ∃ b ∈ bs, (b.w ≤ x ∧ (x : Int) < b.e) ∧ b.s ≤ y ∧ (y : Int) < b.n := by
  refine cells_pos fun h0 => ?_
  have h1 := sum_cells hb
  have inner : ∀ x, sumN h (fun y => cellsOf bs x y) ≤ h := fun x => by
    have := sumN_le (n := h) (f := fun y => cellsOf bs x y) (g := fun _ => 1) fun y _ => (cells_le x y hd).2
    rw [sumN_one] at this
    exact this
  have low : sumN h (fun y => cellsOf bs x y) + 1 ≤ h := by
    have := sumN_less (n := h) (f := fun y => cellsOf bs x y) (g := fun _ => 1) (i0 := y) (fun y _ => (cells_le x y hd).2) hy (by omega)
    rw [sumN_one] at this
    exact this
  have tot' := sumN_less (n := w) (f := fun x => sumN h (fun y => cellsOf bs x y)) (g := fun _ => (h : Int)) (i0 := x) (fun x _ => inner x) hx low
  have e : sumN w (fun _ => (h : Int)) = (w : Int) * h := by
    have := sumN_mul (h : Int) (fun _ => 1) w
    rw [sumN_one] at this
    rw [← this]
    exact sumN_congr fun _ _ => (Int.one_mul _).symm
  rw [e, ← h1, hs] at tot'
  omega
theorem joinL_nil : ∀ ps : List (List Nat), TL.joinL [] ps = ps.flatten
  | [] => by simp [TL.joinL]
  | [a] => by simp [TL.joinL]
  | a :: b :: r => by
    have := joinL_nil (b :: r)
    simp [TL.joinL] at this ⊢
    try exact this
/-- pieces that lie one behind another from a to W -/
theorem seg {W : Nat} {wN eN c : Nat → Nat} : ∀ (ks : List Nat) (a : Nat), a ≤ W → (ks.Pairwise fun i j => wN i < wN j ∧ eN i ≤ wN j) → (∀ k ∈ ks, a ≤ wN k ∧ wN k < eN k ∧ eN k ≤ W) → (∀ x, a ≤ x → x < W → ∃ k ∈ ks, wN k ≤ x ∧ x < eN k) →
    (ks.map fun k => List.replicate (eN k - wN k) (c k)).flatten.length = W - a ∧ ∀ x, a ≤ x → ∀ k ∈ ks, wN k ≤ x → x < eN k → (ks.map fun k => List.replicate (eN k - wN k) (c k)).flatten[x - a]? = some (c k)
  | [], a, ha, _, _, cov => by
    refine ⟨?_, fun x _ k hk => by cases hk⟩
    by_cases h : a < W
    · obtain ⟨k, hk, _⟩ := cov a (Nat.le_refl _) h
      cases hk
    · show 0 = W - a
      omega
  | k :: ks, a, ha, pw, bd, cov => by
    obtain ⟨p1, p2⟩ := List.pairwise_cons.mp pw
    obtain ⟨b1, b2, b3⟩ := bd k (List.mem_cons_self ..)
    have hwa : wN k = a := by
      obtain ⟨k', hk', q1, q2⟩ := cov a (Nat.le_refl _) (by omega)
      rcases List.mem_cons.mp hk' with rfl | hk'
      · omega
      · have := (p1 k' hk').1
        omega
    have ih := seg (c := c) ks (eN k) b3 p2 (fun j hj => ⟨(p1 j hj).2, (bd j (List.mem_cons_of_mem _ hj)).2⟩) (fun x hx1 hx2 => by
      obtain ⟨k', hk', q1, q2⟩ := cov x (by omega) hx2
      rcases List.mem_cons.mp hk' with rfl | hk'
      · omega
      · exact ⟨k', hk', q1, q2⟩)
    rw [List.map_cons, List.flatten_cons]
    refine ⟨by rw [List.length_append, List.length_replicate, ih.1]; omega, fun x hx j hj q1 q2 => ?_⟩
    by_cases hxe : x < eN k
    · have ej : j = k := by
        rcases List.mem_cons.mp hj with rfl | hj
        · rfl
        · have := (p1 j hj).2
          omega
      rw [List.getElem?_append_left (by rw [List.length_replicate]; omega), List.getElem?_replicate, if_pos (by omega), ej]
    · have hj' : j ∈ ks := by
        rcases List.mem_cons.mp hj with rfl | hj
        · omega
        · exact hj
      rw [List.getElem?_append_right (by rw [List.length_replicate]; omega), List.length_replicate, show x - a - (eN k - wN k) = x - eN k from by omega]
      exact ih.2 x (by omega) j hj' q1 q2
/-- a plan that fills w x h -/
structure Full (w h : Nat) (bs : List Bx) : Prop where
  pb : PB bs
  ok : ∀ b ∈ bs, Pos b ∧ 0 ≤ b.w ∧ b.e ≤ w ∧ 0 ≤ b.s ∧ b.n ≤ h
  sum : areas bs = (w : Int) * h
def Cov (bs : List Bx) (k x : Nat) (y : Int) : Prop := k < bs.length ∧ ((bA bs k).w ≤ x ∧ (x : Int) < (bA bs k).e) ∧ (bA bs k).s ≤ y ∧ y < (bA bs k).n
theorem Full.cov {w h : Nat} {bs : List Bx} (F : Full w h bs) {x : Nat} {y : Int} (hx : x < w) (hy : 0 ≤ y ∧ y < h) : ∃ k, Cov bs k x y := by
  obtain ⟨n, rfl⟩ := Int.eq_ofNat_of_zero_le hy.1
  obtain ⟨b, hb, q1, q2⟩ := covered F.ok F.pb.dis F.sum hx (y := n) (by omega)
  obtain ⟨k, hk, e⟩ := List.mem_iff_getElem.mp hb
  refine ⟨k, hk, ?_⟩
  have : bA bs k = b := by
    unfold bA
    rw [List.getD_eq_getElem?_getD, List.getElem?_eq_getElem hk, e]
    rfl
  rw [this]
  exact ⟨q1, q2⟩
theorem row_list (bs : List Bx) (sg : Str) (y : Int) : (rowT bs sg y).cps.toList = ((rowI bs y).map fun k => List.replicate ((bA bs k).e - (bA bs k).w).toNat (sgC sg k)).flatten := by
  unfold rowT
  rw [DL.join_list, show ("" : Str).cps.toList = [] from rfl, joinL_nil, List.map_map]
  congr 1
  refine List.map_congr_left fun k hk => ?_
  show (repS (oneS (sgC sg k)) _).cps.toList = _
  have : ∀ i : Int, (repS (oneS (sgC sg k)) i).cps.toList = List.replicate i.toNat (sgC sg k) := fun i => rep_list (sgC sg k) i.toNat
  exact this _
theorem Full.row {w h : Nat} {bs : List Bx} (F : Full w h bs) (sg : Str) {y : Int} (hy : 0 ≤ y ∧ y < h) : (rowT bs sg y).length = w ∧ ∀ x k, Cov bs k x y → (rowT bs sg y).cps.toList[x]? = some (sgC sg k) := by
  have mem : ∀ {k}, k ∈ rowI bs y ↔ k < bs.length ∧ (bA bs k).s ≤ y ∧ y < (bA bs k).n := rowI_mem
  have bd : ∀ k ∈ rowI bs y, 0 ≤ (bA bs k).w ∧ (bA bs k).w < (bA bs k).e ∧ (bA bs k).e ≤ w := fun k hk => by
    obtain ⟨p, q1, q2, _⟩ := F.ok _ (bA_mem (mem.mp hk).1)
    unfold Pos at p
    omega
  have s := seg (W := w) (wN := fun k => (bA bs k).w.toNat) (eN := fun k => (bA bs k).e.toNat) (c := sgC sg) (rowI bs y) 0 (Nat.zero_le _) ?_ (fun k hk => by
      have := bd k hk
      omega) (fun x _ hx => by
      obtain ⟨k, hk, ⟨a1, a2⟩, a3, a4⟩ := F.cov hx hy
      have hk' := mem.mpr ⟨hk, a3, a4⟩
      have := bd k hk'
      exact ⟨k, hk', by omega, by omega⟩)
  · have e : ((rowI bs y).map fun k => List.replicate ((bA bs k).e - (bA bs k).w).toNat (sgC sg k)) = (rowI bs y).map fun k => List.replicate ((bA bs k).e.toNat - (bA bs k).w.toNat) (sgC sg k) := List.map_congr_left fun k hk => by
      have := bd k hk
      congr 1
      omega
    have e2 := row_list bs sg y
    rw [e] at e2
    refine ⟨by rw [DL.len_list, e2]; exact s.1, fun x k hc => ?_⟩
    obtain ⟨hk, ⟨a1, a2⟩, a3, a4⟩ := hc
    have hk' := mem.mpr ⟨hk, a3, a4⟩
    have := bd k hk'
    rw [e2]
    exact s.2 x (Nat.zero_le _) k hk' (by omega) (by omega)
  · refine (rowI_up F.pb y).imp_of_mem fun {i j} hi hj h => ?_
    obtain ⟨i1, i2, i3⟩ := mem.mp hi
    obtain ⟨j1, j2, j3⟩ := mem.mp hj
    have ne : i ≠ j := fun e => by
      rw [e] at h
      omega
    have d := dis_at F.pb.dis i1 j1 ne
    have b1 := bd i hi
    have b2 := bd j hj
    unfold Dis acr alo at d
    omega
theorem cov_inj {bs : List Bx} (hb : PB bs) {i j x : Nat} {y : Int} (h1 : Cov bs i x y) (h2 : Cov bs j x y) : i = j := by
  refine Classical.byContradiction fun ne => ?_
  have d := dis_at hb.dis h1.1 h2.1 ne
  obtain ⟨_, a, b⟩ := h1
  obtain ⟨_, c, e⟩ := h2
  unfold Dis acr alo at d
  omega
theorem sgC_sgT {n k : Nat} (hn : n ≤ 40) (hk : k < n) : sgC (sgT n) k = SG.cps.toList.getD k 0 := by
  have h := ix_sg (sg := sgT n) (k := k) (by rw [sgT_size hn]; exact hk)
  rw [sgT_list, List.getElem?_take, if_pos hk] at h
  rw [List.getD_eq_getElem?_getD, h]
  rfl
theorem SG_nodup : SG.cps.toList.Nodup := by decide +kernel
theorem sgC_mem {n k : Nat} (hn : n ≤ 40) (hk : k < n) : sgC (sgT n) k ∈ SG.cps.toList := by
  rw [sgC_sgT hn hk]
  exact DL.getD_mem (by rw [SG_len]; omega)
theorem sgC_inj {n i j : Nat} (hn : n ≤ 40) (hi : i < n) (hj : j < n) (h : sgC (sgT n) i = sgC (sgT n) j) : i = j := by
  rw [sgC_sgT hn hi, sgC_sgT hn hj, List.getD_eq_getElem?_getD, List.getD_eq_getElem?_getD, List.getElem?_eq_getElem (by rw [SG_len]; omega), List.getElem?_eq_getElem (by rw [SG_len]; omega)] at h
  exact (List.getElem_inj SG_nodup).mp h
def rowsP (bs : List Bx) (h : Nat) (sg : Str) : List Str := (List.range h).map fun i => rowT bs sg ((h : Int) - 1 - (i : Nat))
theorem rowsP_at {bs : List Bx} {h i : Nat} {sg : Str} (hi : i < h) : (rowsP bs h sg).getD i Str.empty = rowT bs sg ((h : Int) - 1 - (i : Nat)) := by
  unfold rowsP
  rw [getD_map (by rw [List.length_range]; exact hi) 0]
  rw [List.getD_eq_getElem?_getD, List.getElem?_range hi]
  rfl
theorem Full.char {w h : Nat} {bs : List Bx} (F : Full w h bs) {i x c : Nat} (hi : i < h) (hx : ((rowsP bs h (sgT bs.length)).getD i Str.empty).cps.toList[x]? = some c) : ∃ k, Cov bs k x ((h : Int) - 1 - (i : Nat)) ∧ c = sgC (sgT bs.length) k := by
  rw [rowsP_at hi] at hx
  obtain ⟨r1, r2⟩ := F.row (sgT bs.length) (y := (h : Int) - 1 - (i : Nat)) (by omega)
  have hxl : x < w := by
    have := (List.getElem?_eq_some_iff.mp hx).1
    rw [← DL.len_list, r1] at this
    exact this
  obtain ⟨k, hk⟩ := F.cov (y := (h : Int) - 1 - (i : Nat)) hxl (by omega)
  refine ⟨k, hk, ?_⟩
  rw [r2 x k hk] at hx
  exact (Option.some.inj hx).symm
theorem Full.rect {w h : Nat} {bs : List Bx} (F : Full w h bs) {k : Nat} (hk : k < bs.length) : Rect (rowsP bs h (sgT bs.length)) (sgC (sgT bs.length) k) (bA bs k).w.toNat (bA bs k).e.toNat (h - (bA bs k).n.toNat) (h - 1 - (bA bs k).s.toNat) := by
  have many := F.pb.many
  obtain ⟨p, q1, q2, q3, q4⟩ := F.ok _ (bA_mem hk)
  unfold Pos at p
  have rl : (rowsP bs h (sgT bs.length)).length = h := by unfold rowsP; rw [List.length_map, List.length_range]
  refine ⟨by omega, by omega, by rw [rl]; omega, fun i h1 h2 x => ⟨fun hx => ?_, fun hx => ?_⟩, fun i hi h1 hm => ?_⟩
  · obtain ⟨j, hj, e⟩ := F.char (i := i) (by omega) hx
    have := sgC_inj many hk hj.1 e
    subst this
    obtain ⟨_, a, b⟩ := hj
    omega
  · rw [rowsP_at (by omega)]
    exact (F.row (sgT bs.length) (y := (h : Int) - 1 - (i : Nat)) (by omega)).2 x k ⟨hk, by omega, by omega⟩
  · rw [rl] at hi
    obtain ⟨x, hx⟩ := List.getElem?_of_mem hm
    obtain ⟨j, hj, e⟩ := F.char hi hx
    have := sgC_inj many hk hj.1 e
    subst this
    obtain ⟨_, a, b⟩ := hj
    omega
theorem name_ok {z : Str} (h : Name z) : nameB z = true := by
  obtain ⟨⟨c, r, e, hc, hr⟩, h8⟩ := h
  have h1 : 1 ≤ z.length := by
    rw [DL.len_list, e, List.length_cons]
    omega
  have hl : lenOk z = true := by
    unfold lenOk
    rw [decide_eq_true (by omega), decide_eq_true (by omega)]
    rfl
  have hb : ∀ j, j < z.cps.size → badAt z j = false := fun j hj => by
    have hx : z.cps.toList[j]? = some (z.cps.getD j 0) := ix_sg hj
    rw [e] at hx
    unfold badAt
    cases j with
    | zero =>
      have : z.cps.getD 0 0 = c := (Option.some.inj hx).symm
      rw [this, decide_eq_true (show c ∈ sL.cps.toList from hc)]
      rfl
    | succ j =>
      rw [List.getElem?_cons_succ] at hx
      rcases hr _ (List.mem_of_getElem? hx) with q | q
      · rw [decide_eq_true (show z.cps.getD (j + 1) 0 ∈ sL.cps.toList from q)]
        rfl
      · rw [decide_eq_true (show z.cps.getD (j + 1) 0 ∈ sF.cps.toList from q), decide_eq_false (show ¬ (((j + 1 : Nat) : Int) = 0) by omega)]
        simp
  unfold nameB nfS
  rw [if_pos hl, firstP_none hb]
  rfl
theorem name_chars {z : Str} (h : Name z) (x : Nat) (hx : x ∈ z.cps.toList) : x ≠ 10 ∧ x ≠ 32 := by
  have key : ∀ y ∈ lowC.cps.toList ++ numC.cps.toList, y ≠ 10 ∧ y ≠ 32 := by decide +kernel
  exact key x (List.mem_append.mpr (h.1.chars x hx))
theorem SG_chars : ∀ y ∈ SG.cps.toList, y ≠ 10 ∧ y ≠ 32 ∧ y ≠ 45 := by decide +kernel
theorem words_sign {c : Nat} {b : Str} (hc : c ≠ 32) (hb : ∀ x ∈ b.cps.toList, x ≠ 32) (h0 : b ≠ "") : wordsT (oneS c ++ " " ++ b) = [oneS c, b] := by
  unfold wordsT
  rw [pieces_app sp_list, pieces_free (fun h => hc (by simpa [oneS] using h : (32 : Nat) = c).symm), pieces_free (fun h => hb 32 h rfl)]
  have h1 : oneS c ≠ ("" : Str) := fun e => by
    have := congrArg (fun z : Str => z.cps.toList.length) e
    exact absurd this (by show ¬ ((1 : Nat) = 0); decide)
  show List.filter _ [oneS c, b] = _
  rw [List.filter_cons_of_pos (by simpa using h1), List.filter_cons_of_pos (by simpa using h0)]
  rfl
theorem readL_pic {w h : Nat} {rs : List Str} {bs : List Bx} (F : Full w h bs) (hw : 1 ≤ w ∧ w ≤ 160) (hh : 1 ≤ h ∧ h ≤ 160) (V : VP rs bs) (h1 : 1 ≤ rs.length) (dia : ∀ a ∈ bs, ∀ b ∈ bs, Dia a b) :
    readL (picT rs h bs (sgT rs.length)) = .ok rs w h bs := by
  have many := V.many
  have rl := V.len
  have hsg : sgT rs.length = sgT bs.length := by rw [rl]
  have rowl : (rowsP bs h (sgT bs.length)).length = h := by unfold rowsP; rw [List.length_map, List.length_range]
  have e0 : picT rs h bs (sgT rs.length) = rowsP bs h (sgT bs.length) ++ (("--" : Str) :: (List.range rs.length).map (signL rs (sgT bs.length))) := by
    unfold picT rowsP
    rw [hsg, List.append_assoc]
    rfl
  have rowc : ∀ i, i < h → ∀ c ∈ ((rowsP bs h (sgT bs.length)).getD i Str.empty).cps.toList, ∃ k, k < bs.length ∧ c = sgC (sgT bs.length) k := fun i hi c hc => by
    obtain ⟨x, hx⟩ := List.getElem?_of_mem hc
    obtain ⟨k, hk, e⟩ := F.char hi hx
    exact ⟨k, hk.1, e⟩
  have roww : ∀ i, i < h → ((rowsP bs h (sgT bs.length)).getD i Str.empty).length = w := fun i hi => by
    rw [rowsP_at hi]
    exact (F.row (sgT bs.length) (y := (h : Int) - 1 - (i : Nat)) (by omega)).1
  have rne : ∀ i, i < h → (rowsP bs h (sgT bs.length)).getD i Str.empty ≠ "--" := fun i hi e => by
    obtain ⟨k, hk, ek⟩ := rowc i hi 45 (by rw [e]; decide +kernel)
    exact (SG_chars _ (ek ▸ sgC_mem (by omega) hk)).2.2 rfl
  generalize hR : rowsP bs h (sgT bs.length) = rows at *
  generalize hS : (List.range rs.length).map (signL rs (sgT bs.length)) = sl at *
  have sll : sl.length = rs.length := by rw [← hS, List.length_map, List.length_range]
  rw [e0]
  have bar : barP (rows ++ (("--" : Str) :: sl)) = h := by
    unfold barP
    have hlt : h < (rows ++ (("--" : Str) :: sl)).length := by
      rw [List.length_append, List.length_cons, rowl]
      omega
    rw [List.findIdx_eq hlt]
    refine ⟨decide_eq_true ?_, fun j hj => decide_eq_false fun e => rne j hj ?_⟩
    · rw [List.getElem_append_right (by omega)]
      simp [rowl]
    · rw [List.getElem_append_left (by omega)] at e
      rw [List.getD_eq_getElem?_getD, List.getElem?_eq_getElem (by omega)]
      exact e
  have tk : (rows ++ (("--" : Str) :: sl)).take h = rows := by rw [← rowl, List.take_left]
  have dp : (rows ++ (("--" : Str) :: sl)).drop (h + 1) = sl := by
    rw [← rowl, List.drop_append, List.drop_of_length_le (by omega)]
    simp
  have ein : readL (rows ++ (("--" : Str) :: sl)) = readAt (rows ++ (("--" : Str) :: sl)) h := by
    unfold readL
    rw [if_pos (List.mem_append_right _ (List.mem_cons_self ..)), bar]
  rw [ein]
  have nm : ∀ j, j < rs.length → Name (rs.getD j Str.empty) := fun j hj => V.names _ (DL.getD_mem hj)
  have wat : ∀ j, j < rs.length → (sl.map wordsT).getD j [] = [oneS (sgC (sgT bs.length) j), rs.getD j Str.empty] := fun j hj => by
    rw [← hS, List.map_map, getD_map (by rw [List.length_range]; exact hj) 0, List.getD_eq_getElem?_getD, List.getElem?_range hj]
    show wordsT (signL rs (sgT bs.length) j) = _
    unfold signL
    refine words_sign ?_ (fun x hx => (name_chars (nm j hj) x hx).2) fun e => ?_
    · exact (SG_chars _ (sgC_mem (by omega) (by omega))).2.1
    · have := name_ok (nm j hj)
      rw [e] at this
      exact absurd this (by decide +kernel)
  have wl : (sl.map wordsT).length = rs.length := by rw [List.length_map, sll]
  have fw : ∀ j, j ≤ rs.length → firstsW ((sl.map wordsT).take j) = (List.range j).map fun k => oneS (sgC (sgT bs.length) k) := fun j => by
    induction j with
    | zero => exact fun _ => rfl
    | succ j ih =>
      intro hj
      rw [firstsW_succ (by omega), ih (by omega), wat j hj, List.range_succ, List.map_append]
      rfl
  have hn : ∀ j, j < (sl.map wordsT).length → signF ((sl.map wordsT).getD j []) (stepN (sl.map wordsT) j).1 (stepN (sl.map wordsT) j).2 = none := fun j hj => by
    rw [wl] at hj
    rw [wat j hj, signF_two, if_neg, if_neg, if_neg, if_pos]
    · unfold stepN
      dsimp only
      by_cases h0 : j = 0
      · rw [if_pos h0]
        exact name_pos (name_ok (nm j hj))
      · rw [if_neg h0, wat (j - 1) (by omega)]
        have := List.pairwise_iff_getElem.mp V.up (j - 1) j (by omega) hj (by omega)
        show ltS (rs.getD (j - 1) Str.empty) (rs.getD j Str.empty) = true
        rw [List.getD_eq_getElem?_getD, List.getD_eq_getElem?_getD, List.getElem?_eq_getElem (by omega), List.getElem?_eq_getElem hj]
        exact this
    · show oneS _ ∉ firstsW _
      rw [fw j (by omega)]
      intro hm
      obtain ⟨k, hk, e⟩ := List.mem_map.mp hm
      have hk := List.mem_range.mp hk
      have := sgC_inj (n := bs.length) (by omega) (by omega) (by omega) (oneS_inj e)
      omega
    · rw [name_ok (nm j hj)]
      exact Bool.noConfusion
    · exact fun k => k ⟨rfl, sgC_mem (n := bs.length) (by omega) (by omega)⟩
  have hlin : linesF ((rows ++ (("--" : Str) :: sl)).drop (h + 1)) = none := by
    rw [dp]
    unfold linesF
    rw [if_neg (fun e => by rw [e] at sll; simp at sll; omega), told_none hn]
  have code : ∀ j, j < rs.length → codeW ((sl.map wordsT).getD j []) = sgC (sgT bs.length) j := fun j hj => by
    rw [wat j hj]
    rfl
  have hgrid : gridF ((rows ++ (("--" : Str) :: sl)).take h) (firstsW (((rows ++ (("--" : Str) :: sl)).drop (h + 1)).map wordsT)) = none := by
    rw [tk, dp]
    unfold gridF
    rw [if_neg (fun e => by rw [e] at rowl; simp at rowl; omega), firstO_none fun i hi => ?_]
    rw [rowl] at hi
    unfold rowF
    have hi2 := roww i hi
    have h02 := roww 0 (by omega)
    rw [if_neg, if_neg, if_pos]
    · refine List.all_eq_true.mpr fun c hc => decide_eq_true ?_
      obtain ⟨k, hk, e⟩ := rowc i hi c hc
      have hfw := fw rs.length (Nat.le_refl _)
      rw [← wl, List.take_length, wl] at hfw
      rw [hfw, e]
      exact List.mem_map.mpr ⟨k, List.mem_range.mpr (by omega), rfl⟩
    · rw [Bool.or_eq_true, decide_eq_true_iff, decide_eq_true_iff]
      omega
    · rw [Bool.or_eq_true, decide_eq_true_iff, decide_eq_true_iff]
      rintro (e | e)
      · rw [e] at hi2
        have : (0 : Nat) = w := hi2
        omega
      · exact e (by omega)
  have hrect : ∀ j, j < rs.length → boxF rows (codeW ((sl.map wordsT).getD j [])) = none ∧ boxO rows (codeW ((sl.map wordsT).getD j [])) = bA bs j := fun j hj => by
    rw [code j hj]
    have hj' : j < bs.length := by omega
    obtain ⟨p, q1, q2, q3, q4⟩ := F.ok _ (bA_mem hj')
    unfold Pos at p
    have R := F.rect hj'
    rw [hR] at R
    obtain ⟨b1, b2⟩ := R.box
    refine ⟨b1, ?_⟩
    rw [b2, rowl]
    generalize bA bs j = b at *
    obtain ⟨bw, bs', be, bn⟩ := b
    dsimp only at *
    congr 1 <;> omega
  have hbox : firstO (fun i => boxF ((rows ++ (("--" : Str) :: sl)).take h) (codeW ((((rows ++ (("--" : Str) :: sl)).drop (h + 1)).map wordsT).getD i []))) (((rows ++ (("--" : Str) :: sl)).drop (h + 1)).map wordsT).length = none := by
    rw [tk, dp, wl]
    exact firstO_none fun i hi => (hrect i hi).1
  have hfour : firstO (fourF ((rows ++ (("--" : Str) :: sl)).take h)) (h - 1) = none := by
    rw [tk]
    refine firstO_none fun i hi => ?_
    unfold fourF
    rw [if_neg]
    intro hb
    obtain ⟨x, hx, hp⟩ := List.any_eq_true.mp hb
    obtain ⟨a1, a2⟩ := Bool.and_eq_true_iff.mp hp
    have a1 := of_decide_eq_true a1
    have a2 := of_decide_eq_true a2
    have hx := List.mem_range.mp hx
    rw [roww i (by omega)] at hx
    obtain ⟨j, rfl⟩ : ∃ j, x = j + 1 := ⟨x - 1, by omega⟩
    have ch : ∀ r y, r < h → y < w → ∃ k, Cov bs k y ((h : Int) - 1 - (r : Nat)) ∧ uch (rows.getD r Str.empty) y = sgC (sgT bs.length) k := fun r y hr hy => by
      have hrw := roww r hr
      have := ix_sg (sg := rows.getD r Str.empty) (k := y) (by show y < (rows.getD r Str.empty).length; omega)
      have hR' := this
      rw [← hR] at hR'
      obtain ⟨k, hk, e⟩ := F.char hr hR'
      rw [hR] at e
      exact ⟨k, hk, e⟩
    obtain ⟨k1, c1, e1⟩ := ch i j (by omega) (by omega)
    obtain ⟨k2, c2, e2⟩ := ch i (j + 1) (by omega) (by omega)
    obtain ⟨k3, c3, e3⟩ := ch (i + 1) j (by omega) (by omega)
    obtain ⟨k4, c4, e4⟩ := ch (i + 1) (j + 1) (by omega) (by omega)
    have nd := dd_full (l := [oneS (uch (rows.getD i Str.empty) j), oneS (uch (rows.getD i Str.empty) (j + 1)), oneS (uch (rows.getD (i + 1) Str.empty) j), oneS (uch (rows.getD (i + 1) Str.empty) (j + 1))]) (by
      show ¬ (dd _).length < 4
      have a2 : (dd [oneS (uch (rows.getD i Str.empty) j), oneS (uch (rows.getD i Str.empty) (j + 1)), oneS (uch (rows.getD (i + 1) Str.empty) j), oneS (uch (rows.getD (i + 1) Str.empty) (j + 1))]).length = 4 := a2
      omega)
    rw [e1, e2, e3, e4] at nd
    simp only [List.nodup_cons, List.mem_cons, List.not_mem_nil, or_false, not_or, List.nodup_nil, and_true, not_false_eq_true] at nd
    obtain ⟨⟨n12, n13, n14⟩, ⟨n23, n24⟩, n34⟩ := nd
    have d : ∀ {p q : Nat}, oneS (sgC (sgT bs.length) p) ≠ oneS (sgC (sgT bs.length) q) → p ≠ q := fun n e => n (by rw [e])
    have no : ∀ {p q : Nat} {y : Nat} {v : Int}, p ≠ q → Cov bs q y v → ¬ Cov bs p y v := fun n h1 h2 => n (cov_inj F.pb h2 h1)
    have x1 := no (d n34) c4
    have x2 := no (Ne.symm (d n13)) c1
    have x3 := no (Ne.symm (d n12)) c1
    have x4 := no (d n24) c4
    have dd' := dia _ (bA_mem c3.1) _ (bA_mem c2.1)
    unfold Cov at *
    obtain ⟨l3, c3a, c3b⟩ := c3
    obtain ⟨l2, c2a, c2b⟩ := c2
    unfold Dia at dd'
    simp only [l3, l2, true_and] at x1 x2 x3 x4
    refine dd' ⟨?_, ?_⟩ <;> omega
  rw [rd_ok hlin hgrid hbox hfour, tk, dp]
  have r1 : ((sl.map wordsT).map fun ws => ws.getD 1 Str.empty) = rs := List.ext_getElem (by rw [List.length_map, wl]) fun j q1 q2 => by
    rw [List.getElem_map]
    have := wat j q2
    rw [List.getD_eq_getElem?_getD, List.getElem?_eq_getElem (by rw [wl]; exact q2)] at this
    have this : (sl.map wordsT)[j] = _ := this
    rw [this]
    show rs.getD j Str.empty = rs[j]
    rw [List.getD_eq_getElem?_getD, List.getElem?_eq_getElem q2]
    rfl
  have r2 : ((sl.map wordsT).map fun ws => boxO rows (codeW ws)) = bs := List.ext_getElem (by rw [List.length_map, wl]; exact rl) fun j q1 q2 => by
    rw [List.getElem_map]
    have := (hrect j (by omega)).2
    rw [List.getD_eq_getElem?_getD, List.getElem?_eq_getElem (by rw [wl]; omega)] at this
    have this : boxO rows (codeW (sl.map wordsT)[j]) = bA bs j := this
    rw [this]
    unfold bA
    rw [List.getD_eq_getElem?_getD, List.getElem?_eq_getElem q2]
    rfl
  rw [r1, r2, roww 0 (by omega)]
/-! joined rows -/
theorem join_nil (y : Str) : Txt.join y [] = "" := str_ext (by rw [DL.join_list]; rfl)
theorem linesT_join {ls : List Str} (h : ls ≠ []) (hp : ∀ p ∈ ls, 10 ∉ p.cps.toList) : linesT (Txt.join "\n" ls) = [] ∨ linesT (Txt.join "\n" ls) = ls := by
  unfold linesT
  split
  · exact .inl rfl
  · exact .inr (pieces_join nl_list h hp)
theorem tp_rows {ls : List Str} (R : Rows 1000 1000 ls) : TP (Txt.join "\n" ls) := by
  have hm := R.many
  have key : linesT (Txt.join "\n" ls) = [] ∨ linesT (Txt.join "\n" ls) = ls := by
    by_cases h : ls = []
    · subst h
      rw [join_nil]
      exact .inl rfl
    · exact linesT_join h fun p hp => (R.line p hp).1
  refine ⟨?_, ?_, ?_⟩
  · refine Nat.le_trans (join_len "\n" ls (m := 1000) fun p hp => (R.line p hp).2) ?_
    have e : ("\n" : Str).length = 1 := rfl
    rw [e]
    omega
  · rcases key with e | e <;> rw [e]
    · exact Nat.zero_le _
    · omega
  · rcases key with e | e <;> rw [e]
    · exact fun l hl => by cases hl
    · exact fun l hl => Nat.le_trans (R.line l hl).2 (by decide)
theorem linesT_two {ls : List Str} (h : 2 ≤ ls.length) (hp : ∀ p ∈ ls, 10 ∉ p.cps.toList) : linesT (Txt.join "\n" ls) = ls := by
  have hne : ls ≠ [] := fun e => by rw [e] at h; simp at h
  have pj := pieces_join nl_list hne hp
  unfold linesT
  rw [if_neg, pj]
  intro e
  rw [e] at pj
  have := pieces_len 10 ""
  rw [pj] at this
  have e0 : ("" : Str).length = 0 := rfl
  omega
/-- signs for a plan's rooms -/
structure SgP (sg : Str) (n : Nat) : Prop where
  size : sg.cps.size = n
  sub : ∀ c ∈ sg.cps.toList, c ∈ SG.cps.toList
theorem SgP.line {sg : Str} {n : Nat} (h : SgP sg n) : LineP n sg := ⟨fun hm => (SG_chars _ (h.sub _ hm)).1 rfl, Nat.le_of_eq h.size⟩
theorem sgT_P {n : Nat} (h : n ≤ 40) : SgP (sgT n) n := ⟨sgT_size h, fun c hc => by rw [sgT_list] at hc; exact List.mem_of_mem_take hc⟩
theorem SgP.at {sg : Str} {n k : Nat} (h : SgP sg n) (hk : k < n) : sgC sg k ∈ SG.cps.toList := by
  refine h.sub _ (List.mem_of_getElem? (ix_sg (k := k) ?_))
  rw [h.size]
  exact hk
theorem pic_rows {w h : Nat} {rs : List Str} {bs : List Bx} {sg : Str} (F : Full w h bs) (V : VP rs bs) (hw : w ≤ 160) (hh : h ≤ 160) (S : SgP sg bs.length) : Rows 160 201 (picT rs h bs sg) := by
  have many := V.many
  have rl := V.len
  refine ⟨fun l hl => ?_, ?_⟩
  · unfold picT at hl
    rcases List.mem_append.mp hl with hl | hl
    · rcases List.mem_append.mp hl with hl | hl
      · obtain ⟨i, hi, rfl⟩ := List.mem_map.mp hl
        have hi := List.mem_range.mp hi
        have hy : 0 ≤ (h : Int) - 1 - (i : Nat) ∧ (h : Int) - 1 - (i : Nat) < h := by omega
        obtain ⟨r1, r2⟩ := F.row sg hy
        refine ⟨fun hm => ?_, by omega⟩
        obtain ⟨x, hx⟩ := List.getElem?_of_mem hm
        have hxw : x < w := by
          rw [← r1, DL.len_list]
          exact (List.getElem?_eq_some_iff.mp hx).1
        obtain ⟨k, hk⟩ := F.cov hxw hy
        have e := r2 x k hk
        rw [hx] at e
        have e := Option.some.inj e
        exact (SG_chars _ (e ▸ S.at hk.1)).1 rfl
      · rw [List.mem_singleton.mp hl]
        exact litP (by decide +kernel) (by decide +kernel)
    · obtain ⟨k, hk, rfl⟩ := List.mem_map.mp hl
      have hk := List.mem_range.mp hk
      have nm := V.names _ (DL.getD_mem (z := Str.empty) hk)
      have n8 := nm.2
      unfold signL
      refine (line_app (a := 1 + 1) (b := 8) (line_app (a := 1) (b := 1) ⟨fun hm => ?_, Nat.le_refl _⟩ (litP (by decide +kernel) (by decide +kernel))) ⟨fun hm => ((name_chars nm) 10 hm).1 rfl, n8⟩).mono (by decide)
      have : (10 : Nat) = sgC sg k := by simpa [oneS] using hm
      exact (SG_chars _ (S.at (k := k) (by omega))).1 this.symm
  · unfold picT
    rw [List.length_append, List.length_append, List.length_map, List.length_map, List.length_range, List.length_range]
    show h + 1 + rs.length ≤ 201
    omega
/-- a plan that is drawn -/
structure Good (w h : Nat) (rs : List Str) (bs : List Bx) : Prop where
  full : Full w h bs
  vp : VP rs bs
  wide : 1 ≤ w ∧ w ≤ 160
  high : 1 ≤ h ∧ h ≤ 160
  one : 1 ≤ rs.length
theorem readT_pic {w h : Nat} {rs : List Str} {bs : List Bx} (g : Good w h rs bs) (dia : ∀ a ∈ bs, ∀ b ∈ bs, Dia a b) : readT (Txt.join "\n" (picT rs h bs (sgT rs.length))) = .ok rs w h bs := by
  have many := g.vp.many
  have rl := g.vp.len
  have R := pic_rows (sg := sgT rs.length) g.full g.vp g.wide.2 g.high.2 (by rw [← rl]; exact sgT_P many)
  unfold readT
  rw [linesT_two ?_ fun p hp => (R.line p hp).1, readL_pic g.full g.wide g.high g.vp g.one dia]
  unfold picT
  rw [List.length_append, List.length_append, List.length_map, List.length_map, List.length_range, List.length_range]
  show 2 ≤ h + 1 + rs.length
  have := g.one
  omega
theorem Rows.wide {a b : Nat} {ls : List Str} (h : Rows a b ls) (h1 : a ≤ 1000) (h2 : b ≤ 1000) : Rows 1000 1000 ls := h.mono h1 h2
theorem ev_rows {ρ : List Sl} {te : TE} {ls : List Str} (h : EV K te ρ (.list (ls.map PyData.str))) (R : Rows 1000 1000 ls) : EV K (tM1 (rJoinU K) (tC (.str "\n")) te) ρ (.str (Txt.join "\n" ls)) := ev_joinL ev_str h (join_fit (m := 1000) (n := 1000) (fun z hz => (R.line z hz).2) R.many (by decide) (by decide))
/-! drawn numbers, drawn plans -/
def InB (a b : Int) : D → Prop := fun d => ∃ i : Int, d = .int i ∧ a ≤ i ∧ i ≤ b
theorem InB.wide {a b a' b' : Int} {d : D} (h : InB a b d) (h1 : a' ≤ a) (h2 : b ≤ b') : InB a' b' d := by
  obtain ⟨i, rfl, _, _⟩ := h
  exact ⟨i, rfl, by omega, by omega⟩
/-- c + a drawn number -/
theorem evx_from2 {ρ : List Sl} {n : Nat} {c m a b : Int} {tb : TE} (hi : ρ[n]? = some (.fr stD)) (hb : EV K tb ρ (.int m)) (h0 : 0 < m) (h1 : m ≤ 1000000) (h2 : a ≤ c) (h3 : c + m - 1 ≤ b) : EVX K (tOp (rAddU K) (tC (.int c)) (tCall (sp_u_law_take K) [] E0 (tCons (tVar n) (tCons tb tNil)))) ρ (InB a b) := by
  refine evx_op (Pa := fun d => d = .int c) (Pc := IntB m) (evx_of ev_int rfl) (ev_takeB hi hb h0 h1) ?_
  rintro a b rfl ⟨v, rfl, v0, v1⟩
  exact ⟨_, od_addI, _, rfl, by omega, by omega⟩
def PlanS (st : Bool) : D → Prop := fun d => ∃ (w h : Nat) (rs : List Str) (bs : List Bx), d = plD rs w h bs ∧ Good w h rs bs ∧ (st = true → ∀ a ∈ bs, ∀ b ∈ bs, Dia a b)
theorem evx_plan {ρ : List Sl} {t1 t2 t3 : TE} {n : Nat} {st : Bool} (hi : ρ[n]? = some (.fr stD)) (h1 : EVX K t1 ρ (InB 1 40)) (h2 : EVX K t2 ρ (InB 1 160)) (h3 : EVX K t3 ρ (InB 1 160)) : EVX K (tCall (sp_u_law_plan K) [] E0 (tCons (tVar n) (tCons t1 (tCons t2 (tCons t3 (tCons (tC (.bl st)) tNil)))))) ρ (PlanS st) := by
  unfold sp_u_law_plan
  refine evx_callQ (Pl := fun ds => ∃ (m : Nat) (w h : Int), ds = [stD, .int (m : Int), .int w, .int h, .bool st] ∧ 1 ≤ m ∧ m ≤ 40 ∧ 1 ≤ w ∧ w ≤ 160 ∧ 1 ≤ h ∧ h ≤ 160) (eax_cons (Pa := fun d => d = stD) (Pl := fun ds => ∃ (m : Nat) (w h : Int), ds = [.int (m : Int), .int w, .int h, .bool st] ∧ 1 ≤ m ∧ m ≤ 40 ∧ 1 ≤ w ∧ w ≤ 160 ∧ 1 ≤ h ∧ h ≤ 160) (evx_of (ev_var hi) rfl) (eax_cons (Pl := fun ds => ∃ (w h : Int), ds = [.int w, .int h, .bool st] ∧ 1 ≤ w ∧ w ≤ 160 ∧ 1 ≤ h ∧ h ≤ 160) h1 (eax_cons (Pl := fun ds => ∃ (h : Int), ds = [.int h, .bool st] ∧ 1 ≤ h ∧ h ≤ 160) h2 (eax_cons (Pl := fun ds => ds = [.bool st]) h3 (eax_of (ea_cons ev_bl ea_nil) rfl) ?_) ?_) ?_) ?_) ?_
  · rintro d ds ⟨i, rfl, a, b⟩ rfl
    exact ⟨i, rfl, a, b⟩
  · rintro d ds ⟨i, rfl, a, b⟩ ⟨j, rfl, c⟩
    exact ⟨i, j, rfl, a, b, c⟩
  · rintro d ds ⟨i, rfl, a, b⟩ ⟨j, k, rfl, c⟩
    exact ⟨i.toNat, j, k, by rw [Int.toNat_of_nonneg (by omega)], by omega, by omega, c⟩
  · rintro d ds rfl ⟨m, w, h, rfl, c⟩
    exact ⟨m, w, h, rfl, c⟩
  · rintro ds ⟨m, w, h, rfl, c1, c2, c3, c4, c5, c6⟩
    refine ⟨⟨m, w, h, st, rfl, c1, c2, c3, by omega, c5, by omega⟩, ?_⟩
    rintro d ⟨m', w', h', st', rs, bs, e, rfl, V, C⟩
    obtain ⟨rfl, rfl, rfl⟩ : w = w' ∧ h = h' ∧ st = st' := by
      injection e with _ e
      injection e with e1 e
      injection e with e2 e
      injection e with e3 e
      injection e with e4 e
      injection e2 with e2
      injection e3 with e3
      injection e4 with e4
      exact ⟨e2, e3, e4⟩
    obtain ⟨W, rfl⟩ := Int.eq_ofNat_of_zero_le (show 0 ≤ w by omega)
    obtain ⟨H, rfl⟩ := Int.eq_ofNat_of_zero_le (show 0 ≤ h by omega)
    have rl := V.len
    have lo := C.lo
    refine ⟨W, H, rs, bs, rfl, ⟨⟨⟨C.hi, fun b hb => ?_, C.dis⟩, C.ok, C.sum⟩, V, by omega, by omega, by omega⟩, C.dia⟩
    obtain ⟨p, q1, q2, q3, q4⟩ := C.ok b hb
    exact ⟨p, q1, by omega, q3, by omega⟩
theorem evx_ixOV {ρ : List Sl} {tb : TE} {n : Nat} {ds : List D} {Pd : D → Prop} (hi : ρ[n]? = some (.ow (.list ds))) (hb : EVX K tb ρ (fun d => ∃ k : Nat, d = .int (k : Int) ∧ k < ds.length ∧ Pd (ds.getD k .none))) : EVX K (tOp (rIx K) (tVar n) tb) ρ Pd := fun G0 H0 G H σ Q E q => by
  obtain ⟨l, vs, h1, h2, h3, h0⟩ := own_lookG E hi
  refine ⟨_, h1, hb G0 H0 G H σ _ E fun d y G1 H1 hp e1 hy => ?_⟩
  obtain ⟨k, rfl, hk, p⟩ := hp
  cases hy
  have ek : ds[k]? = some (ds.getD k .none) := by
    rw [List.getD_eq_getElem?_getD, List.getElem?_eq_getElem hk]
    rfl
  obtain ⟨v, a1, a2⟩ := atI_dq h3 (atI_nat ek)
  exact .inl ⟨_, _, _, v, rfl, rfl, SqL.of (e1.at h0 h2), a1, q _ v G1 H1 p e1 (a2.mono e1.g)⟩
theorem eix_list {ρ : List Sl} {te : TE} {Pl : List D → Prop} (h : EVX K te ρ (fun d => ∃ ds, d = .list ds ∧ Pl ds)) : EIX K (iSeqU K te) ρ (fun n it => ∃ ds : List D, n = ds.length ∧ it = (fun i => ds.getD i .none) ∧ Pl ds) := fun G0 H0 G H σ R E q =>
  h G0 H0 G H σ _ E fun d v G1 H1 hp e1 hv => by
    obtain ⟨ds, rfl, hl⟩ := hp
    cases hv with
    | @lst a xs _ ha hr =>
      refine .inl ⟨a, xs, rfl, SqL.of (e1.gh.lst ha), ?_⟩
      refine q xs.length (fun i => ds.getD i .none) _ G1 H1 _ _ ⟨ds, hr.length, rfl, hl⟩ e1 (walk_list (K := K) (a := a)) (fun G2 H2 hg gh => SqL.of (gh.lst (hg _ _ ha))) fun i G2 H2 x H3 hi hg gh hy => ?_
      obtain ⟨rfl, hx⟩ := hy
      obtain ⟨d, hd, hq⟩ := hr.got hx
      exact ⟨G2, .refl gh, by show Dq K G2 x (ds.getD i .none); rw [getD_of hd]; exact hq.mono (Sub.of hg)⟩
theorem evx_bend {ρ : List Sl} {te : TE} {n m : Nat} {sg : Str} (h1 : ρ[1]? = some (.fr stD)) (h8 : ρ[8]? = some (.fr (.str sg))) (S1 : 1 ≤ sg.length) (S : LineP 40 sg) (n0 : 20 ≤ n) (n1 : n ≤ 1000) (m1 : m ≤ 1000) (h : EVX K te ρ (fun d => ∃ ls : List Str, d = .list (ls.map PyData.str) ∧ Rows n m ls ∧ 1 ≤ ls.length)) : EVX K (tCall (sp_u_law_bend K) [] E0 (tCons (tVar 1) (tCons te (tCons (tVar 8) tNil)))) ρ (LstX (2 * n + 4) (m + 1)) := by
  unfold sp_u_law_bend
  refine evx_callQ (Pl := fun ds => ∃ ls : List Str, ds = [stD, .list (ls.map PyData.str), .str sg] ∧ Rows n m ls ∧ 1 ≤ ls.length) (eax_cons (Pa := fun d => d = stD) (Pl := fun ds => ∃ ls : List Str, ds = [.list (ls.map PyData.str), .str sg] ∧ Rows n m ls ∧ 1 ≤ ls.length) (evx_of (ev_var h1) rfl) (eax_cons (Pl := fun ds => ds = [.str sg]) h (eax_of (ea_cons (ev_var h8) ea_nil) rfl) ?_) ?_) ?_
  · rintro d ds ⟨ls, rfl, R⟩ rfl
    exact ⟨ls, rfl, R⟩
  · rintro d ds rfl ⟨ls, rfl, R⟩
    exact ⟨ls, rfl, R⟩
  · rintro ds ⟨ls, rfl, R, l1⟩
    refine ⟨⟨n, m, ls, sg, rfl, n0, n1, m1, l1, R, S1, S⟩, ?_⟩
    rintro d ⟨ls', t, ls2, e, rfl, k⟩
    injection e with _ e
    injection e with e1 e
    injection e1 with e1
    have := map_str_inj e1
    subst this
    exact ⟨ls2, rfl, k n m n0 R⟩
def Texts : List D → Prop := fun ds => ∃ lss : List (List Str), ds = lss.map lsD ∧ lss.length ≤ 100 ∧ ∀ ls ∈ lss, Rows 1000 1000 ls
theorem evx_fixed {ρ : List Sl} {te : TE} (h : EVX K te ρ (fun d => ∃ w : Int, d = .int w ∧ (w = 160 ∨ w = 2))) : EVX K (tCall (sp_u_law_fixed K) [] E0 (tCons te tNil)) ρ (fun d => ∃ lss : List (List Str), d = .list (lss.map lsD) ∧ lss.length ≤ 30 ∧ ∀ ls ∈ lss, Rows 1000 1000 ls) := by
  unfold sp_u_law_fixed
  refine evx_callQ (Pl := fun ds => ∃ w : Int, ds = [.int w] ∧ (w = 160 ∨ w = 2)) (eax_one h ?_) ?_
  · rintro d ⟨w', rfl, k⟩
    exact ⟨w', rfl, k⟩
  · rintro ds k
    exact ⟨k, fun d p => p⟩
theorem rev_P {z : Str} {n : Nat} (h : SgP z n) : SgP (revS z) n := by
  refine ⟨?_, fun c hc => h.sub c ?_⟩
  · rw [← Array.length_toList]
    show z.cps.toList.reverse.length = n
    rw [List.length_reverse, Array.length_toList]
    exact h.size
  · exact List.mem_reverse.mp hc
theorem turn_P {t m : Nat} (ht : t < 40) (hm : m ≤ 40) : SgP (cutS (sgT 40 ++ sgT 40) (some (t : Int)) (some ((t : Int) + (m : Int)))) m := by
  have l80 : (sgT 40 ++ sgT 40).cps.toList.length = 80 := by decide +kernel
  have e := cutM_list (sgT 40 ++ sgT 40) t m (by omega)
  refine ⟨?_, fun c hc => ?_⟩
  · rw [← Array.length_toList, e, List.length_take, List.length_drop, l80]
    omega
  · rw [e] at hc
    have hc := List.mem_of_mem_drop (List.mem_of_mem_take hc)
    rw [PyProof.Rows.cps_toList_append] at hc
    exact (List.mem_append.mp hc).elim ((sgT_P (by decide)).sub c) ((sgT_P (by decide)).sub c)
theorem tp_e : TP "" := ⟨by decide +kernel, by decide +kernel, by decide +kernel⟩
theorem tp_n : TP "\n" := ⟨by decide +kernel, by decide +kernel, by decide +kernel⟩
def prD (p : Int × Int) : D := .tuple [.int p.1, .int p.2]
theorem ok_law (T : Txt K mg) {fd : FuncData} (F : FunD K "law" "law" (defArgs s_law) (defBody s_law) (defScope s_law) [] [] (He.ga K "law") fd) (O_u_law_state : Okd P w K mg base CX0 1 "_law_state" ["script"] (sp_u_law_state K)) (O_u_law_plan : Okd P w K mg base CX0 4 "_law_plan" ["state", "many", "wide", "high", "strict"] (sp_u_law_plan K)) (O_u_law_signs : Okd P w K mg base CX0 1 "_law_signs" ["many"] (sp_u_law_signs K)) (O_u_law_picture : Okd P w K mg base CX0 1 "_law_picture" ["plan", "signs"] (sp_u_law_picture K)) (O_u_law_take : Okd P w K mg base CX0 1 "_law_take" ["state", "many"] (sp_u_law_take K)) (O_u_law_same : Okd P w K mg base CX0 2 "_law_same" ["told", "due"] (sp_u_law_same K)) (O_u_law_bend : Okd P w K mg base CX0 3 "_law_bend" ["state", "lines", "signs"] (sp_u_law_bend K)) (O_u_law_fixed : Okd P w K mg base CX0 1 "_law_fixed" ["wide"] (sp_u_law_fixed K)) (O_u_law_ask : Okd P w K mg base CX0 6 "_law_ask" ["text"] (sp_u_law_ask K)) (O_u_law_wide : Okd P w K mg base CX0 4 "_law_wide" ["plan"] (sp_u_law_wide K)) (O_u_law_due : Okd P w K mg base CX0 3 "_law_due" ["text"] (sp_u_law_due K)) (O_picture_of : Okd P w K mg base (L2N.CX P w) 3 "picture_of" ["plan"] (sp_picture_of K)) (O_room_signs : Okd P w K mg base CX0 1 "room_signs" ["rooms"] (sp_room_signs K)) : FnOk P w K mg base CX0 7 (He.ga K "law") fd ["script"] (sp_law K) := by
  refine fn_pf F sc_law ?_ (fun cdv A outer s H E hr => ⟨_, dv_law T O_u_law_state O_u_law_plan O_u_law_signs O_u_law_picture O_u_law_take O_u_law_same O_u_law_bend O_u_law_fixed O_u_law_ask O_u_law_wide O_u_law_due O_picture_of O_room_signs cdv A outer s H E hr, ?_⟩)
  · rintro ds d ⟨x0, rfl, _⟩
    rfl
  · rintro ds d ⟨ns, rfl, hns, rfl⟩
    refine ST.mono (P := fun o => o = .rt (.bool true)) ?_ fun o h => .inl h
    show ST K E0 (t_law K) [.fr (.dict [(.none, .list (ns.map PyData.int))]), .no, .no, .no, .no, .no, .no, .no, .no, .no, .no, .no, .no, .no, .no, .no, .no, .no, .no] _
    unfold t_law sp_u_law_state sp_u_law_signs sp_u_law_picture sp_u_law_same sp_room_signs sp_picture_of sp_u_law_wide sp_u_law_due sp_u_law_ask
    refine q_asg (d := stD) (ev_call (ea_cons (ev_var rfl) ea_nil) ⟨ns, rfl, hns, rfl⟩) ?_
    refine q_asgV (Pd := fun d => ∃ b, d = .bool b) (evx_op (Pa := IntB 7) (Pc := fun d => d = .int 2) (ev_takeB (n := 1) rfl ev_int (by decide) (by decide)) (evx_of ev_int rfl) (by rintro a b ⟨i, rfl, _⟩ rfl; exact ⟨_, od_eqI, _, rfl⟩)) ?_
    rintro d ⟨great, rfl⟩
    have tG : ∀ ρ : List Sl, ρ[2]? = some (.fr (.bool great)) → ETX K (tTr K (tVar 2)) ρ (fun _ => True) := fun ρ e => etx_of (et_trB (ev_var e)) trivial
    have two : ∀ ρ : List Sl, ρ[1]? = some (.fr stD) → ETX K (tTest (tOp (rEqU K) (tCall (sp_u_law_take K) [] E0 (tCons (tVar 1) (tCons (tC (.int 2)) tNil))) (tC (.int 0)))) ρ (fun _ => True) := fun ρ e => etx_test (Pd := fun d => ∃ b, d = .bool b) (evx_op (Pa := IntB 2) (Pc := fun d => d = .int 0) (ev_takeB (n := 1) e ev_int (by decide) (by decide)) (evx_of ev_int rfl) (by rintro a b ⟨i, rfl, _⟩ rfl; exact ⟨_, od_eqI, _, rfl⟩)) fun d ⟨b, e⟩ => ⟨b, e, trivial⟩
    refine q_asgV (Pd := InB 1 40) (evx_if (tG _ rfl) (fun _ => evx_of ev_int ⟨_, rfl, by decide, by decide⟩) fun _ => evx_from2 (n := 1) rfl ev_int (by decide) (by decide) (by decide) (by decide)) ?_
    rintro d ⟨many, rfl, y1, y2⟩
    refine q_asgV (Pd := InB 1 160) (evx_if (tG _ rfl) (fun _ => evx_of ev_int ⟨_, rfl, by decide, by decide⟩) fun _ => evx_of ev_int ⟨_, rfl, by decide, by decide⟩) ?_
    rintro d ⟨most, rfl, x1, x2⟩
    refine q_parV (Pa := InB 1 160) (Pb := InB 1 160) (evx_from2 (n := 1) rfl (ev_var (d := .int most) rfl) (by omega) (by omega) (by omega) (by omega)) (evx_from2 (n := 1) rfl (ev_var (d := .int most) rfl) (by omega) (by omega) (by omega) (by omega)) ?_
    rintro a b ⟨w0, rfl, u1, u2⟩ ⟨h0, rfl, u3, u4⟩
    refine q_cut (fun ρ => ∃ w h : Int, ρ = [.fr (.dict [(.none, .list (ns.map PyData.int))]), .fr stD, .fr (.bool great), .fr (.int many), .fr (.int most), .fr (.int w), .fr (.int h), .no, .no, .no, .no, .no, .no, .no, .no, .no, .no, .no, .no] ∧ (1 ≤ w ∧ w ≤ 160) ∧ (1 ≤ h ∧ h ≤ 160)) (st_ifV (Pb := fun _ => True) (etx_and (Pe := fun _ => True) (tG _ rfl) (fun _ => two _ rfl) (fun _ => trivial) fun _ _ _ => trivial) (fun _ => ?_) fun _ => st_next ⟨w0, h0, rfl, ⟨u1, u2⟩, u3, u4⟩) ?_
    · refine st_asgG (d := .tuple [.int 160, .int 160]) (ev_tup (ea_cons ev_int (ea_cons ev_int ea_nil)) s2) (gt_tup rfl (gts_cons gt_name (gts_cons gt_name gts_nil))) ?_
      exact ⟨160, 160, rfl, by decide, by decide⟩
    rintro ρ ⟨wI, hI, rfl, hw, hh⟩
    refine q_asgV (evx_plan (n := 1) (st := true) rfl (evx_of (ev_var (d := .int many) rfl) ⟨_, rfl, y1, y2⟩) (evx_of (ev_var (d := .int wI) rfl) ⟨_, rfl, hw.1, hw.2⟩) (evx_of (ev_var (d := .int hI) rfl) ⟨_, rfl, hh.1, hh.2⟩)) ?_
    rintro d ⟨w, h, rs, bs, rfl, g, dia⟩
    have dia := dia rfl
    have m40 := g.vp.many
    have m1 := g.one
    have rl := g.vp.len
    have pb := g.full.pb
    have nm8 : ∀ z ∈ rs, z.length ≤ 8 := fun z hz => (g.vp.names z hz).2
    have hw2 := g.wide
    have hh2 := g.high
    have e0 : ∀ ρ : List Sl, ρ[7]? = some (.fr (plD rs w h bs)) → EV K (tOp (rIx K) (tVar 7) (tC (.int 0))) ρ (.tuple (rs.map PyData.str)) := fun ρ e => ev_op (d1 := plD rs w h bs) (ev_var e) ev_int (od_ixT (atI_nat (j := 0) rfl))
    refine q_asg (d := .int (rs.length : Nat)) (ev_is (ev_cb (ea_cons (e0 _ rfl) ea_nil) cd_lenT) (by rw [List.length_map])) ?_
    have S1 := sgT_P m40
    refine q_asg (d := .str (sgT rs.length)) (ev_call (ea_cons (ev_var (d := .int (rs.length : Nat)) rfl) ea_nil) ⟨rs.length, rfl, by omega, rfl⟩) ?_
    refine q_asg (d := .list ((picT rs h bs (sgT rs.length)).map PyData.str)) (ev_call (ea_cons (ev_var (d := plD rs w h bs) rfl) (ea_cons (ev_var rfl) ea_nil)) ⟨rs, w, h, bs, sgT rs.length, rfl, pb, rl, by rw [S1.size]; omega, nm8, by omega, rfl⟩) ?_
    have R1 := pic_rows (sg := sgT rs.length) g.full g.vp hw2.2 hh2.2 (by rw [← rl]; exact S1)
    have RW := R1.wide (by decide) (by decide)
    have rd := readT_pic g dia
    have pic : ∀ ρ : List Sl, ρ[7]? = some (.fr (plD rs w h bs)) → EV K (tCallS (PX K (fun ds d => ∃ (rs : List Str) (w h : Nat) (bs : List Bx), ds = [plD rs w h bs] ∧ PB bs ∧ rs.length = bs.length ∧ (∀ z ∈ rs, z.length ≤ 8) ∧ w ≤ 160 ∧ h ≤ 160 ∧ d = .str (Txt.join "\n" (picT rs h bs (sgT rs.length))))
        (fun ds C fl => ∃ (rs : List Str) (w h : Int) (bs : List Bx), ds = [plD rs w h bs] ∧ (160 < w ∨ 160 < h) ∧ C = He.ga K "BadStep" ∧ fl = [(("word" : Str), PyData.str "wide")])) (WE fun _ _ _ _ => False) (tCons (tVar 7) tNil)) ρ (.str (Txt.join "\n" (picT rs h bs (sgT rs.length)))) := fun ρ e => ev_callX0 (ea_cons (ev_var e) ea_nil) ⟨rs, w, h, bs, rfl, pb, rl, nm8, hw2.2, hh2.2, rfl⟩
    have n1 : ∀ z : Str, nodes (.str z) ≤ 100000 := fun z => by rw [nodes_str]; decide
    refine q_no (et_is (et_or (et_not (b := true) (et_trB (ev_call (ea_cons (ev_call (ea_cons (e0 _ rfl) ea_nil) ⟨rs, rfl, by omega, rfl⟩) (ea_cons (ev_var rfl) ea_nil)) ⟨.str (sgT rs.length), rfl, plain_str _, n1 _, rfl⟩))) fun _ => et_not (b := true) (et_trB (ev_call (ea_cons (pic _ rfl) (ea_cons (ev_rows (ev_var rfl) RW) ea_nil)) ⟨.str _, rfl, plain_str _, n1 _, rfl⟩))) rfl) ?_
    have l1 : 1 ≤ (picT rs h bs (sgT rs.length)).length := by
      unfold picT
      rw [List.length_append, List.length_append]
      show 1 ≤ _ + 1 + _
      omega
    refine q_asgV (Pd := fun d => ∃ v : Int, d = .int v ∧ 161 ≤ v) (evx_op (Pa := fun d => d = .int 161) (Pc := fun d => ∃ v : Int, d = .int v ∧ 0 ≤ v) (evx_of ev_int rfl) (evx_op (Pa := fun d => d = .list [.int 0, .int 0, .int 39, .int 9839]) (Pc := IntB 4) (evx_of (ev_N (en_lst (ea_cons ev_int (ea_cons ev_int (ea_cons ev_int (ea_cons ev_int ea_nil)))) (by show 4 ≤ sizeLine; exact s4))) rfl) (ev_takeB (n := 1) rfl ev_int (by decide) (by decide)) ?_) ?_) ?_
    · rintro a b rfl ⟨v, rfl, v0, v1⟩
      obtain ⟨k, rfl⟩ := Int.eq_ofNat_of_zero_le v0
      have hk : k < 4 := by omega
      match k, hk with
      | 0, _ => exact ⟨_, od_ixL (atI_nat (j := 0) rfl), 0, rfl, by decide⟩
      | 1, _ => exact ⟨_, od_ixL (atI_nat (j := 1) rfl), 0, rfl, by decide⟩
      | 2, _ => exact ⟨_, od_ixL (atI_nat (j := 2) rfl), 39, rfl, by decide⟩
      | 3, _ => exact ⟨_, od_ixL (atI_nat (j := 3) rfl), 9839, rfl, by decide⟩
    · rintro a b rfl ⟨v, rfl, hv⟩
      exact ⟨_, od_addI, _, rfl, by omega⟩
    rintro d ⟨bey, rfl, hbey⟩
    refine q_for (ei_map (z := (0, 0)) (h := prD) (zs := [(bey, 2), (1, bey), (161, 160), (160, 161)]) (ev_N (en_lst (ea_cons (ev_tup (ea_cons (ev_var rfl) (ea_cons ev_int ea_nil)) s2) (ea_cons (ev_tup (ea_cons ev_int (ea_cons (ev_var rfl) ea_nil)) s2) (ea_cons (ev_tup (ea_cons ev_int (ea_cons ev_int ea_nil)) s2) (ea_cons (ev_tup (ea_cons ev_int (ea_cons ev_int ea_nil)) s2) ea_nil)))) (by show 4 ≤ sizeLine; exact s4)))) (fun _ ρ => ∃ s11 : Sl, ρ = [.fr (.dict [(.none, .list (ns.map PyData.int))]), .fr stD, .fr (.bool great), .fr (.int (rs.length : Nat)), .fr (.int most), .fr (.int wI), .fr (.int hI), .fr (plD rs w h bs), .fr (.str (sgT rs.length)), .fr (.list ((picT rs h bs (sgT rs.length)).map PyData.str)), .fr (.int bey), s11, .no, .no, .no, .no, .no, .no, .no]) ⟨_, rfl⟩ ?_ ?_
    · rintro i ρ hi ⟨s11, rfl⟩
      refine ⟨_, _, gt_name, ?_⟩
      have hm := DL.getD_mem (z := ((0 : Int), (0 : Int))) hi
      generalize List.getD [(bey, (2 : Int)), (1, bey), (161, 160), (160, 161)] i (0, 0) = p at *
      have hp : 160 < p.1 ∨ 160 < p.2 := by
        simp only [List.mem_cons, List.not_mem_nil, or_false] at hm
        rcases hm with rfl | rfl | rfl | rfl
        · exact .inl (by show 160 < bey; omega)
        · exact .inr (by show 160 < bey; omega)
        · exact .inl (by decide)
        · exact .inr (by decide)
      have p0 : ∀ ρ : List Sl, ρ[11]? = some (.fr (prD p)) → EV K (tOp (rIx K) (tVar 11) (tC (.int 0))) ρ (.int p.1) := fun ρ e => ev_op (d1 := prD p) (ev_var e) ev_int (od_ixT (atI_nat (j := 0) rfl))
      have p1 : ∀ ρ : List Sl, ρ[11]? = some (.fr (prD p)) → EV K (tOp (rIx K) (tVar 11) (tC (.int 1))) ρ (.int p.2) := fun ρ e => ev_op (d1 := prD p) (ev_var e) ev_int (od_ixT (atI_nat (j := 1) rfl))
      exact st_if (b := false) (et_not (b := true) (et_trB (ev_call (ea_cons (ev_tup (ea_cons (ev_tup (ea_cons ev_str (ea_cons ev_str ea_nil)) s2) (ea_cons (p0 _ rfl) (ea_cons (p1 _ rfl) (ea_cons (ev_tup (ea_cons (ev_tup (ea_cons ev_int (ea_cons ev_int (ea_cons (p0 _ rfl) (ea_cons ev_int ea_nil)))) s4) (ea_cons (ev_tup (ea_cons ev_int (ea_cons ev_int (ea_cons (p0 _ rfl) (ea_cons (p1 _ rfl) ea_nil)))) s4) ea_nil)) s2) ea_nil)))) s4) ea_nil) ⟨["a", "b"], p.1, p.2, [⟨0, 0, p.1, 1⟩, ⟨0, 1, p.1, p.2⟩], rfl, hp, rfl⟩))) (fun z => nomatch z) fun _ => st_next ⟨_, rfl⟩
    rintro ρ ⟨s11, rfl⟩
    refine q_asgV (Pd := IntB 40) (ev_takeB (n := 1) rfl ev_int (by decide) (by decide)) ?_
    rintro d ⟨t, rfl, t0, t1⟩
    obtain ⟨t, rfl⟩ := Int.eq_ofNat_of_zero_le t0
    have eF : ∀ ρ : List Sl, EV K (tCall (PF K fun ds d => ∃ n : Nat, ds = [.int (n : Nat)] ∧ n ≤ 1000 ∧ d = .str (sgT n)) [] E0 (tCons (tC (.int 40)) tNil)) ρ (.str (sgT 40)) := fun ρ => ev_call (ea_cons ev_int ea_nil) ⟨40, rfl, by decide, rfl⟩
    have l4 : (sgT 40).length = 40 := (sgT_P (n := 40) (by decide)).size
    have SO := turn_P (t := t) (m := rs.length) (by omega) m40
    refine q_asg (d := .str (cutS (sgT 40 ++ sgT 40) (some (t : Int)) (some ((t : Int) + (rs.length : Int))))) (ev_slS (ev_op (eF _) (eF _) (od_addS (by rw [l4, sizeLine_eq]; decide))) (by rw [DL.len_app, l4, sizeLine_eq]; decide) (eo_some (ev_var rfl)) (eo_some (ev_op (ev_var rfl) (ev_var rfl) od_addI))) ?_
    generalize cutS (sgT 40 ++ sgT 40) (some (t : Int)) (some ((t : Int) + (rs.length : Int))) = ot at *
    have otl : ot.length ≤ sizeLine := by
      have := SO.size
      rw [sizeLine_eq]
      show ot.cps.size ≤ _
      omega
    refine q_asgV (Pd := fun d => ∃ z, d = .str z ∧ SgP z rs.length) (evx_if (two _ rfl) (fun _ => evx_of (ev_revS (ev_var (d := .str ot) rfl) otl) ⟨_, rfl, rev_P SO⟩) fun _ => evx_of (ev_var rfl) ⟨_, rfl, SO⟩) ?_
    rintro d ⟨sg2, rfl, S2⟩
    have R2 := pic_rows (sg := sg2) g.full g.vp hw2.2 hh2.2 (by rw [← rl]; exact S2)
    have l2 : 1 ≤ (picT rs h bs sg2).length := by
      unfold picT
      rw [List.length_append, List.length_append]
      show 1 ≤ _ + 1 + _
      omega
    refine q_asgN (d := .list (([picT rs h bs (sgT rs.length), picT rs h bs sg2] : List (List Str)).map lsD)) (en_lst (ds := ([picT rs h bs (sgT rs.length), picT rs h bs sg2] : List (List Str)).map lsD) (ea_cons (ev_var rfl) (ea_cons (ev_call (ea_cons (ev_var (d := plD rs w h bs) rfl) (ea_cons (ev_var (d := .str sg2) rfl) ea_nil)) ⟨rs, w, h, bs, sg2, rfl, pb, rl, by rw [S2.size]; omega, nm8, by omega, rfl⟩) ea_nil)) (by show 2 ≤ sizeLine; exact s2)) ?_
    refine q_no (et_is (et_not (b := true) (et_trB (ev_call (ea_cons (ev_call (d := plD rs w h bs) (ea_cons (ev_rows (ev_var rfl) RW) ea_nil) ⟨Txt.join "\n" (picT rs h bs (sgT rs.length)), rfl, tp_rows RW, by rw [rd]; rfl⟩) (ea_cons (ev_var rfl) ea_nil)) ⟨plD rs w h bs, rfl, plain_pl _ _ _ _, by rw [nodes_pl]; omega, rfl⟩))) rfl) ?_
    have S1l : LineP 40 (sgT rs.length) := S1.line.mono m40
    have S11 : 1 ≤ (sgT rs.length).length := by
      have := S1.size
      show 1 ≤ (sgT rs.length).cps.size
      omega
    have pic1 := R1.wide (by decide) (by decide)
    have pic2 := R2.wide (by decide) (by decide)
    generalize hL1 : picT rs h bs (sgT rs.length) = L1 at *
    generalize hL2 : picT rs h bs sg2 = L2 at *
    have eR : ∀ ρ : List Sl, ρ[2]? = some (.fr (.bool great)) → EV K (tIf (tTr K (tVar 2)) (tC (.int 4)) (tC (.int 14))) ρ (.int (if great = true then 4 else 14)) := fun ρ e => ev_if (b := great) (et_trB (ev_var e)) (fun h => ev_is ev_int (by rw [h]; rfl)) (fun h => ev_is ev_int (by rw [h]; rfl))
    have hR : (0 : Int) ≤ (if great = true then 4 else 14) ∧ (if great = true then (4 : Int) else 14) ≤ 14 := by cases great <;> decide
    generalize (if great = true then (4 : Int) else 14) = cnt at *
    refine q_for (ei_rng1 (n := cnt) (ea_cons (eR _ rfl) ea_nil) (by omega) (by omega)) (fun i ρ => ∃ (r : List (List Str)) (s15 s16 : Sl), ρ = [.fr (.dict [(.none, .list (ns.map PyData.int))]), .fr stD, .fr (.bool great), .fr (.int (rs.length : Nat)), .fr (.int most), .fr (.int wI), .fr (.int hI), .fr (plD rs w h bs), .fr (.str (sgT rs.length)), .fr (.list (L1.map PyData.str)), .fr (.int bey), s11, .fr (.int (t : Nat)), .fr (.str sg2), .ow (.list ((L1 :: L2 :: r).map lsD)), s15, s16, .no, .no] ∧ r.length ≤ 2 * i ∧ ∀ ls ∈ r, Rows 1000 1000 ls) ⟨[], _, _, rfl, Nat.zero_le _, fun l h => by cases h⟩ ?_ ?_
    · rintro i ρ hi ⟨r, s15, s16, rfl, hr, hrr⟩
      refine ⟨_, _, gt_name, ?_⟩
      have hr30 : r.length ≤ 30 := by omega
      refine q_asgV (Pd := LstX (2 * 160 + 4) (201 + 1)) (evx_bend (n := 160) (m := 201) (sg := sgT rs.length) rfl rfl S11 S1l (by decide) (by decide) (by decide) (evx_ixOV (n := 14) (ds := (L1 :: L2 :: r).map lsD) rfl (evx_mono (ev_takeB (n := 1) rfl ev_int (by decide) (by decide)) ?_))) ?_
      · rintro d ⟨v, rfl, v0, v1⟩
        obtain ⟨k, rfl⟩ := Int.eq_ofNat_of_zero_le v0
        have hk : k < 2 := by omega
        match k, hk with
        | 0, _ => exact ⟨0, rfl, by rw [List.length_map, List.length_cons]; omega, L1, rfl, R1, l1⟩
        | 1, _ => exact ⟨1, rfl, by rw [List.length_map, List.length_cons, List.length_cons]; omega, L2, rfl, R2, l2⟩
      rintro d ⟨B, rfl, RB⟩
      have em : (L1 :: L2 :: r).map lsD ++ [lsD B] = (L1 :: L2 :: (r ++ [B])).map lsD := by simp
      refine q_append (n := 14) (ds := (L1 :: L2 :: r).map lsD) (d := lsD B) rfl (ev_var rfl) (by rw [List.length_map, List.length_cons, List.length_cons]; omega) ?_
      rw [em]
      refine st_ifV (Pb := fun b => b = true → 1 ≤ B.length) (etx_and (Pb := fun b => b = true → 1 ≤ B.length) (Pe := fun _ => True) (etx_of (et_test (ev_op (d1 := .int (B.length : Nat)) (ev_is (ev_cb (ea_cons (ev_var (d := .list (B.map PyData.str)) rfl) ea_nil) cd_lenL) (by rw [List.length_map])) ev_int od_cmpI)) ?_) (fun _ => two _ rfl) ?_ ?_) (fun hb => ?_) fun _ => st_next ?_
      · intro h
        have := of_decide_eq_true h
        omega
      · intro _ h
        cases h
      · intro b h1 _ _
        exact h1 rfl
      · refine st_appendV (n := 14) (ds := (L1 :: L2 :: (r ++ [B])).map lsD) (Pd := LstX (2 * 324 + 4) (202 + 1)) rfl (evx_bend (n := 324) (m := 202) (sg := sgT rs.length) rfl rfl S11 S1l (by decide) (by decide) (by decide) (evx_of (ev_var rfl) ⟨B, rfl, RB, hb rfl⟩)) (by rw [List.length_map, List.length_cons, List.length_cons, List.length_append]; show r.length + 1 + 1 + 1 < _; omega) ?_
        rintro d ⟨C, rfl, RC⟩
        have ec : (L1 :: L2 :: (r ++ [B])).map lsD ++ [lsD C] = (L1 :: L2 :: (r ++ [B] ++ [C])).map lsD := by simp
        refine ⟨r ++ [B] ++ [C], .fr (.int (i : Nat)), .fr (lsD B), ?_, ?_, ?_⟩
        · rw [← ec]
          rfl
        · rw [List.length_append, List.length_append]
          show r.length + 1 + 1 ≤ _
          omega
        · intro ls hl
          rcases List.mem_append.mp hl with hl | hl
          · rcases List.mem_append.mp hl with hl | hl
            · exact hrr ls hl
            · rw [List.mem_singleton.mp hl]
              exact RB.wide (by decide) (by decide)
          · rw [List.mem_singleton.mp hl]
            exact RC.wide (by decide) (by decide)
      · refine ⟨r ++ [B], .fr (.int (i : Nat)), .fr (lsD B), rfl, ?_, ?_⟩
        · rw [List.length_append]
          show r.length + 1 ≤ _
          omega
        · intro ls hl
          rcases List.mem_append.mp hl with hl | hl
          · exact hrr ls hl
          · rw [List.mem_singleton.mp hl]
            exact RB.wide (by decide) (by decide)
    rintro ρ ⟨r, s15, s16, rfl, hr, hrr⟩
    have hr30 : r.length ≤ 30 := by omega
    refine q_asgV (evx_plan (n := 1) (st := false) rfl (evx_from2 (n := 1) rfl ev_int (by decide) (by decide) (by decide) (by decide)) (evx_from2 (n := 1) rfl ev_int (by decide) (by decide) (by decide) (by decide)) (evx_from2 (n := 1) rfl ev_int (by decide) (by decide) (by decide) (by decide))) ?_
    rintro d ⟨w2, h2, rs2, bs2, rfl, g2, _⟩
    have m402 := g2.vp.many
    have rl2 := g2.vp.len
    have hh3 := g2.high
    have S3 := sgT_P m402
    have R3 := (pic_rows (sg := sgT rs2.length) g2.full g2.vp g2.wide.2 g2.high.2 (by rw [← rl2]; exact S3)).wide (by decide) (by decide)
    have eL : ∀ ρ : List Sl, ρ[17]? = some (.fr (plD rs2 w2 h2 bs2)) → EV K (tCB (rLen K) (tCons (tOp (rIx K) (tVar 17) (tC (.int 0))) tNil)) ρ (.int (rs2.length : Nat)) := fun ρ e => ev_is (ev_cb (ea_cons (ev_op (d1 := plD rs2 w2 h2 bs2) (d := .tuple (rs2.map PyData.str)) (ev_var e) ev_int (od_ixT (atI_nat (j := 0) rfl))) ea_nil) cd_lenT) (by rw [List.length_map])
    refine q_append (n := 14) (ds := (L1 :: L2 :: r).map lsD) (d := lsD (picT rs2 h2 bs2 (sgT rs2.length))) rfl (ev_call (ea_cons (ev_var (d := plD rs2 w2 h2 bs2) rfl) (ea_cons (ev_call (d := .str (sgT rs2.length)) (ea_cons (eL _ rfl) ea_nil) ⟨rs2.length, rfl, by omega, rfl⟩) ea_nil)) ⟨rs2, w2, h2, bs2, sgT rs2.length, rfl, g2.full.pb, rl2, by rw [S3.size]; omega, fun z hz => (g2.vp.names z hz).2, by omega, rfl⟩) (by rw [List.length_map, List.length_cons, List.length_cons]; omega) ?_
    generalize picT rs2 h2 bs2 (sgT rs2.length) = L3 at *
    have em : (L1 :: L2 :: r).map lsD ++ [lsD L3] = (L1 :: L2 :: (r ++ [L3])).map lsD := by simp
    rw [em]
    have hms : ∀ ls ∈ (L1 :: L2 :: (r ++ [L3])), Rows 1000 1000 ls := by
      intro ls hl
      rcases List.mem_cons.mp hl with rfl | hl
      · exact pic1
      rcases List.mem_cons.mp hl with rfl | hl
      · exact pic2
      rcases List.mem_append.mp hl with hl | hl
      · exact hrr ls hl
      · rw [List.mem_singleton.mp hl]
        exact R3
    have hml : (L1 :: L2 :: (r ++ [L3])).length ≤ 40 := by
      rw [List.length_cons, List.length_cons, List.length_append]
      show r.length + 1 + 1 + 1 ≤ _
      omega
    generalize L1 :: L2 :: (r ++ [L3]) = ms at *
    refine q_frz (i := 14) rfl ?_
    show ST K E0 _ [.fr (.dict [(.none, .list (ns.map PyData.int))]), .fr stD, .fr (.bool great), .fr (.int (rs.length : Nat)), .fr (.int most), .fr (.int wI), .fr (.int hI), .fr (plD rs w h bs), .fr (.str (sgT rs.length)), .fr (.list (L1.map PyData.str)), .fr (.int bey), s11, .fr (.int (t : Nat)), .fr (.str sg2), .fr (.list (ms.map lsD)), s15, s16, .fr (plD rs2 w2 h2 bs2), .no] _
    refine st_seq (st_forV (eix_list (Pl := Texts) (evx_N (evnx_op (Pa := fun d => d = .list (ms.map lsD)) (evx_of (ev_var rfl) rfl) (evx_fixed (evx_if (tG _ rfl) (fun _ => evx_op (Pa := fun d => d = .list [.int 160, .int 2]) (Pc := IntB 2) (evx_of (ev_N (en_lst (ea_cons ev_int (ea_cons ev_int ea_nil)) (by show 2 ≤ sizeLine; exact s2))) rfl) (ev_takeB (n := 1) rfl ev_int (by decide) (by decide)) ?_) fun _ => evx_of ev_int ⟨2, rfl, .inr rfl⟩)) ?_))) ?_)
    · rintro a b rfl ⟨v, rfl, v0, v1⟩
      obtain ⟨k, rfl⟩ := Int.eq_ofNat_of_zero_le v0
      have hk : k < 2 := by omega
      match k, hk with
      | 0, _ => exact ⟨_, od_ixL (atI_nat (j := 0) rfl), 160, rfl, .inl rfl⟩
      | 1, _ => exact ⟨_, od_ixL (atI_nat (j := 1) rfl), 2, rfl, .inr rfl⟩
    · rintro a b rfl ⟨lss, rfl, hl, hR⟩
      refine ⟨_, on_addL (by rw [sizeLine_eq, List.length_map, List.length_map]; omega), ms.map lsD ++ lss.map lsD, rfl, ms ++ lss, by rw [List.map_append], by rw [List.length_append]; omega, fun ls h => ?_⟩
      exact (List.mem_append.mp h).elim (hms ls) (hR ls)
    rintro n it ⟨ds, rfl, rfl, lss, rfl, hl, hR⟩
    refine ⟨fun _ ρ => ∃ s18 : Sl, ρ = [.fr (.dict [(.none, .list (ns.map PyData.int))]), .fr stD, .fr (.bool great), .fr (.int (rs.length : Nat)), .fr (.int most), .fr (.int wI), .fr (.int hI), .fr (plD rs w h bs), .fr (.str (sgT rs.length)), .fr (.list (L1.map PyData.str)), .fr (.int bey), s11, .fr (.int (t : Nat)), .fr (.str sg2), .fr (.list (ms.map lsD)), s15, s16, .fr (plD rs2 w2 h2 bs2), s18], ⟨_, rfl⟩, ?_, ?_⟩
    · rintro i ρ hi ⟨s18, rfl⟩
      rw [List.length_map] at hi
      have hg : (lss.map lsD).getD i .none = lsD (lss.getD i []) := getD_map hi [] _
      dsimp only
      rw [hg]
      have Ri := hR _ (DL.getD_mem (z := ([] : List Str)) hi)
      generalize lss.getD i [] = li at *
      refine ⟨_, _, gt_name, ?_⟩
      exact st_if (b := false) (et_not (b := true) (et_trB (ev_call (ea_cons (ev_rows (ls := li) (ev_var rfl) Ri) ea_nil) ⟨_, rfl, tp_rows Ri, rfl⟩))) (fun z => nomatch z) fun _ => st_next ⟨_, rfl⟩
    rintro ρ ⟨s18, rfl⟩
    refine st_ret (d := .bool true) (ev_is (d := .bool (true && (true && true))) ?_ rfl) rfl
    refine ev_andV (ev_call (ea_cons ev_str ea_nil) ⟨"", rfl, tp_e, rfl⟩) fun _ => ev_andV (ev_call (ea_cons ev_str ea_nil) ⟨"\n", rfl, tp_n, rfl⟩) fun _ => ?_
    exact ev_call (ea_cons (pic _ rfl) (ea_cons (ev_rows (ev_var rfl) pic1) ea_nil)) ⟨.str _, rfl, plain_str _, n1 _, rfl⟩
end
set_option maxHeartbeats 0
theorem txt {K : PySem.W.Frag} {h : Heap} {mg : Str → Option Value} (X : K.In h) (G : h.Ns mainGlobals mg) (c : SaysB fa fn ex K) : Txt K mg where
  f_ValueError := He.free_ok X G (c.d.fact 43 (f := .free "ValueError") rfl)
  f_abs := He.free_ok X G (c.d.fact 44 (f := .free "abs") rfl)
  f_bool := He.free_ok X G (c.d.fact 45 (f := .free "bool") rfl)
  f_enumerate := He.free_ok X G (c.d.fact 46 (f := .free "enumerate") rfl)
  f_int := He.free_ok X G (c.d.fact 47 (f := .free "int") rfl)
  f_isinstance := He.free_ok X G (c.d.fact 48 (f := .free "isinstance") rfl)
  f_len := He.free_ok X G (c.d.fact 49 (f := .free "len") rfl)
  f_list := He.free_ok X G (c.d.fact 50 (f := .free "list") rfl)
  f_max := He.free_ok X G (c.d.fact 51 (f := .free "max") rfl)
  f_min := He.free_ok X G (c.d.fact 52 (f := .free "min") rfl)
  f_range := He.free_ok X G (c.d.fact 53 (f := .free "range") rfl)
  f_sorted := He.free_ok X G (c.d.fact 54 (f := .free "sorted") rfl)
  f_str := He.free_ok X G (c.d.fact 55 (f := .free "str") rfl)
  f_tuple := He.free_ok X G (c.d.fact 56 (f := .free "tuple") rfl)
  f_zip := He.free_ok X G (c.d.fact 57 (f := .free "zip") rfl)
  g_PlanError := He.glo_ok X G (c.d.fact 36 (f := .glo "PlanError") rfl)
  g_DataError := He.glo_ok X G (c.d.fact 37 (f := .glo "DataError") rfl)
  g_CallError := He.glo_ok X G (c.d.fact 38 (f := .glo "CallError") rfl)
  g_TextError := He.glo_ok X G (c.d.fact 39 (f := .glo "TextError") rfl)
  g_DeskError := He.glo_ok X G (c.d.fact 40 (f := .glo "DeskError") rfl)
  g_BadStep := He.glo_ok X G (c.d.fact 41 (f := .glo "BadStep") rfl)
  g_BadText := He.glo_ok X G (c.d.fact 42 (f := .glo "BadText") rfl)
  c_NAME_MOST := He.int_ok X G (c.d.fact 58 (f := .int "NAME_MOST" (8)) rfl)
  c_PICTURE_MOST := He.int_ok X G (c.d.fact 59 (f := .int "PICTURE_MOST" (160)) rfl)
  c_LETTERS := He.str_ok X G (c.d.fact 60 (f := .str "LETTERS" "abcdefghijklmnopqrstuvwxyz") rfl)
  c_FIGURES := He.str_ok X G (c.d.fact 61 (f := .str "FIGURES" "0123456789") rfl)
  c_SIGNS := He.str_ok X G (c.d.fact 62 (f := .str "SIGNS" "abcdefghijklmnopqrstuvwxyzABCDEFGHIJKLMN") rfl)
  c_BAR := He.str_ok X G (c.d.fact 63 (f := .str "BAR" "--") rfl)
  n_BadStep_word := He.noat_ok (c.d.fact 64 (f := .noat "BadStep" "word") rfl)
  n_BadText_line := He.noat_ok (c.d.fact 65 (f := .noat "BadText" "line") rfl)
  n_BadText_word := He.noat_ok (c.d.fact 66 (f := .noat "BadText" "word") rfl)
  x_PlanError := exB_ok (allB c.more 0 rfl)
  x_DataError := exB_ok (allB c.more 1 rfl)
  x_CallError := exB_ok (allB c.more 2 rfl)
  x_TextError := exB_ok (allB c.more 3 rfl)
  x_DeskError := exB_ok (allB c.more 4 rfl)
  x_BadStep := exB_ok (allB c.more 5 rfl)
  x_BadText := exB_ok (allB c.more 6 rfl)
  i_BadStep := exI_ok (allB c.more 7 rfl)
  i_BadText := exI_ok (allB c.more 8 rfl)
  k_BadText_TextError := kitR_ok (allB c.more 9 rfl)
  k_BadText_PlanError := kitR_ok (allB c.more 10 rfl)
  k_BadText_ValueError := kitT_ok (allB c.more 11 rfl)
  k_BadText_DataError := kitR_ok (allB c.more 12 rfl)
  k_BadText_CallError := kitR_ok (allB c.more 13 rfl)
  k_BadText_DeskError := kitR_ok (allB c.more 14 rfl)
  e_BadText_BadText := He.exm_ok (c.d.fact 67 (f := .exm "BadText" "BadText" true) rfl)
  e_BadStep_BadStep := He.exm_ok (c.d.fact 68 (f := .exm "BadStep" "BadStep" true) rfl)
theorem oi_BadStep {P : Program} {w : World} {K : PySem.W.Frag} {mg : Str → Option Value} {base : Heap} (T : Txt K mg) (F : ∃ fd, FunD K "__init__" "BadStep.__init__" (defArgs s_i_BadStep) (defBody s_i_BadStep) (defScope s_i_BadStep) [] [] (He.ma K (He.ga K "BadStep") "__init__") fd) : ExOk P w K mg base 1 "BadStep" ["word"] := by
  obtain ⟨fd, F⟩ := F
  exact ⟨T.g_BadStep, T.x_BadStep, T.i_BadStep, fd, fn_init1 F sc_i_BadStep rfl T.x_BadStep.oex T.n_BadStep_word (fun _ _ _ _ _ _ => pss_one (ps_ost (pv 0) (pv 1))), F.bindsN (fun _ _ _ _ _ _ us hl => match us, hl with | [_, _], _ => rfl)⟩
theorem oi_BadText {P : Program} {w : World} {K : PySem.W.Frag} {mg : Str → Option Value} {base : Heap} (T : Txt K mg) (F : ∃ fd, FunD K "__init__" "BadText.__init__" (defArgs s_i_BadText) (defBody s_i_BadText) (defScope s_i_BadText) [] [] (He.ma K (He.ga K "BadText") "__init__") fd) : ExOk P w K mg base 1 "BadText" ["line", "word"] := by
  obtain ⟨fd, F⟩ := F
  exact ⟨T.g_BadText, T.x_BadText, T.i_BadText, fd, fn_init2 F sc_i_BadText rfl T.x_BadText.oex T.n_BadText_line T.n_BadText_word (fun _ _ _ _ _ _ => pss_cons (ps_ost (pv 0) (pv 1)) (pss_one (ps_ost (pv 0) (pv 2)))), F.bindsN (fun _ _ _ _ _ _ us hl => match us, hl with | [_, _, _], _ => rfl)⟩
theorem facts {P : Program} {w : World} {K : PySem.W.Frag} {h : Heap} {mg : Str → Option Value} (X : K.In h) (G : h.Ns mainGlobals mg) (c : SaysB fa fn ex K) {fd : FuncData} (F : FunD K "law" "law" (defArgs s_law) (defBody s_law) (defScope s_law) [] [] (He.ga K "law") fd) (base : Heap) : FnOk P w K mg base CX0 7 (He.ga K "law") fd ["script"] (sp_law K) := by
  have T := txt X G c
  have X_BadStep : ExOk P w K mg base 1 "BadStep" ["word"] := oi_BadStep T (c.d.def_ 36 (d := d_i_BadStep) rfl)
  have X_BadText : ExOk P w K mg base 1 "BadText" ["line", "word"] := oi_BadText T (c.d.def_ 37 (d := d_i_BadText) rfl)
  have O_name_fault := ok_name_fault (P := P) (w := w) (base := base) T (c.d.def_ 0 (d := d_name_fault) rfl) (He.glo_ok X G (c.d.fact 0 (f := .glo "name_fault") rfl)) 
  have O_is_name := ok_is_name (P := P) (w := w) (base := base) T (c.d.def_ 1 (d := d_is_name) rfl) (He.glo_ok X G (c.d.fact 1 (f := .glo "is_name") rfl)) ‹_›
  have O_room_signs := ok_room_signs (P := P) (w := w) (base := base) T (c.d.def_ 2 (d := d_room_signs) rfl) (He.glo_ok X G (c.d.fact 2 (f := .glo "room_signs") rfl)) 
  have O_picture_line := ok_picture_line (P := P) (w := w) (base := base) T (c.d.def_ 3 (d := d_picture_line) rfl) (He.glo_ok X G (c.d.fact 3 (f := .glo "picture_line") rfl)) 
  have O_picture_of := ok_picture_of (P := P) (w := w) (base := base) T (c.d.def_ 4 (d := d_picture_of) rfl) (He.glo_ok X G (c.d.fact 4 (f := .glo "picture_of") rfl)) ‹_› ‹_› ‹_›
  have O_text_lines := ok_text_lines (P := P) (w := w) (base := base) T (c.d.def_ 5 (d := d_text_lines) rfl) (He.glo_ok X G (c.d.fact 5 (f := .glo "text_lines") rfl)) 
  have O_words_of := ok_words_of (P := P) (w := w) (base := base) T (c.d.def_ 6 (d := d_words_of) rfl) (He.glo_ok X G (c.d.fact 6 (f := .glo "words_of") rfl)) 
  have O_sign_words_fault := ok_sign_words_fault (P := P) (w := w) (base := base) T (c.d.def_ 7 (d := d_sign_words_fault) rfl) (He.glo_ok X G (c.d.fact 7 (f := .glo "sign_words_fault") rfl)) ‹_›
  have O_sign_lines_fault := ok_sign_lines_fault (P := P) (w := w) (base := base) T (c.d.def_ 8 (d := d_sign_lines_fault) rfl) (He.glo_ok X G (c.d.fact 8 (f := .glo "sign_lines_fault") rfl)) ‹_› ‹_›
  have O_shown_fault := ok_shown_fault (P := P) (w := w) (base := base) T (c.d.def_ 9 (d := d_shown_fault) rfl) (He.glo_ok X G (c.d.fact 9 (f := .glo "shown_fault") rfl)) 
  have O_sign_rows := ok_sign_rows (P := P) (w := w) (base := base) T (c.d.def_ 10 (d := d_sign_rows) rfl) (He.glo_ok X G (c.d.fact 10 (f := .glo "sign_rows") rfl)) 
  have O_sign_fault := ok_sign_fault (P := P) (w := w) (base := base) T (c.d.def_ 11 (d := d_sign_fault) rfl) (He.glo_ok X G (c.d.fact 11 (f := .glo "sign_fault") rfl)) ‹_›
  have O_four_signs_meet := ok_four_signs_meet (P := P) (w := w) (base := base) T (c.d.def_ 12 (d := d_four_signs_meet) rfl) (He.glo_ok X G (c.d.fact 12 (f := .glo "four_signs_meet") rfl)) 
  have O_sign_box := ok_sign_box (P := P) (w := w) (base := base) T (c.d.def_ 13 (d := d_sign_box) rfl) (He.glo_ok X G (c.d.fact 13 (f := .glo "sign_box") rfl)) ‹_›
  have O_read_picture := ok_read_picture (P := P) (w := w) (base := base) T (c.d.def_ 14 (d := d_read_picture) rfl) (He.glo_ok X G (c.d.fact 14 (f := .glo "read_picture") rfl)) ‹_› ‹_› ‹_› ‹_› ‹_› ‹_› ‹_› ‹_›
  have O_u_law_state := ok_u_law_state (P := P) (w := w) (base := base) T (c.d.def_ 15 (d := d_u_law_state) rfl) (He.glo_ok X G (c.d.fact 15 (f := .glo "_law_state") rfl)) 
  have O_u_law_take := ok_u_law_take (P := P) (w := w) (base := base) T (c.d.def_ 16 (d := d_u_law_take) rfl) (He.glo_ok X G (c.d.fact 16 (f := .glo "_law_take") rfl)) 
  have O_u_law_names := ok_u_law_names (P := P) (w := w) (base := base) T (c.d.def_ 17 (d := d_u_law_names) rfl) (He.glo_ok X G (c.d.fact 17 (f := .glo "_law_names") rfl)) ‹_›
  have O_u_law_mill := ok_u_law_mill (P := P) (w := w) (base := base) T (c.d.def_ 18 (d := d_u_law_mill) rfl) (He.glo_ok X G (c.d.fact 18 (f := .glo "_law_mill") rfl)) ‹_›
  have O_u_law_cuts := ok_u_law_cuts (P := P) (w := w) (base := base) T (c.d.def_ 19 (d := d_u_law_cuts) rfl) (He.glo_ok X G (c.d.fact 19 (f := .glo "_law_cuts") rfl)) ‹_› ‹_›
  have O_u_law_plan := ok_u_law_plan (P := P) (w := w) (base := base) T (c.d.def_ 20 (d := d_u_law_plan) rfl) (He.glo_ok X G (c.d.fact 20 (f := .glo "_law_plan") rfl)) ‹_› ‹_› ‹_›
  have O_u_law_whole := ok_u_law_whole (P := P) (w := w) (base := base) T (c.d.def_ 21 (d := d_u_law_whole) rfl) (He.glo_ok X G (c.d.fact 21 (f := .glo "_law_whole") rfl)) 
  have O_u_law_same := ok_u_law_same (P := P) (w := w) (base := base) T (c.d.def_ 22 (d := d_u_law_same) rfl) (He.glo_ok X G (c.d.fact 22 (f := .glo "_law_same") rfl)) ‹_›
  have O_u_law_signs := ok_u_law_signs (P := P) (w := w) (base := base) T (c.d.def_ 23 (d := d_u_law_signs) rfl) (He.glo_ok X G (c.d.fact 23 (f := .glo "_law_signs") rfl)) 
  have O_u_law_picture := ok_u_law_picture (P := P) (w := w) (base := base) T (c.d.def_ 24 (d := d_u_law_picture) rfl) (He.glo_ok X G (c.d.fact 24 (f := .glo "_law_picture") rfl)) 
  have O_u_law_name := ok_u_law_name (P := P) (w := w) (base := base) T (c.d.def_ 25 (d := d_u_law_name) rfl) (He.glo_ok X G (c.d.fact 25 (f := .glo "_law_name") rfl)) 
  have O_u_law_told := ok_u_law_told (P := P) (w := w) (base := base) T (c.d.def_ 26 (d := d_u_law_told) rfl) (He.glo_ok X G (c.d.fact 26 (f := .glo "_law_told") rfl)) ‹_› ‹_›
  have O_u_law_grid := ok_u_law_grid (P := P) (w := w) (base := base) T (c.d.def_ 27 (d := d_u_law_grid) rfl) (He.glo_ok X G (c.d.fact 27 (f := .glo "_law_grid") rfl)) 
  have O_u_law_found := ok_u_law_found (P := P) (w := w) (base := base) T (c.d.def_ 28 (d := d_u_law_found) rfl) (He.glo_ok X G (c.d.fact 28 (f := .glo "_law_found") rfl)) 
  have O_u_law_due := ok_u_law_due (P := P) (w := w) (base := base) T (c.d.def_ 29 (d := d_u_law_due) rfl) (He.glo_ok X G (c.d.fact 29 (f := .glo "_law_due") rfl)) ‹_› ‹_› ‹_›
  have O_u_law_ask := ok_u_law_ask (P := P) (w := w) (base := base) T (c.d.def_ 30 (d := d_u_law_ask) rfl) (He.glo_ok X G (c.d.fact 30 (f := .glo "_law_ask") rfl)) ‹_› ‹_› ‹_› ‹_›
  have O_u_law_wide := ok_u_law_wide (P := P) (w := w) (base := base) T (c.d.def_ 31 (d := d_u_law_wide) rfl) (He.glo_ok X G (c.d.fact 31 (f := .glo "_law_wide") rfl)) ‹_› ‹_›
  have O_u_law_change := ok_u_law_change (P := P) (w := w) (base := base) T (c.d.def_ 32 (d := d_u_law_change) rfl) (He.glo_ok X G (c.d.fact 32 (f := .glo "_law_change") rfl)) ‹_›
  have O_u_law_bend := ok_u_law_bend (P := P) (w := w) (base := base) T (c.d.def_ 33 (d := d_u_law_bend) rfl) (He.glo_ok X G (c.d.fact 33 (f := .glo "_law_bend") rfl)) ‹_› ‹_›
  have O_u_law_fixed := ok_u_law_fixed (P := P) (w := w) (base := base) T (c.d.def_ 34 (d := d_u_law_fixed) rfl) (He.glo_ok X G (c.d.fact 34 (f := .glo "_law_fixed") rfl)) 
  exact ok_law T F ‹_› ‹_› ‹_› ‹_› ‹_› ‹_› ‹_› ‹_› ‹_› ‹_› ‹_› ‹_› ‹_›
theorem fin {P : Program} {w : World} {K : PySem.W.Frag} {h : Heap} {mg : Str → Option Value} {f : Addr} (X : K.In h) (G : h.Ns mainGlobals mg) (c : SaysB fa fn ex K) (hm : mg ("law" : Str) = some (.ref f)) :
    ∃ (K : PySem.W.Frag) (fd : FuncData) (sp : Sp), K.In h ∧ (∀ (s : Shared) (u : Value), BindsTo s fd ⟨[u], []⟩ [(("script" : Str), u)]) ∧
      (∀ (H : Hp) (a : Addr) (ns : List Int), ns.length ≤ 63 → Only H → SqL K H a (ns.map V.int) → sp [.ref a] H (fun v _ => v = .bl true) fun _ _ _ => False) ∧
      ∀ base : Heap, K.In base → base.Ns mainGlobals mg → FnOk P w K mg base CX0 7 f fd ["script"] sp := by
  obtain ⟨fd, F⟩ := c.d.def_ 35 (d := d_law) rfl
  have e := hm.symm.trans (He.glo_ok X G (c.d.fact 35 (f := .glo "law") rfl))
  cases e
  have b := FunD.bindsA (ps := ["script"]) F fun _ _ _ _ _ _ us hl => match us, hl with | [_], _ => rfl
  refine ⟨K, fd, sp_law K, X, fun s v => b s [v] rfl, fun H a ns hl hO hS => ?_, fun base hK hG => facts X G c F base⟩
  exact ⟨H, _, _, GH.only hO, .cons (.scr hS) .nil, ⟨ns, rfl, hl, rfl⟩, fun v G' H' _ hv => by cases hv; rfl⟩
end K19
open PySem PySem.W PySem.Calls PyProof.Rows
theorem PySem.Challenge.cw_wallsaswished_k19_pictures_holds : PySem.Challenge.rw_wallsaswished_k19_pictures.Holds := by
  w_on
  o_law
  refine HandSHeadRun.head_any (r := K19.R) (q := view (OpenLaw.row PySem.Challenge.rw_wallsaswished_k19_pictures).prog [54])
    (H := K19.hk) (ob := K19.ob) (M := 6000) (loose := K19.loose)
    (d := HandSHeadRun.topDef (OpenLaw.row PySem.Challenge.rw_wallsaswished_k19_pictures).prog 54) (kwd := []) K19.ob_eq
    (by kernel_rfl) (fun s => by kernel_rfl) K19.run
    (by kernel_rfl) (by kernel_rfl) (by kernel_rfl) (by rfl) (by first | assumption | decide +kernel)
    (by decide +kernel) ⟨rfl, rfl, rfl, rfl, rfl, by decide +kernel⟩ ?hw ?hc
  case hw => w_witness2
  case hc =>
    refine L2.walk_ofE (l := PySem.Challenge.rw_wallsaswished_k19_pictures) (n := 63) (k := 7) (x := "script") (CX := L2.CX0)
      rfl (by decide) (by kernel_rfl) ⟨rfl, by decide, by decide⟩ ?F (fun _ _ _ _ z => z)
    intro w mg fa h Y G hmg0
    obtain ⟨K, KX, c⟩ := Y
    have hn : (HandSHeadRun.topDef (OpenLaw.row PySem.Challenge.rw_wallsaswished_k19_pictures).prog 54).name = ("law" : PySem.Str) := by kernel_rfl
    rw [hn] at hmg0
    exact K19.fin KX G c hmg0
