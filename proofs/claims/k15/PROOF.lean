import PyProof.Rows.All
import Wide.All
import OpenK.AllK
import Wide.FinOn
import PySem.Challenge.RW_wallsaswished_k15_check_plan
import HandS.Base
import HandS.Call
import HandS.List
import HandS.Comp
import HandS.Dict
import HandS.Iter
import HandS.Walk
import HandS.Words
import HandS.Text
import HandS.TupAny
import HandS.Style
import HandS.IsInst
import HandS.More
import HandS.Flow
import HandS.Replace
import PyProof.StrOps2
import KE.GoesMore
import KE.GoesEnum
import HandS.Defaults
import HandS.Exc
import HandS.ExcOwn
import HandS.ExcInit
import HandS.ExcIs
import HandS.ExcField
import HandS.WordsExc
import KE.KStateDown
import HandS.Head0
import HandS.Head1
import HandS.Head2
import HandS.HeadEnd
import HandS.HeadHook1
import HandS.HeadHook2
import HandS.EndBits
import HandS.DictComp
import HandS.Conv
import KE.KSortTupAny
import HandS.SortOrd
import HandS.TupLe
import PyProof.FString5
import HandS.Zip
import KE.KDictWalk
import HandS.ExcInitHot
set_option Elab.async false
set_option linter.all false
set_option maxRecDepth 100000
/-! DL1: data as values of the abstract heap: Dq, the frozen part G of a heap H, what a step may do (Ext), slots (En). -/
namespace DL
open PySem L2

abbrev D := PyData
def kD : Key → D
  | .inl i => .int i
  | .inr x => .str x

mutual
inductive Dq (K : PySem.W.Frag) (G : Hp) : V → D → Prop
  | non : Dq K G .non .none
  | bl (b : Bool) : Dq K G (.bl b) (.bool b)
  | int (i : Int) : Dq K G (.int i) (.int i)
  | str (x : Str) : Dq K G (.str x) (.str x)
  | lst {a : Addr} {xs : List V} {ds : List D} : G a = some (.lst xs) → DqA K G xs ds → Dq K G (.ref a) (.list ds)
  /-- the script: read alone -/
  | scr {a : Addr} {ns : List Int} : SqL K G a (ns.map V.int) → Dq K G (.ref a) (.dict [(.none, .list (ns.map PyData.int))])
  | tup {a : Addr} {xs : List V} {ds : List D} : SqT K G a xs → DqA K G xs ds → Dq K G (.ref a) (.tuple ds)
  | dK {a : Addr} {es : List (Key × V)} {kvs : List (D × D)} : Rd G a (.dK es) → DqK K G es kvs → Dq K G (.ref a) (.dict kvs)
  | dT {a : Addr} {es : List (List Key × V)} {kvs : List (D × D)} : Rd G a (.dT es) → DqT K G es kvs → Dq K G (.ref a) (.dict ((.none, .none) :: kvs))
  /-- a list [int, list of ints, int, int] that defs change; a list of ints that defs change: nobody tells what is in it -/
  | sta {l r : Addr} : G l = some (.own r) → G r = some (.rng 0 0) → Dq K G (.ref l) (.dict [(.bool true, .none)])
  | opq {a : Addr} {lo : Int} : G a = some (.rng lo 1) → Dq K G (.ref a) (.dict [(.bool false, .int ((a : Nat) : Int))])
  /-- an address, nothing is told of what stands there -/
  | raw (a : Addr) : Dq K G (.ref a) (.dict [(.bool true, .int ((a : Nat) : Int))])
inductive DqA (K : PySem.W.Frag) (G : Hp) : List V → List D → Prop
  | nil : DqA K G [] []
  | cons {v : V} {vs : List V} {d : D} {ds : List D} : Dq K G v d → DqA K G vs ds → DqA K G (v :: vs) (d :: ds)
inductive DqK (K : PySem.W.Frag) (G : Hp) : List (Key × V) → List (D × D) → Prop
  | nil : DqK K G [] []
  | cons {k : Key} {v : V} {es : List (Key × V)} {d : D} {kvs : List (D × D)} : Dq K G v d → DqK K G es kvs → DqK K G ((k, v) :: es) ((kD k, d) :: kvs)
inductive DqT (K : PySem.W.Frag) (G : Hp) : List (List Key × V) → List (D × D) → Prop
  | nil : DqT K G [] []
  | cons {k : List Key} {v : V} {es : List (List Key × V)} {d : D} {kvs : List (D × D)} : Dq K G v d → DqT K G es kvs → DqT K G ((k, v) :: es) ((.tuple (k.map kD), d) :: kvs)
end

/-- what stands in G stands in H (a dict may be locked there) -/
def isDic : HO → Bool
  | .dK _ => true
  | .dT _ => true
  | _ => false
/-- a list of ints, of which those from the place lo on are unlike and within 0 .. 10000 -/
def okL (lo : Int) (ns : List Int) : Prop := 0 ≤ lo ∧ lo ≤ 5000000 ∧ (ns.drop lo.toNat).Nodup ∧ ∀ n ∈ ns.drop lo.toNat, 0 ≤ n ∧ n ≤ 10000
/-- what a mark in the frozen part says of the heap -/
def stH (u : HO) (H : Hp) (a : Addr) : Prop := match u with
  | .own r => ∃ x y z : Int, H a = some (.lst [.int x, .ref r, .int y, .int z])
  | .rng lo hi => ∃ ns : List Int, H a = some (.lst (ns.map V.int)) ∧ (hi = 1 → okL lo ns)
  | _ => False
def isMk : HO → Bool
  | .own _ => true
  | .rng _ _ => true
  | _ => false
theorem stH.mk {u : HO} {H : Hp} {a : Addr} (h : stH u H a) : isMk u = true ∧ ∃ xs, H a = some (.lst xs) := by
  unfold stH at h
  split at h
  · obtain ⟨x, y, z, h⟩ := h
    exact ⟨rfl, _, h⟩
  · obtain ⟨ns, h, _⟩ := h
    exact ⟨rfl, _, h⟩
  · exact h.elim
theorem stH.eq {u : HO} {H H' : Hp} {a b : Addr} (e : H' b = H a) (h : stH u H a) : stH u H' b := by
  unfold stH at h ⊢
  split at h
  · obtain ⟨x, y, z, h⟩ := h
    exact ⟨x, y, z, e.trans h⟩
  · obtain ⟨ns, h, k⟩ := h
    exact ⟨ns, e.trans h, k⟩
  · exact h.elim
def GHat (u : HO) (H : Hp) (a : Addr) : Prop := (H a = some u ∧ isMk u = false) ∨ (isDic u = true ∧ ∃ o, H a = some (.frz o u)) ∨ stH u H a
theorem GHat.eq {u : HO} {H H' : Hp} {a : Addr} (h : GHat u H a) (e : H' a = H a) : GHat u H' a := by
  rcases h with h | ⟨d, o, h⟩ | h
  · exact .inl ⟨e.trans h.1, h.2⟩
  · exact .inr (.inl ⟨d, o, e.trans h⟩)
  · exact .inr (.inr (h.eq e))
def GH (G H : Hp) : Prop := ∀ a u, G a = some u → GHat u H a
theorem GHat.of {u : HO} {H : Hp} {a : Addr} (h : H a = some u) (nm : isMk u = false := by rfl) : GHat u H a := .inl ⟨h, nm⟩
theorem GH.refl {H : Hp} (nm : ∀ a u, H a = some u → isMk u = false) : GH H H := fun a u h => .of h (nm a u h)
/-- the frozen part grows -/
def Sub (A B : Hp) : Prop := ∀ a u, A a = some u → B a = some u
theorem Sub.of {A B : Hp} (x : ∀ a o, A a = some o → B a = some o) : Sub A B := x
theorem Sub.refl (A : Hp) : Sub A A := fun _ _ h => h
theorem Sub.trans {A B C : Hp} (x : Sub A B) (y : Sub B C) : Sub A C := fun a u h => y a u (x a u h)
theorem Sub.rd {A B : Hp} (x : Sub A B) {a : Addr} {u : HO} (h : Rd A a u) : Rd B a u := by
  rcases h with h | ⟨o, h⟩
  · exact .inl (x a u h)
  · exact .inr ⟨o, x a _ h⟩
theorem Sub.l {K : PySem.W.Frag} {A B : Hp} {a : Addr} {xs : List V} (x : Sub A B) (h : SqL K A a xs) : SqL K B a xs := by
  rcases h with h | h
  · exact .inl (x.rd h)
  · exact .inr h
theorem Sub.t {K : PySem.W.Frag} {A B : Hp} {a : Addr} {xs : List V} (x : Sub A B) (h : SqT K A a xs) : SqT K B a xs := by
  rcases h with h | h
  · exact .inl (x.rd h)
  · exact .inr h
theorem Sub.gh {A B C : Hp} (x : Sub A B) (y : GH B C) : GH A C := fun a u h => y a u (x a u h)
theorem GH.rd {A B : Hp} (x : GH A B) {a : Addr} {u : HO} (h : Rd A a u) (nm : isMk u = false := by rfl) : Rd B a u := by
  rcases h with h | ⟨o, h⟩
  · rcases x a u h with h | ⟨_, o, h⟩ | h
    · exact .inl h.1
    · exact .inr ⟨o, h⟩
    · rw [h.mk.1] at nm
      cases nm
  · rcases x a _ h with h | ⟨d, _⟩ | h
    · exact .inr ⟨o, h.1⟩
    · cases d
    · cases h.mk.1
theorem GH.lst {A B : Hp} (x : GH A B) {a : Addr} {xs : List V} (h : A a = some (.lst xs)) : B a = some (.lst xs) := by
  rcases x a _ h with h | ⟨d, _⟩ | h
  · exact h.1
  · cases d
  · cases h.mk.1
theorem GH.l {K : PySem.W.Frag} {A B : Hp} {a : Addr} {xs : List V} (x : GH A B) (h : SqL K A a xs) : SqL K B a xs := by
  rcases h with h | h
  · exact .inl (x.rd h)
  · exact .inr h
theorem GH.t {K : PySem.W.Frag} {A B : Hp} {a : Addr} {xs : List V} (x : GH A B) (h : SqT K A a xs) : SqT K B a xs := by
  rcases h with h | h
  · exact .inl (x.rd h)
  · exact .inr h
theorem GH.none {A B : Hp} {a : Addr} (x : GH A B) (h : B a = none) : A a = none := by
  cases e : A a with
  | none => rfl
  | some o =>
    rcases x a o e with ⟨q, _⟩ | ⟨_, _, q⟩ | q
    · rw [h] at q; cases q
    · rw [h] at q; cases q
    · obtain ⟨_, xs, q⟩ := q.mk
      rw [h] at q; cases q

mutual
theorem Dq.mono {K : PySem.W.Frag} {A B : Hp} (x : Sub A B) : ∀ {v : V} {d : D}, Dq K A v d → Dq K B v d
  | _, _, .non => .non
  | _, _, .bl b => .bl b
  | _, _, .int i => .int i
  | _, _, .str z => .str z
  | _, _, .lst h t => .lst (x _ _ h) (DqA.mono x t)
  | _, _, .scr h => .scr (x.l h)
  | _, _, .tup h t => .tup (x.t h) (DqA.mono x t)
  | _, _, .dK h t => .dK (x.rd h) (DqK.mono x t)
  | _, _, .dT h t => .dT (x.rd h) (DqT.mono x t)
  | _, _, .sta h t => .sta (x _ _ h) (x _ _ t)
  | _, _, .opq h => .opq (x _ _ h)
  | _, _, .raw a => .raw a
theorem DqA.mono {K : PySem.W.Frag} {A B : Hp} (x : Sub A B) : ∀ {vs : List V} {ds : List D}, DqA K A vs ds → DqA K B vs ds
  | _, _, .nil => .nil
  | _, _, .cons h t => .cons (Dq.mono x h) (DqA.mono x t)
theorem DqK.mono {K : PySem.W.Frag} {A B : Hp} (x : Sub A B) : ∀ {vs : List (Key × V)} {ds : List (D × D)}, DqK K A vs ds → DqK K B vs ds
  | _, _, .nil => .nil
  | _, _, .cons h t => .cons (Dq.mono x h) (DqK.mono x t)
theorem DqT.mono {K : PySem.W.Frag} {A B : Hp} (x : Sub A B) : ∀ {vs : List (List Key × V)} {ds : List (D × D)}, DqT K A vs ds → DqT K B vs ds
  | _, _, .nil => .nil
  | _, _, .cons h t => .cons (Dq.mono x h) (DqT.mono x t)
end

section
variable {K : PySem.W.Frag} {G : Hp}
theorem DqA.length : ∀ {ds : List D} {vs : List V}, DqA K G vs ds → vs.length = ds.length
  | [], _, h => by cases h; rfl
  | _ :: ds, _, h => by
    cases h with
    | cons _ t => exact congrArg Nat.succ (DqA.length t)
theorem DqA.get : ∀ {ds : List D} {vs : List V} {i : Nat} {d : D}, DqA K G vs ds → ds[i]? = some d → ∃ v, vs[i]? = some v ∧ Dq K G v d
  | [], _, _, _, _, e => by simp at e
  | _ :: ds, _, i, d, h, e => by
    cases h with
    | cons x t =>
      cases i with
      | zero => simp at e; subst e; exact ⟨_, rfl, x⟩
      | succ i =>
        obtain ⟨v, h1, h2⟩ := DqA.get (i := i) (d := d) t (by simpa using e)
        exact ⟨v, by simpa using h1, h2⟩
theorem DqA.got {ds : List D} {vs : List V} {i : Nat} {v : V} (h : DqA K G vs ds) (e : vs[i]? = some v) : ∃ d, ds[i]? = some d ∧ Dq K G v d := by
  have hl := h.length
  have hi : i < vs.length := (List.getElem?_eq_some_iff.mp e).1
  obtain ⟨u, h1, h2⟩ := h.get (i := i) (d := ds[i]'(by omega)) (by simp [show i < ds.length by omega])
  rw [e] at h1
  cases h1
  exact ⟨_, by simp [show i < ds.length by omega], h2⟩
theorem DqA.append : ∀ {ds es : List D} {vs us : List V}, DqA K G vs ds → DqA K G us es → DqA K G (vs ++ us) (ds ++ es)
  | [], _, _, _, h, t => by cases h; exact t
  | _ :: ds, _, _, _, h, t => by
    cases h with
    | cons x r => exact .cons x (DqA.append r t)
theorem DqA.take : ∀ {ds : List D} {vs : List V} (n : Nat), DqA K G vs ds → DqA K G (vs.take n) (ds.take n)
  | [], _, n, h => by cases h; simpa using DqA.nil
  | _ :: ds, _, 0, h => by simpa using DqA.nil
  | _ :: ds, _, n + 1, h => by
    cases h with
    | cons x r => exact .cons x (DqA.take n r)
theorem DqA.drop : ∀ {ds : List D} {vs : List V} (n : Nat), DqA K G vs ds → DqA K G (vs.drop n) (ds.drop n)
  | [], _, n, h => by cases h; simpa using DqA.nil
  | _ :: ds, _, 0, h => h
  | _ :: ds, _, n + 1, h => by
    cases h with
    | cons x r => exact DqA.drop n r
theorem DqA.set : ∀ {ds : List D} {vs : List V} (i : Nat) {v : V} {d : D}, DqA K G vs ds → Dq K G v d → DqA K G (vs.set i v) (ds.set i d)
  | [], _, i, _, _, h, _ => by cases h; simpa using DqA.nil
  | _ :: ds, _, 0, _, _, h, x => by
    cases h with
    | cons _ r => exact .cons x r
  | _ :: ds, _, i + 1, _, _, h, x => by
    cases h with
    | cons y r => exact .cons y (DqA.set i r x)
theorem DqA.one {v : V} {d : D} (h : Dq K G v d) : DqA K G [v] [d] := .cons h .nil
theorem DqA.rev : ∀ {ds : List D} {vs : List V}, DqA K G vs ds → DqA K G vs.reverse ds.reverse
  | [], _, h => by cases h; exact .nil
  | _ :: ds, _, h => by
    cases h with
    | cons x r =>
      rw [List.reverse_cons, List.reverse_cons]
      exact (DqA.rev r).append (.one x)
end

def noTup : HO → Bool
  | .tup _ => false
  | _ => true
/-- a is one of the lists that defs change -/
def mkd (G : Hp) (a : Addr) : Prop := ∃ u, G a = some u ∧ isMk u = true
/-- from (G, H) to (G', H'): nothing that stood was changed, but what is marked; what was owned stays out of the frozen part -/
structure Ext (G H G' H' : Hp) : Prop where
  gg : ∀ a o, G a = some o → G' a = some o
  hh : ∀ a o, H a = some o → H' a = some o ∨ mkd G a
  gh : GH G' H'
  own : ∀ a o, H a = some o → noTup o = true → G a = none → G' a = none
theorem Ext.refl {G H : Hp} (g : GH G H) : Ext G H G H := ⟨fun _ _ h => h, fun _ _ h => .inl h, g, fun _ _ _ _ h => h⟩
theorem Ext.at {G H G' H' : Hp} (x : Ext G H G' H') {a : Addr} {o : HO} (hG : G a = none) (h : H a = some o) : H' a = some o := by
  rcases x.hh a o h with h | ⟨u, h, _⟩
  · exact h
  · rw [hG] at h
    cases h
/-- a thing of the frozen part that is no mark -/
theorem Ext.atF {G H G' H' : Hp} (x : Ext G H G' H') {a : Addr} {o u : HO} (hG : G a = some u) (hm : isMk u = false) (h : H a = some o) : H' a = some o := by
  rcases x.hh a o h with h | ⟨v, h, m⟩
  · exact h
  · rw [hG] at h
    cases h
    rw [hm] at m
    cases m
theorem Ext.gone {G H G' H' : Hp} (x : Ext G H G' H') {a : Addr} (h : H' a = none) : H a = none := by
  cases e : H a with
  | none => rfl
  | some o =>
    rcases x.hh a o e with q | ⟨u, q, _⟩
    · rw [h] at q
      cases q
    · have := x.gh.none h
      rw [x.gg a u q] at this
      cases this
theorem Ext.ownT {G H G1 H1 G2 H2 : Hp} (x : Ext G H G1 H1) (y : Ext G1 H1 G2 H2) {a : Addr} {o : HO} (h : H a = some o) (t : noTup o = true) (n : G a = none) : G2 a = none :=
  y.own a o (x.at n h) t (x.own a o h t n)
theorem mkd.mono {G G' : Hp} (g : ∀ a o, G a = some o → G' a = some o) {a : Addr} (m : mkd G a) : mkd G' a := m.imp fun u h => ⟨g a u h.1, h.2⟩
theorem Ext.mark {G H G1 H1 : Hp} (x : Ext G H G1 H1) {a : Addr} {o : HO} (h : H a = some o) (m : mkd G1 a) : mkd G a := by
  rcases x.hh a o h with h1 | m'
  · obtain ⟨u, m, mu⟩ := m
    cases e : G a with
    | some v =>
      have := x.gg a v e
      rw [m] at this
      cases this
      exact ⟨u, e, mu⟩
    | none =>
      cases t : noTup o with
      | true =>
        rw [x.own a o h t e] at m
        cases m
      | false =>
        rcases x.gh a u m with ⟨_, q⟩ | ⟨d, _⟩ | q
        · rw [mu] at q
          cases q
        · cases u <;> first | (cases mu; done) | (cases d; done)
        · obtain ⟨_, xs, q⟩ := q.mk
          rw [h1] at q
          cases q
          cases t
  · exact m'
theorem Ext.trans {G H G1 H1 G2 H2 : Hp} (x : Ext G H G1 H1) (y : Ext G1 H1 G2 H2) : Ext G H G2 H2 := by
  refine ⟨fun a o h => y.gg a o (x.gg a o h), fun a o h => ?_, y.gh, fun a o h t n => x.ownT y h t n⟩
  rcases x.hh a o h with h1 | m
  · exact (y.hh a o h1).imp id (x.mark h)
  · exact .inr m
theorem Ext.g {G H G' H' : Hp} (x : Ext G H G' H') : Sub G G' := x.gg
/-- a new object is laid and frozen -/
theorem Ext.new {G H : Hp} {p : Addr} {o : HO} (g : GH G H) (h : H p = none) (nm : isMk o = false := by rfl) : Ext G H (upd G p o) (upd H p o) := by
  refine ⟨fun a u e => ?_, fun a u e => .inl ?_, fun a u r => ?_, fun a u e _ n => ?_⟩
  · rw [upd_ne (ne_of_none e (g.none h))]; exact e
  · rw [upd_ne (ne_of_none e h)]; exact e
  · by_cases ha : a = p
    · subst ha
      rw [upd_same] at r
      cases r
      exact .of upd_same nm
    · rw [upd_ne ha] at r
      exact (g a u r).eq (upd_ne ha)
  · rw [upd_ne (ne_of_none e h)]; exact n
/-- a new object is laid and owned -/
theorem Ext.fresh {G H : Hp} {p : Addr} {o : HO} (g : GH G H) (h : H p = none) : Ext G H G (upd H p o) := by
  refine ⟨fun a u e => e, fun a u e => .inl ?_, fun a u r => ?_, fun a u e _ n => n⟩
  · rw [upd_ne (ne_of_none e h)]; exact e
  · have hp : a ≠ p := by
      rintro rfl
      rw [g.none h] at r; cases r
    exact (g a u r).eq (upd_ne hp)

/-- a slot: not told, a frozen datum, an owned one -/
inductive Sl where
  | no
  | fr (d : D)
  | ow (d : D)
  /-- a caught exception at a, its dict at dd -/
  | ex (a dd : Addr) (fl : List (Str × D))
  /-- a dict of owned lists -/
  | ne (kls : List (Key × List D))
/-- the fields of an exception -/
def DqF (K : PySem.W.Frag) (G : Hp) (fs : List (Str × V)) (fl : List (Str × D)) : Prop := fs.map (·.1) = fl.map (·.1) ∧ DqA K G (fs.map (·.2)) (fl.map (·.2))
theorem DqF.mono {K : PySem.W.Frag} {A B : Hp} (x : Sub A B) {fs : List (Str × V)} {fl : List (Str × D)} (h : DqF K A fs fl) : DqF K B fs fl := ⟨h.1, h.2.mono x⟩
theorem DqF.get {K : PySem.W.Frag} {G : Hp} {f : Str} {d : D} : ∀ {fl : List (Str × D)} {fs : List (Str × V)}, DqF K G fs fl → fl.lookup f = some d → ∃ v, fs.lookup f = some v ∧ Dq K G v d
  | [], _, _, e => by simp at e
  | (g, d') :: fl, [], h, _ => by
    have := h.1
    simp at this
  | (g, d') :: fl, (g', v') :: fs, h, e => by
    obtain ⟨h1, h2⟩ := h
    simp only [List.map_cons] at h1 h2
    injection h1 with e1 h1
    cases h2 with
    | cons a b =>
      subst e1
      by_cases q : f = g'
      · subst q
        rw [List.lookup_cons_self] at e
        cases e
        exact ⟨v', List.lookup_cons_self, a⟩
      · have q2 : (f == g') = false := by simpa using q
        rw [List.lookup_cons, q2] at e
        rw [List.lookup_cons, q2]
        exact DqF.get ⟨h1, b⟩ e
/-- what stands at an owned address -/
inductive OwnC (K : PySem.W.Frag) (G H : Hp) (l : Addr) : D → Prop
  | lst {vs : List V} {ds : List D} : H l = some (.lst vs) → DqA K G vs ds → OwnC K G H l (.list ds)
  | dK {es : List (Key × V)} {kvs : List (D × D)} : H l = some (.dK es) → DqK K G es kvs → OwnC K G H l (.dict kvs)
  | dT {es : List (List Key × V)} {kvs : List (D × D)} : H l = some (.dT es) → DqT K G es kvs → OwnC K G H l (.dict ((.none, .none) :: kvs))
theorem OwnC.there {K : PySem.W.Frag} {G H : Hp} {l : Addr} {d : D} (x : OwnC K G H l d) : ∃ o, H l = some o ∧ noTup o = true := by
  cases x with
  | lst h _ => exact ⟨_, h, rfl⟩
  | dK h _ => exact ⟨_, h, rfl⟩
  | dT h _ => exact ⟨_, h, rfl⟩
theorem OwnC.there2 {K : PySem.W.Frag} {G H : Hp} {l : Addr} {d : D} (x : OwnC K G H l d) : ∃ o, H l = some o ∧ noTup o = true ∧ isMk o = false := by
  cases x with
  | lst h _ => exact ⟨_, h, rfl, rfl⟩
  | dK h _ => exact ⟨_, h, rfl, rfl⟩
  | dT h _ => exact ⟨_, h, rfl, rfl⟩
theorem OwnC.ext {K : PySem.W.Frag} {G H G' H' : Hp} {l : Addr} {d : D} (x : OwnC K G H l d) (g : Sub G G') (h : H' l = H l) : OwnC K G' H' l d := by
  cases x with
  | lst e r => exact .lst (h.trans e) (r.mono g)
  | dK e r => exact .dK (h.trans e) (r.mono g)
  | dT e r => exact .dT (h.trans e) (r.mono g)
/-- an owned object read as a frozen one, over the whole heap -/
theorem OwnC.dq {K : PySem.W.Frag} {G H B : Hp} {l : Addr} {d : D} (x : OwnC K G H l d) (g : Sub G B) (h : ∀ o, H l = some o → B l = some o) : Dq K B (.ref l) d := by
  cases x with
  | lst e r => exact .lst (h _ e) (r.mono g)
  | dK e r => exact .dK (.inl (h _ e)) (r.mono g)
  | dT e r => exact .dT (.inl (h _ e)) (r.mono g)

/-- the lists at these addresses -/
inductive NeL (K : PySem.W.Frag) (G H : Hp) : List (Key × V) → List Addr → List (Key × List D) → Prop
  | nil : NeL K G H [] [] []
  | cons {k : Key} {a : Addr} {vs : List V} {ds : List D} {es : List (Key × V)} {as : List Addr} {kls : List (Key × List D)} : H a = some (.lst vs) → DqA K G vs ds → NeL K G H es as kls → NeL K G H ((k, .ref a) :: es) (a :: as) ((k, ds) :: kls)
theorem NeL.go {K : PySem.W.Frag} {G H G' H' : Hp} (g : Sub G G') : ∀ {es : List (Key × V)} {as : List Addr} {kls : List (Key × List D)}, NeL K G H es as kls → (∀ a ∈ as, H' a = H a) → NeL K G' H' es as kls
  | _, _, _, .nil, _ => .nil
  | _, _, _, .cons h r t, e => .cons ((e _ (List.mem_cons_self ..)).trans h) (r.mono g) (NeL.go g t fun a ha => e a (List.mem_cons_of_mem _ ha))
theorem NeL.there {K : PySem.W.Frag} {G H : Hp} {es : List (Key × V)} {as : List Addr} {kls : List (Key × List D)} (x : NeL K G H es as kls) : ∀ a ∈ as, ∃ vs, H a = some (.lst vs) := by
  induction x with
  | nil =>
    intro a ha
    cases ha
  | cons h _ _ ih =>
    intro a ha
    rcases List.mem_cons.mp ha with rfl | ha
    · exact ⟨_, h⟩
    · exact ih a ha
theorem NeL.det {K : PySem.W.Frag} {G H G' H' : Hp} : ∀ {es : List (Key × V)} {as bs : List Addr} {kls lls : List (Key × List D)}, NeL K G H es as kls → NeL K G' H' es bs lls → as = bs
  | _, _, _, _, _, .nil, .nil => rfl
  | _, _, _, _, _, .cons _ _ t, .cons _ _ u => congrArg _ (NeL.det t u)
def NeC (K : PySem.W.Frag) (G H : Hp) (l : Addr) (as : List Addr) (kls : List (Key × List D)) : Prop := (∃ es, H l = some (.dK es) ∧ NeL K G H es as kls) ∧ (l :: as).Nodup
theorem NeC.there {K : PySem.W.Frag} {G H : Hp} {l : Addr} {as : List Addr} {kls : List (Key × List D)} (x : NeC K G H l as kls) : ∀ a ∈ l :: as, ∃ o, H a = some o ∧ noTup o = true := fun a ha => by
  obtain ⟨⟨es, h1, h2⟩, _⟩ := x
  rcases List.mem_cons.mp ha with rfl | ha
  · exact ⟨_, h1, rfl⟩
  · obtain ⟨vs, h⟩ := h2.there a ha
    exact ⟨_, h, rfl⟩
theorem NeC.there2 {K : PySem.W.Frag} {G H : Hp} {l : Addr} {as : List Addr} {kls : List (Key × List D)} (x : NeC K G H l as kls) {a : Addr} {u : HO} (ha : a ∈ l :: as) (r : H a = some u) : isMk u = false := by
  obtain ⟨⟨es, h1, h2⟩, _⟩ := x
  rcases List.mem_cons.mp ha with rfl | ha
  · rw [h1] at r
    cases r
    rfl
  · obtain ⟨vs, h⟩ := h2.there a ha
    rw [h] at r
    cases r
    rfl
theorem NeC.go {K : PySem.W.Frag} {G H G' H' : Hp} {l : Addr} {as : List Addr} {kls : List (Key × List D)} (x : NeC K G H l as kls) (g : Sub G G') (e : ∀ a ∈ l :: as, H' a = H a) : NeC K G' H' l as kls := by
  obtain ⟨⟨es, h1, h2⟩, n⟩ := x
  exact ⟨⟨es, (e l (List.mem_cons_self ..)).trans h1, h2.go g fun a ha => e a (List.mem_cons_of_mem _ ha)⟩, n⟩
structure En (K : PySem.W.Frag) (G0 H0 G H : Hp) (σ : St) (ρ : List Sl) : Prop where
  len : σ.length = ρ.length
  ext : Ext G0 H0 G H
  fr : ∀ (i : Nat) (d : D), ρ[i]? = some (Sl.fr d) → ∃ v, σ[i]? = some (some v) ∧ Dq K G v d
  ow : ∀ (i : Nat) (d : D), ρ[i]? = some (Sl.ow d) → ∃ l, σ[i]? = some (some (V.ref l)) ∧ H0 l = none ∧ G l = none ∧ OwnC K G H l d
  ex : ∀ (i : Nat) (a dd : Addr) (fl : List (Str × D)), ρ[i]? = some (Sl.ex a dd fl) → σ[i]? = some (some (V.ref a)) ∧ ∃ fs, G dd = some (.xd fs) ∧ DqF K G fs fl
  dis : ∀ (i j : Nat) (d e : D) (l : Addr), ρ[i]? = some (Sl.ow d) → ρ[j]? = some (Sl.ow e) → σ[i]? = some (some (V.ref l)) → σ[j]? = some (some (V.ref l)) → i = j
  ne : ∀ (i : Nat) (kls : List (Key × List D)), ρ[i]? = some (Sl.ne kls) → ∃ l as, σ[i]? = some (some (V.ref l)) ∧ NeC K G H l as kls ∧ ∀ a ∈ l :: as, H0 a = none ∧ G a = none ∧ ∀ (j : Nat) (e : D), ρ[j]? = some (Sl.ow e) → σ[j]? ≠ some (some (V.ref a))
  ned : ∀ (i j : Nat) (x y : List (Key × List D)), ρ[i]? = some (Sl.ne x) → ρ[j]? = some (Sl.ne y) → i = j
section
variable {K : PySem.W.Frag} {G0 H0 G H G' H' : Hp} {σ : St} {ρ : List Sl}
theorem En.go (E : En K G0 H0 G H σ ρ) (x : Ext G H G' H') : En K G0 H0 G' H' σ ρ := by
  refine ⟨E.len, E.ext.trans x, fun i d e => ?_, fun i d e => ?_, fun i a dd fl e => ?_, E.dis, fun i kls e => ?_, E.ned⟩
  · obtain ⟨v, h1, h2⟩ := E.fr i d e
    exact ⟨v, h1, h2.mono x.g⟩
  · obtain ⟨l, h1, h2, h3, h4⟩ := E.ow i d e
    obtain ⟨o, ho, ht⟩ := h4.there
    exact ⟨l, h1, h2, x.own l o ho ht h3, h4.ext x.g ((x.at h3 ho).trans ho.symm)⟩
  · obtain ⟨h1, fs, h2, h3⟩ := E.ex i a dd fl e
    exact ⟨h1, fs, x.gg _ _ h2, h3.mono x.g⟩
  · obtain ⟨l, as, h1, h2, h3⟩ := E.ne i kls e
    refine ⟨l, as, h1, h2.go x.g fun a ha => ?_, fun a ha => ?_⟩
    · obtain ⟨o, ho, _⟩ := h2.there a ha
      exact (x.at (h3 a ha).2.1 ho).trans ho.symm
    · obtain ⟨o, ho, ht⟩ := h2.there a ha
      obtain ⟨b1, b2, b3⟩ := h3 a ha
      exact ⟨b1, x.own a o ho ht b2, b3⟩
theorem En.gh (E : En K G0 H0 G H σ ρ) : GH G H := E.ext.gh
theorem set_get? {α : Type} {xs : List α} {i j : Nat} {a b : α} (h : (xs.set i a)[j]? = some b) : (j = i ∧ i < xs.length ∧ a = b) ∨ (j ≠ i ∧ xs[j]? = some b) := by
  by_cases e : j = i
  · subst e
    have hi : j < (xs.set j a).length := (List.getElem?_eq_some_iff.mp h).1
    rw [List.length_set] at hi
    rw [List.getElem?_set_self hi] at h
    exact .inl ⟨rfl, hi, Option.some.inj h⟩
  · rw [List.getElem?_set_ne (Ne.symm e)] at h
    exact .inr ⟨e, h⟩
theorem En.ne_set (E : En K G0 H0 G H σ ρ) {i : Nat} {v : Option V} {s : Sl} (hs : ∀ kls, s ≠ Sl.ne kls) (ho : ∀ d, s ≠ Sl.ow d) (j : Nat) (kls : List (Key × List D)) (q : (ρ.set i s)[j]? = some (Sl.ne kls)) :
    ∃ l as, (σ.set i v)[j]? = some (some (V.ref l)) ∧ NeC K G H l as kls ∧ ∀ a ∈ l :: as, H0 a = none ∧ G a = none ∧ ∀ (k : Nat) (e : D), (ρ.set i s)[k]? = some (Sl.ow e) → (σ.set i v)[k]? ≠ some (some (V.ref a)) := by
  rcases set_get? q with ⟨_, _, x⟩ | ⟨nj, q⟩
  · exact absurd x (hs _)
  · obtain ⟨l, as, h1, h2, h3⟩ := E.ne j kls q
    refine ⟨l, as, by rw [List.getElem?_set_ne (Ne.symm nj)]; exact h1, h2, fun a ha => ?_⟩
    obtain ⟨b1, b2, b3⟩ := h3 a ha
    refine ⟨b1, b2, fun k e z => ?_⟩
    rcases set_get? z with ⟨_, _, x⟩ | ⟨nk, z⟩
    · exact absurd x (ho _)
    · rw [List.getElem?_set_ne (Ne.symm nk)]
      exact b3 k e z
theorem En.ned_set (E : En K G0 H0 G H σ ρ) {i : Nat} {s : Sl} (hs : ∀ kls, s ≠ Sl.ne kls) (j k : Nat) (x y : List (Key × List D)) (q : (ρ.set i s)[j]? = some (Sl.ne x)) (q' : (ρ.set i s)[k]? = some (Sl.ne y)) : j = k := by
  rcases set_get? q with ⟨_, _, z⟩ | ⟨_, q⟩
  · exact absurd z (hs _)
  · rcases set_get? q' with ⟨_, _, z⟩ | ⟨_, q'⟩
    · exact absurd z (hs _)
    · exact E.ned j k x y q q'
theorem En.setF (E : En K G0 H0 G H σ ρ) {v : V} {d : D} (i : Nat) (h : Dq K G v d) : En K G0 H0 G H (σ.set i (some v)) (ρ.set i (Sl.fr d)) := by
  refine ⟨by rw [List.length_set, List.length_set, E.len], E.ext, fun j e q => ?_, fun j e q => ?_, fun j a dd fl q => ?_, fun j k e e' l q q' r r' => ?_, E.ne_set (fun _ z => nomatch z) (fun _ z => nomatch z), E.ned_set (fun _ z => nomatch z)⟩
  · rcases set_get? q with ⟨rfl, hi, x⟩ | ⟨ne, q⟩
    · cases x
      exact ⟨v, by rw [List.getElem?_set_self (by rw [E.len]; exact hi)], h⟩
    · obtain ⟨u, h1, h2⟩ := E.fr j e q
      exact ⟨u, by rw [List.getElem?_set_ne (Ne.symm ne)]; exact h1, h2⟩
  · rcases set_get? q with ⟨_, _, x⟩ | ⟨ne, q⟩
    · cases x
    · obtain ⟨l, h1, h2⟩ := E.ow j e q
      exact ⟨l, by rw [List.getElem?_set_ne (Ne.symm ne)]; exact h1, h2⟩
  · rcases set_get? q with ⟨_, _, x⟩ | ⟨ne, q⟩
    · cases x
    · obtain ⟨h1, h2⟩ := E.ex j a dd fl q
      exact ⟨by rw [List.getElem?_set_ne (Ne.symm ne)]; exact h1, h2⟩
  · rcases set_get? q with ⟨_, _, x⟩ | ⟨ne, q⟩
    · cases x
    · rcases set_get? q' with ⟨_, _, x⟩ | ⟨ne', q'⟩
      · cases x
      · rw [List.getElem?_set_ne (Ne.symm ne)] at r
        rw [List.getElem?_set_ne (Ne.symm ne')] at r'
        exact E.dis j k e e' l q q' r r'
/-- an owned object comes into slot i -/
theorem En.setO (E : En K G0 H0 G H σ ρ) {l : Addr} {d : D} (i : Nat) (h0 : H0 l = none) (hG : G l = none) (h : OwnC K G H l d) (hd : ∀ (j : Nat) (e : D), j ≠ i → ρ[j]? = some (Sl.ow e) → σ[j]? ≠ some (some (V.ref l))) (hn : ∀ (j : Nat) (kls : List (Key × List D)) (l' : Addr) (as : List Addr), ρ[j]? = some (Sl.ne kls) → σ[j]? = some (some (V.ref l')) → NeC K G H l' as kls → l ∉ l' :: as) :
    En K G0 H0 G H (σ.set i (some (.ref l))) (ρ.set i (Sl.ow d)) := by
  refine ⟨by rw [List.length_set, List.length_set, E.len], E.ext, fun j e q => ?_, fun j e q => ?_, fun j a dd fl q => ?_, fun j k e e' a q q' r r' => ?_, fun j kls q => ?_, E.ned_set (fun _ z => nomatch z)⟩
  · rcases set_get? q with ⟨_, _, x⟩ | ⟨ne, q⟩
    · cases x
    · obtain ⟨u, h1, h2⟩ := E.fr j e q
      exact ⟨u, by rw [List.getElem?_set_ne (Ne.symm ne)]; exact h1, h2⟩
  · rcases set_get? q with ⟨rfl, hi, x⟩ | ⟨ne, q⟩
    · cases x
      exact ⟨l, by rw [List.getElem?_set_self (by rw [E.len]; exact hi)], h0, hG, h⟩
    · obtain ⟨l, h1, h2⟩ := E.ow j e q
      exact ⟨l, by rw [List.getElem?_set_ne (Ne.symm ne)]; exact h1, h2⟩
  · rcases set_get? q with ⟨_, _, x⟩ | ⟨ne, q⟩
    · cases x
    · obtain ⟨h1, h2⟩ := E.ex j a dd fl q
      exact ⟨by rw [List.getElem?_set_ne (Ne.symm ne)]; exact h1, h2⟩
  · rcases set_get? q with ⟨rfl, hi, x⟩ | ⟨ne, q⟩
    · rcases set_get? q' with ⟨rfl, _, x⟩ | ⟨ne', q'⟩
      · rfl
      · rw [List.getElem?_set_self (by rw [E.len]; exact hi)] at r
        rw [List.getElem?_set_ne (Ne.symm ne')] at r'
        cases r
        exact absurd r' (hd k e' ne' q')
    · rcases set_get? q' with ⟨rfl, hi, x⟩ | ⟨ne', q'⟩
      · rw [List.getElem?_set_self (by rw [E.len]; exact hi)] at r'
        rw [List.getElem?_set_ne (Ne.symm ne)] at r
        cases r'
        exact absurd r (hd j e ne (by assumption))
      · rw [List.getElem?_set_ne (Ne.symm ne)] at r
        rw [List.getElem?_set_ne (Ne.symm ne')] at r'
        exact E.dis j k e e' a q q' r r'
  · rcases set_get? q with ⟨_, _, x⟩ | ⟨nj, q⟩
    · cases x
    · obtain ⟨l', as, h1, h2, h3⟩ := E.ne j kls q
      have hln := hn j kls l' as q h1 h2
      refine ⟨l', as, by rw [List.getElem?_set_ne (Ne.symm nj)]; exact h1, h2, fun a ha => ?_⟩
      obtain ⟨b1, b2, b3⟩ := h3 a ha
      refine ⟨b1, b2, fun k e z => ?_⟩
      rcases set_get? z with ⟨rfl, hi, _⟩ | ⟨nk, z⟩
      · rw [List.getElem?_set_self (by rw [E.len]; exact hi)]
        intro y
        injection y with y
        injection y with y
        injection y with y
        subst y
        exact hln ha
      · rw [List.getElem?_set_ne (Ne.symm nk)]
        exact b3 k e z
/-- a new owned object -/
theorem En.setN (E : En K G0 H0 G H σ ρ) {l : Addr} {d : D} (i : Nat) (x : Ext G H G' H') (hH : H l = none) (hG : G' l = none) (h : OwnC K G' H' l d) : En K G0 H0 G' H' (σ.set i (some (.ref l))) (ρ.set i (Sl.ow d)) := by
  refine (E.go x).setO i ?_ hG h (fun j e ne q r => ?_) fun j kls l' as q r c hm => ?_
  · exact E.ext.gone hH
  · obtain ⟨l', h1, _, _, h4⟩ := E.ow j e q
    obtain ⟨o, ho, ht⟩ := h4.there
    rw [h1] at r
    cases r
    rw [hH] at ho; cases ho
  · obtain ⟨l0, as0, h1, h2, h2'⟩ := E.ne j kls q
    rw [h1] at r
    cases r
    obtain ⟨⟨es, e1, e2⟩, nd⟩ := h2
    obtain ⟨⟨es', e3, e4⟩, _⟩ := c
    have e5 := x.at (h2' _ (List.mem_cons_self ..)).2.1 e1
    rw [e5] at e3
    cases e3
    have e6 := e2.det e4
    subst e6
    obtain ⟨o, ho, _⟩ := (show NeC K G H l' as0 kls from ⟨⟨es, e1, e2⟩, nd⟩).there l hm
    rw [hH] at ho
    cases ho
/-- an owned object is frozen from now on -/
theorem En.frzAs (E : En K G0 H0 G H σ ρ) {i : Nat} {d d' : D} {l : Addr} {o : HO} (hi : ρ[i]? = some (Sl.ow d)) (h1 : σ[i]? = some (some (V.ref l))) (ho : GHat o H l) (hd : (∀ a u, G a = some u → upd G l o a = some u) → Dq K (upd G l o) (.ref l) d') : En K G0 H0 (upd G l o) H σ (ρ.set i (Sl.fr d')) := by
  obtain ⟨l', h1', h2, h3, h4⟩ := E.ow i d hi
  rw [h1] at h1'
  injection h1' with h1'
  injection h1' with h1'
  injection h1' with h1'
  subst h1'
  have gg : ∀ a u, G a = some u → upd G l o a = some u := fun a u e => by
    rw [upd_ne (ne_of_none e h3)]; exact e
  have gh' : GH (upd G l o) H := fun a u r => by
    by_cases ha : a = l
    · subst ha
      rw [upd_same] at r
      cases r
      exact ho
    · rw [upd_ne ha] at r
      exact E.gh a u r
  have hil : i < ρ.length := (List.getElem?_eq_some_iff.mp hi).1
  refine ⟨by rw [List.length_set, E.len], ⟨fun a u e => gg a u (E.ext.gg a u e), E.ext.hh, gh', fun a u e t n => ?_⟩, fun j e q => ?_, fun j e q => ?_, fun j a dd fl q => ?_, fun j k e e' a q q' r r' => ?_, fun j kls q => ?_, E.ned_set (fun _ z => nomatch z)⟩
  · rw [upd_ne (ne_of_none e h2)]; exact E.ext.own a u e t n
  · rcases set_get? q with ⟨rfl, _, x⟩ | ⟨ne, q⟩
    · cases x
      exact ⟨_, h1, hd gg⟩
    · obtain ⟨v, a1, a2⟩ := E.fr j e q
      exact ⟨v, a1, a2.mono (Sub.of gg)⟩
  · rcases set_get? q with ⟨_, _, x⟩ | ⟨ne, q⟩
    · cases x
    · obtain ⟨b, a1, a2, a3, a4⟩ := E.ow j e q
      have hb : b ≠ l := by
        rintro rfl
        exact ne (E.dis j i e d b q hi a1 h1)
      exact ⟨b, a1, a2, by rw [upd_ne hb]; exact a3, a4.ext (Sub.of gg) rfl⟩
  · rcases set_get? q with ⟨_, _, x⟩ | ⟨ne, q⟩
    · cases x
    · obtain ⟨a1, fs, a2, a3⟩ := E.ex j a dd fl q
      exact ⟨a1, fs, gg _ _ a2, a3.mono (Sub.of gg)⟩
  · rcases set_get? q with ⟨_, _, x⟩ | ⟨ne, q⟩
    · cases x
    · rcases set_get? q' with ⟨_, _, x⟩ | ⟨ne', q'⟩
      · cases x
      · exact E.dis j k e e' a q q' r r'
  · rcases set_get? q with ⟨_, _, x⟩ | ⟨nj, q⟩
    · cases x
    · obtain ⟨l', as, c1, c2, c3⟩ := E.ne j kls q
      refine ⟨l', as, c1, c2.go (Sub.of gg) fun _ _ => rfl, fun a ha => ?_⟩
      obtain ⟨b1, b2, b3⟩ := c3 a ha
      have hal : a ≠ l := fun z => b3 i d hi (by rw [z]; exact h1)
      refine ⟨b1, by rw [upd_ne hal]; exact b2, fun k e z => ?_⟩
      rcases set_get? z with ⟨_, _, x⟩ | ⟨_, z⟩
      · cases x
      · exact b3 k e z
theorem En.freeze (E : En K G0 H0 G H σ ρ) {i : Nat} {d : D} (hi : ρ[i]? = some (Sl.ow d)) : ∃ G', En K G0 H0 G' H σ (ρ.set i (Sl.fr d)) := by
  obtain ⟨l, h1, h2, h3, h4⟩ := E.ow i d hi
  obtain ⟨o, ho, ht, hm⟩ := h4.there2
  exact ⟨_, E.frzAs hi h1 (.of ho hm) fun gg => h4.dq (Sub.of gg) fun u hu => by rw [upd_same]; rw [ho] at hu; exact hu⟩
/-- the owned object of slot i is changed -/
theorem En.write (E : En K G0 H0 G H σ ρ) {i : Nat} {d d' : D} {l : Addr} {o : HO} (hi : ρ[i]? = some (Sl.ow d)) (hl : σ[i]? = some (some (V.ref l))) (h : OwnC K G (upd H l o) l d') : En K G0 H0 G (upd H l o) σ (ρ.set i (Sl.ow d')) := by
  obtain ⟨l', h1, h2, h3, h4⟩ := E.ow i d hi
  rw [hl] at h1
  cases h1
  have hil : i < ρ.length := (List.getElem?_eq_some_iff.mp hi).1
  have ghn : GH G (upd H l o) := fun a u r => by
    have ne : a ≠ l := by
      rintro rfl
      rw [h3] at r; cases r
    exact (E.gh a u r).eq (upd_ne ne)
  refine ⟨by rw [List.length_set, E.len], ⟨E.ext.gg, fun a u e => by rw [upd_ne (ne_of_none e h2)]; exact E.ext.hh a u e, ghn, E.ext.own⟩, fun j e q => ?_, fun j e q => ?_, fun j a dd fl q => ?_, fun j k e e' a q q' r r' => ?_, fun j kls q => ?_, E.ned_set (fun _ z => nomatch z)⟩
  · rcases set_get? q with ⟨_, _, x⟩ | ⟨ne, q⟩
    · cases x
    · exact E.fr j e q
  · rcases set_get? q with ⟨rfl, _, x⟩ | ⟨ne, q⟩
    · cases x
      exact ⟨l, hl, h2, h3, h⟩
    · obtain ⟨b, a1, a2, a3, a4⟩ := E.ow j e q
      have hb : b ≠ l := by
        rintro rfl
        exact ne (E.dis j i e d b q hi a1 hl)
      exact ⟨b, a1, a2, a3, a4.ext (Sub.refl G) (upd_ne hb)⟩
  · rcases set_get? q with ⟨_, _, x⟩ | ⟨ne, q⟩
    · cases x
    · exact E.ex j a dd fl q
  · have hx : ∀ {j : Nat} {e : D}, (ρ.set i (Sl.ow d'))[j]? = some (Sl.ow e) → ∃ e', ρ[j]? = some (Sl.ow e') := fun {j e} z => by
      rcases set_get? z with ⟨rfl, _, x⟩ | ⟨ne, z⟩
      · exact ⟨d, hi⟩
      · exact ⟨e, z⟩
    obtain ⟨f, q⟩ := hx q
    obtain ⟨f', q'⟩ := hx q'
    exact E.dis j k f f' a q q' r r'
  · rcases set_get? q with ⟨_, _, x⟩ | ⟨nj, q⟩
    · cases x
    · obtain ⟨l', as, c1, c2, c3⟩ := E.ne j kls q
      refine ⟨l', as, c1, c2.go (Sub.refl G) fun a ha => ?_, fun a ha => ?_⟩
      · have hal : a ≠ l := fun z => (c3 a ha).2.2 i d hi (by rw [z]; exact hl)
        exact upd_ne hal
      · obtain ⟨b1, b2, b3⟩ := c3 a ha
        refine ⟨b1, b2, fun k e z => ?_⟩
        rcases set_get? z with ⟨rfl, _, _⟩ | ⟨_, z⟩
        · exact b3 k d hi
        · exact b3 k e z
/-- a slot is forgotten -/
theorem En.drop (E : En K G0 H0 G H σ ρ) {ρ' : List Sl} (hl : ρ'.length = ρ.length) (h : ∀ (i : Nat) (s : Sl), ρ'[i]? = some s → s = Sl.no ∨ ρ[i]? = some s) : En K G0 H0 G H σ ρ' := by
  have hf : ∀ i d, ρ'[i]? = some (Sl.fr d) → ρ[i]? = some (Sl.fr d) := fun i d e => (h i _ e).elim (fun z => nomatch z) id
  have ho : ∀ i d, ρ'[i]? = some (Sl.ow d) → ρ[i]? = some (Sl.ow d) := fun i d e => (h i _ e).elim (fun z => nomatch z) id
  have hx : ∀ (i : Nat) (a dd : Addr) (fl : List (Str × D)), ρ'[i]? = some (Sl.ex a dd fl) → ρ[i]? = some (Sl.ex a dd fl) := fun i a dd fl e => (h i _ e).elim (fun z => nomatch z) id
  have hk : ∀ (i : Nat) (kls : List (Key × List D)), ρ'[i]? = some (Sl.ne kls) → ρ[i]? = some (Sl.ne kls) := fun i kls e => (h i _ e).elim (fun z => nomatch z) id
  exact ⟨E.len.trans hl.symm, E.ext, fun i d e => E.fr i d (hf i d e), fun i d e => E.ow i d (ho i d e), fun i a dd fl e => E.ex i a dd fl (hx i a dd fl e), fun i j d e l q q' => E.dis i j d e l (ho i d q) (ho j e q'), fun i kls e => (E.ne i kls (hk i kls e)).imp fun l z => z.imp fun as z => ⟨z.1, z.2.1, fun a ha => ⟨(z.2.2 a ha).1, (z.2.2 a ha).2.1, fun j e q => (z.2.2 a ha).2.2 j e (ho j e q)⟩⟩, fun i j x y q q' => E.ned i j x y (hk i x q) (hk j y q')⟩
/-- a slot that is written over without a word -/
theorem En.setX (E : En K G0 H0 G H σ ρ) (i : Nat) (v : Option V) : En K G0 H0 G H (σ.set i v) (ρ.set i Sl.no) := by
  refine ⟨by rw [List.length_set, List.length_set, E.len], E.ext, fun j e q => ?_, fun j e q => ?_, fun j a dd fl q => ?_, fun j k e e' l q q' r r' => ?_, E.ne_set (fun _ z => nomatch z) (fun _ z => nomatch z), E.ned_set (fun _ z => nomatch z)⟩
  · rcases set_get? q with ⟨_, _, x⟩ | ⟨ne, q⟩
    · cases x
    · obtain ⟨u, h1, h2⟩ := E.fr j e q
      exact ⟨u, by rw [List.getElem?_set_ne (Ne.symm ne)]; exact h1, h2⟩
  · rcases set_get? q with ⟨_, _, x⟩ | ⟨ne, q⟩
    · cases x
    · obtain ⟨l, h1, h2⟩ := E.ow j e q
      exact ⟨l, by rw [List.getElem?_set_ne (Ne.symm ne)]; exact h1, h2⟩
  · rcases set_get? q with ⟨_, _, x⟩ | ⟨ne, q⟩
    · cases x
    · obtain ⟨h1, h2⟩ := E.ex j a dd fl q
      exact ⟨by rw [List.getElem?_set_ne (Ne.symm ne)]; exact h1, h2⟩
  · rcases set_get? q with ⟨_, _, x⟩ | ⟨ne, q⟩
    · cases x
    · rcases set_get? q' with ⟨_, _, x⟩ | ⟨ne', q'⟩
      · cases x
      · rw [List.getElem?_set_ne (Ne.symm ne)] at r
        rw [List.getElem?_set_ne (Ne.symm ne')] at r'
        exact E.dis j k e e' l q q' r r'
/-- a caught exception comes into slot i -/
theorem En.setE (E : En K G0 H0 G H σ ρ) {a dd : Addr} {fs : List (Str × V)} {fl : List (Str × D)} (i : Nat) (h : G dd = some (.xd fs)) (hf : DqF K G fs fl) : En K G0 H0 G H (σ.set i (some (.ref a))) (ρ.set i (Sl.ex a dd fl)) := by
  have X := E.setX i (some (.ref a))
  refine ⟨by rw [List.length_set, List.length_set, E.len], E.ext, fun j e q => ?_, fun j e q => ?_, fun j b db gl q => ?_, fun j k e e' l q q' r r' => ?_, E.ne_set (fun _ z => nomatch z) (fun _ z => nomatch z), E.ned_set (fun _ z => nomatch z)⟩
  · rcases set_get? q with ⟨_, _, x⟩ | ⟨ne, q⟩
    · cases x
    · exact X.fr j e (by rw [List.getElem?_set_ne (Ne.symm ne)]; exact q)
  · rcases set_get? q with ⟨_, _, x⟩ | ⟨ne, q⟩
    · cases x
    · exact X.ow j e (by rw [List.getElem?_set_ne (Ne.symm ne)]; exact q)
  · rcases set_get? q with ⟨rfl, hi, x⟩ | ⟨ne, q⟩
    · cases x
      exact ⟨by rw [List.getElem?_set_self (by rw [E.len]; exact hi)], fs, h, hf⟩
    · exact X.ex j b db gl (by rw [List.getElem?_set_ne (Ne.symm ne)]; exact q)
  · rcases set_get? q with ⟨_, _, x⟩ | ⟨ne, q⟩
    · cases x
    · rcases set_get? q' with ⟨_, _, x⟩ | ⟨ne', q'⟩
      · cases x
      · exact X.dis j k e e' l (by rw [List.getElem?_set_ne (Ne.symm ne)]; exact q) (by rw [List.getElem?_set_ne (Ne.symm ne')]; exact q') r r'
end
end DL

/-! DL2: what a reading evaluates to, by data (EV, EVN, ET, EA), what a statement does by data (ST), loops, comprehensions, calls. -/
namespace DL
open PySem L2

theorem En.re {K : PySem.W.Frag} {G0 H0 G H : Hp} {σ : St} {ρ : List Sl} (E : En K G0 H0 G H σ ρ) : En K G H0 G H σ ρ :=
  ⟨E.len, ⟨fun _ _ h => h, fun a o h => (E.ext.hh a o h).imp id (mkd.mono E.ext.gg), E.ext.gh, fun _ _ _ _ h => h⟩, E.fr, E.ow, E.ex, E.dis, E.ne, E.ned⟩
theorem Ext.back {G0 H0 G1 H1 G2 H2 : Hp} (x : Ext G0 H0 G1 H1) (y : Ext G1 H0 G2 H2) : Ext G0 H0 G2 H2 :=
  ⟨fun a o h => y.gg a o (x.gg a o h), fun a o h => (y.hh a o h).imp id (x.mark h), y.gh, fun a o h t n => y.own a o h t (x.own a o h t n)⟩
theorem En.back {K : PySem.W.Frag} {G0 H0 G1 H1 G H : Hp} {σ : St} {ρ : List Sl} (x : Ext G0 H0 G1 H1) (E : En K G1 H0 G H σ ρ) : En K G0 H0 G H σ ρ :=
  ⟨E.len, x.back E.ext, E.fr, E.ow, E.ex, E.dis, E.ne, E.ned⟩

section
variable (K : PySem.W.Frag)
def EV (te : TE) (ρ : List Sl) (d : D) : Prop := ∀ (G0 H0 G H : Hp) (σ : St) (Q : VK), En K G0 H0 G H σ ρ → (∀ v G' H', Ext G H G' H' → Dq K G' v d → Q v H') → te σ H Q
def EVN (te : TE) (ρ : List Sl) (d : D) : Prop := ∀ (G0 H0 G H : Hp) (σ : St) (Q : VK), En K G0 H0 G H σ ρ → (∀ l G' H', Ext G H G' H' → H l = none → G' l = none → OwnC K G' H' l d → Q (.ref l) H') → te σ H Q
def ET (tt : TT) (ρ : List Sl) (b : Bool) : Prop := ∀ (G0 H0 G H : Hp) (σ : St) (Q : Bool → Hp → Prop), En K G0 H0 G H σ ρ → (∀ G' H', Ext G H G' H' → Q b H') → tt σ H Q
def EA (ta : TA) (ρ : List Sl) (ds : List D) : Prop := ∀ (G0 H0 G H : Hp) (σ : St) (Q : List V → Hp → Prop), En K G0 H0 G H σ ρ → (∀ vs G' H', Ext G H G' H' → DqA K G' vs ds → Q vs H') → ta σ H Q
def EO (to : TO) (ρ : List Sl) (o : Option Int) : Prop := ∀ (G0 H0 G H : Hp) (σ : St) (Q : Option Int → Hp → Prop), En K G0 H0 G H σ ρ → (∀ G' H', Ext G H G' H' → Q o H') → to σ H Q
/-- a two-place operation on data; its answer an old or frozen thing | a new object -/
def OD (r : R2) (a b d : D) : Prop := ∀ (x y : V) (G H : Hp) (Q : VK), GH G H → Dq K G x a → Dq K G y b → (∀ v G' H', Ext G H G' H' → Dq K G' v d → Q v H') → r x y H Q
def ON (r : R2) (a b d : D) : Prop := ∀ (x y : V) (G H : Hp) (Q : VK), GH G H → Dq K G x a → Dq K G y b → (∀ l G' H', Ext G H G' H' → H l = none → G' l = none → OwnC K G' H' l d → Q (.ref l) H') → r x y H Q
/-- a call by values -/
def CD (r : List V → Hp → VK → Prop) (ds : List D) (d : D) : Prop := ∀ (xs : List V) (G H : Hp) (Q : VK), GH G H → DqA K G xs ds → (∀ v G' H', Ext G H G' H' → Dq K G' v d → Q v H') → r xs H Q
def CN (r : List V → Hp → VK → Prop) (ds : List D) (d : D) : Prop := ∀ (xs : List V) (G H : Hp) (Q : VK), GH G H → DqA K G xs ds → (∀ l G' H', Ext G H G' H' → H l = none → G' l = none → OwnC K G' H' l d → Q (.ref l) H') → r xs H Q
end

section
variable {K : PySem.W.Frag} {ρ : List Sl} {ta tb te : TE} {tt tu : TT} {d d1 d2 : D}
/-- a new object is frozen at once -/
theorem own_frz {G H G' H' : Hp} {l : Addr} (x : Ext G H G' H') (hH : H l = none) (hG : G' l = none) (h : OwnC K G' H' l d) : ∃ G'', Ext G H G'' H' ∧ Dq K G'' (.ref l) d := by
  obtain ⟨o, ho, ht, hm⟩ := h.there2
  have gg : ∀ a u, G' a = some u → upd G' l o a = some u := fun a u e => by rw [upd_ne (ne_of_none e hG)]; exact e
  refine ⟨upd G' l o, ⟨fun a u e => gg a u (x.gg a u e), x.hh, fun a u r => ?_, fun a u e t n => ?_⟩, h.dq (Sub.of gg) fun u hu => by rw [upd_same]; rw [ho] at hu; exact hu⟩
  · by_cases ha : a = l
    · subst ha
      rw [upd_same] at r
      cases r
      exact .of ho hm
    · rw [upd_ne ha] at r
      exact x.gh a u r
  · rw [upd_ne (ne_of_none e hH)]; exact x.own a u e t n
theorem ev_N (h : EVN K te ρ d) : EV K te ρ d := fun G0 H0 G H σ Q E q => h G0 H0 G H σ Q E fun l G' H' x hH hG ho => by
  obtain ⟨G'', x', hd⟩ := own_frz x hH hG ho
  exact q _ _ _ x' hd
theorem ev_var {i : Nat} (h : ρ[i]? = some (.fr d)) : EV K (tVar i) ρ d := fun G0 H0 G H σ Q E q => by
  obtain ⟨v, h1, h2⟩ := E.fr i d h
  exact ⟨v, h1, q v G H (.refl E.gh) h2⟩
theorem ev_int {i : Int} : EV K (tC (.int i)) ρ (.int i) := fun _ _ G H _ _ E q => q _ G H (.refl E.gh) (.int i)
theorem ev_str {x : Str} : EV K (tC (.str x)) ρ (.str x) := fun _ _ G H _ _ E q => q _ G H (.refl E.gh) (.str x)
theorem ev_bl {b : Bool} : EV K (tC (.bl b)) ρ (.bool b) := fun _ _ G H _ _ E q => q _ G H (.refl E.gh) (.bl b)
theorem ev_non : EV K (tC .non) ρ .none := fun _ _ G H _ _ E q => q _ G H (.refl E.gh) .non
/-- a constant of the module -/
theorem ev_glob {v : V} (h : ∀ G, Dq K G v d) : EV K (tC v) ρ d := fun _ _ G H _ _ E q => q _ G H (.refl E.gh) (h G)
theorem ev_op {r : R2} (ha : EV K ta ρ d1) (hb : EV K tb ρ d2) (ho : OD K r d1 d2 d) : EV K (tOp r ta tb) ρ d := fun G0 H0 G H σ Q E q =>
  ha G0 H0 G H σ _ E fun x G1 H1 e1 h1 => hb G0 H0 G1 H1 σ _ (E.go e1) fun y G2 H2 e2 h2 => ho x y G2 H2 Q e2.gh (h1.mono e2.g) h2 fun v G3 H3 e3 h3 => q v G3 H3 ((e1.trans e2).trans e3) h3
theorem en_op {r : R2} (ha : EV K ta ρ d1) (hb : EV K tb ρ d2) (ho : ON K r d1 d2 d) : EVN K (tOp r ta tb) ρ d := fun G0 H0 G H σ Q E q =>
  ha G0 H0 G H σ _ E fun x G1 H1 e1 h1 => hb G0 H0 G1 H1 σ _ (E.go e1) fun y G2 H2 e2 h2 => ho x y G2 H2 Q e2.gh (h1.mono e2.g) h2 fun l G3 H3 e3 hH hG h3 => by
    refine q l G3 H3 ((e1.trans e2).trans e3) ?_ hG h3
    exact e1.gone (e2.gone hH)
theorem ev_un {r : V → Hp → VK → Prop} (ha : EV K ta ρ d1) (ho : ∀ (x : V) (G H : Hp) (Q : VK), GH G H → Dq K G x d1 → (∀ v G' H', Ext G H G' H' → Dq K G' v d → Q v H') → r x H Q) : EV K (tUn r ta) ρ d := fun G0 H0 G H σ Q E q =>
  ha G0 H0 G H σ _ E fun x G1 H1 e1 h1 => ho x G1 H1 Q e1.gh h1 fun v G3 H3 e3 h3 => q v G3 H3 (e1.trans e3) h3
theorem ev_neg {i : Int} (ha : EV K ta ρ (.int i)) : EV K (tUn (rU fun i => .int (-i)) ta) ρ (.int (-i)) := ev_un ha fun x G H Q g hx q => by
  cases hx
  exact ⟨i, rfl, q _ G H (.refl g) (.int _)⟩
theorem ea_nil : EA K tNil ρ [] := fun _ _ G H _ _ E q => q [] G H (.refl E.gh) .nil
theorem ea_cons {tr : TA} {ds : List D} (h : EV K ta ρ d) (hr : EA K tr ρ ds) : EA K (tCons ta tr) ρ (d :: ds) := fun G0 H0 G H σ Q E q =>
  h G0 H0 G H σ _ E fun x G1 H1 e1 h1 => hr G0 H0 G1 H1 σ _ (E.go e1) fun xs G2 H2 e2 h2 => q _ G2 H2 (e1.trans e2) (.cons (h1.mono e2.g) h2)
theorem ev_cb {r : List V → Hp → VK → Prop} {t : TA} {ds : List D} (h : EA K t ρ ds) (hc : CD K r ds d) : EV K (tCB r t) ρ d := fun G0 H0 G H σ Q E q =>
  h G0 H0 G H σ _ E fun xs G1 H1 e1 h1 => hc xs G1 H1 Q e1.gh h1 fun v G2 H2 e2 h2 => q v G2 H2 (e1.trans e2) h2
theorem en_cb {r : List V → Hp → VK → Prop} {t : TA} {ds : List D} (h : EA K t ρ ds) (hc : CN K r ds d) : EVN K (tCB r t) ρ d := fun G0 H0 G H σ Q E q =>
  h G0 H0 G H σ _ E fun xs G1 H1 e1 h1 => hc xs G1 H1 Q e1.gh h1 fun l G2 H2 e2 hH hG h2 => by
    refine q l G2 H2 (e1.trans e2) ?_ hG h2
    exact e1.gone hH
theorem ev_tup {t : TA} {ds : List D} (h : EA K t ρ ds) (hl : ds.length ≤ sizeLine) : EV K (tTup t) ρ (.tuple ds) := fun G0 H0 G H σ Q E q =>
  h G0 H0 G H σ _ E fun xs G1 H1 e1 h1 => ⟨by rw [h1.length]; exact hl, fun p hp => by
    have x := Ext.new (o := .tup xs) e1.gh hp
    exact q _ _ _ (e1.trans x) (.tup (SqT.of upd_same) (h1.mono x.g))⟩
theorem en_lst {t : TA} {ds : List D} (h : EA K t ρ ds) (hl : ds.length ≤ sizeLine) : EVN K (tLst t) ρ (.list ds) := fun G0 H0 G H σ Q E q =>
  h G0 H0 G H σ _ E fun xs G1 H1 e1 h1 => ⟨by rw [h1.length]; exact hl, fun p hp => by
    have x := Ext.fresh (o := .lst xs) e1.gh hp
    refine q _ _ _ (e1.trans x) ?_ (e1.gh.none hp) (.lst upd_same h1)
    exact e1.gone hp⟩

/-! ### tests -/
theorem et_test {b : Bool} (h : EV K te ρ (.bool b)) : ET K (tTest te) ρ b := fun G0 H0 G H σ Q E q => h G0 H0 G H σ _ E fun v G1 H1 e1 h1 => by
  cases h1
  exact ⟨b, rfl, q G1 H1 e1⟩
theorem et_B {b : Bool} (h : EV K te ρ (.bool b)) : ET K (tB te) ρ b := fun G0 H0 G H σ Q E q => h G0 H0 G H σ _ E fun v G1 H1 e1 h1 => by
  cases h1
  exact ⟨b, rfl, q G1 H1 e1⟩
theorem et_not {b : Bool} (h : ET K tt ρ b) : ET K (tNot tt) ρ (!b) := fun G0 H0 G H σ Q E q => h G0 H0 G H σ _ E fun G1 H1 e1 => q G1 H1 e1
theorem et_and {a b : Bool} (h : ET K tt ρ a) (h2 : a = true → ET K tu ρ b) : ET K (tAnd tt tu) ρ (a && b) := fun G0 H0 G H σ Q E q => h G0 H0 G H σ _ E fun G1 H1 e1 => by
  cases a with
  | true => exact h2 rfl G0 H0 G1 H1 σ Q (E.go e1) fun G2 H2 e2 => q G2 H2 (e1.trans e2)
  | false => exact q G1 H1 e1
theorem et_or {a b : Bool} (h : ET K tt ρ a) (h2 : a = false → ET K tu ρ b) : ET K (tOr tt tu) ρ (a || b) := fun G0 H0 G H σ Q E q => h G0 H0 G H σ _ E fun G1 H1 e1 => by
  cases a with
  | false => exact h2 rfl G0 H0 G1 H1 σ Q (E.go e1) fun G2 H2 e2 => q G2 H2 (e1.trans e2)
  | true => exact q G1 H1 e1
theorem et_is {a b : Bool} (h : ET K tt ρ a) (e : a = b) : ET K tt ρ b := e ▸ h
theorem ev_is {e : D} (h : EV K te ρ d) (q : d = e) : EV K te ρ e := q ▸ h
theorem en_is {e : D} (h : EVN K te ρ d) (q : d = e) : EVN K te ρ e := q ▸ h
theorem ea_is {ta : TA} {ds es : List D} (h : EA K ta ρ ds) (q : ds = es) : EA K ta ρ es := q ▸ h
theorem ev_andV {a b : Bool} (h1 : EV K ta ρ (.bool a)) (h2 : a = true → EV K tb ρ (.bool b)) : EV K (tAndV ta tb) ρ (.bool (a && b)) := fun G0 H0 G H σ Q E q => h1 G0 H0 G H σ _ E fun v G1 H1 e1 z => by
  cases z
  refine ⟨a, rfl, ?_⟩
  cases a with
  | true => exact h2 rfl G0 H0 G1 H1 σ Q (E.go e1) fun v G2 H2 e2 => q v G2 H2 (e1.trans e2)
  | false => exact q _ G1 H1 e1 (.bl false)
theorem ev_orV {a b : Bool} (h1 : EV K ta ρ (.bool a)) (h2 : a = false → EV K tb ρ (.bool b)) : EV K (tOrV ta tb) ρ (.bool (a || b)) := fun G0 H0 G H σ Q E q => h1 G0 H0 G H σ _ E fun v G1 H1 e1 z => by
  cases z
  refine ⟨a, rfl, ?_⟩
  cases a with
  | false => exact h2 rfl G0 H0 G1 H1 σ Q (E.go e1) fun v G2 H2 e2 => q v G2 H2 (e1.trans e2)
  | true => exact q _ G1 H1 e1 (.bl true)
theorem ev_notV {a : Bool} (h1 : EV K ta ρ (.bool a)) : EV K (tNotV ta) ρ (.bool (!a)) := fun G0 H0 G H σ Q E q => h1 G0 H0 G H σ _ E fun v G1 H1 e1 z => by
  cases z
  exact ⟨a, rfl, q _ G1 H1 e1 (.bl _)⟩
theorem ev_if {b : Bool} (h : ET K tt ρ b) (h1 : b = true → EV K ta ρ d) (h2 : b = false → EV K tb ρ d) : EV K (tIf tt ta tb) ρ d := fun G0 H0 G H σ Q E q => h G0 H0 G H σ _ E fun G1 H1 e1 => by
  cases b with
  | true => exact h1 rfl G0 H0 G1 H1 σ Q (E.go e1) fun v G2 H2 e2 => q v G2 H2 (e1.trans e2)
  | false => exact h2 rfl G0 H0 G1 H1 σ Q (E.go e1) fun v G2 H2 e2 => q v G2 H2 (e1.trans e2)
/-- by cases, the answer told by the test -/
theorem ev_ite {b : Bool} (h : ET K tt ρ b) (h1 : b = true → EV K ta ρ d1) (h2 : b = false → EV K tb ρ d2) : EV K (tIf tt ta tb) ρ (if b = true then d1 else d2) := by
  cases b with
  | true => exact ev_if h (fun _ => h1 rfl) (fun z => nomatch z)
  | false => exact ev_if h (fun z => nomatch z) (fun _ => h2 rfl)
end

/-! ### statements -/
inductive Oc where
  | nx (ρ : List Sl)
  | rt (d : D)
  | bk (ρ : List Sl)
  | ct (ρ : List Sl)
  /-- an exception of the class at C leaves, with these fields -/
  | ex (C : Addr) (fl : List (Str × D))
/-- the ends keep P -/
structure Fin (K : PySem.W.Frag) (Ex : XK) (G0 H0 : Hp) (P : Oc → Prop) (D : Ends) : Prop where
  nx : ∀ ρ' σ' G' H', P (.nx ρ') → En K G0 H0 G' H' σ' ρ' → D.nx σ' H'
  rt : ∀ d v G' H', P (.rt d) → Ext G0 H0 G' H' → Dq K G' v d → D.rt v H'
  bk : ∀ ρ' σ' G' H', P (.bk ρ') → En K G0 H0 G' H' σ' ρ' → D.bk σ' H'
  ct : ∀ ρ' σ' G' H', P (.ct ρ') → En K G0 H0 G' H' σ' ρ' → D.ct σ' H'
  ex : ∀ C fl dd fs G' H', P (.ex C fl) → Ext G0 H0 G' H' → G' dd = some (.xd fs) → DqF K G' fs fl → Ex (.ref C) (some dd) H'
def ST (K : PySem.W.Frag) (Ex : XK) (ts : TS) (ρ : List Sl) (P : Oc → Prop) : Prop := ∀ (G0 H0 G H : Hp) (σ : St) (D : Ends), En K G0 H0 G H σ ρ → Fin K Ex G0 H0 P D → ts D σ H
section
variable {K : PySem.W.Frag} {Ex : XK} {ρ : List Sl} {ta tb te : TE} {tt tu : TT} {d d1 d2 : D} {t u : TS} {P P' : Oc → Prop}
theorem Fin.mono {G0 H0 : Hp} {D : Ends} (f : Fin K Ex G0 H0 P' D) (k : ∀ o, P o → P' o) : Fin K Ex G0 H0 P D :=
  ⟨fun _ _ _ _ p => f.nx _ _ _ _ (k _ p), fun _ _ _ _ p => f.rt _ _ _ _ (k _ p), fun _ _ _ _ p => f.bk _ _ _ _ (k _ p), fun _ _ _ _ p => f.ct _ _ _ _ (k _ p), fun _ _ _ _ _ _ p => f.ex _ _ _ _ _ _ (k _ p)⟩
theorem ST.mono (h : ST K Ex t ρ P) (k : ∀ o, P o → P' o) : ST K Ex t ρ P' := fun G0 H0 G H σ D E f => h G0 H0 G H σ D E (f.mono k)
def seqP (K : PySem.W.Frag) (Ex : XK) (u : TS) (P : Oc → Prop) : Oc → Prop
  | .nx ρ => ST K Ex u ρ P
  | o => P o
theorem st_seq (h : ST K Ex t ρ (seqP K Ex u P)) : ST K Ex (tSeq t u) ρ P := fun G0 H0 G H σ D E f =>
  h G0 H0 G H σ { D with nx := u D } E ⟨fun ρ' σ' G' H' p E' => p G0 H0 G' H' σ' D E' f, f.rt, f.bk, f.ct, f.ex⟩
theorem st_next (h : P (.nx ρ)) : ST K Ex tNext ρ P := fun G0 H0 G H σ D E f => f.nx ρ σ G H h E
theorem st_break (h : P (.bk ρ)) : ST K Ex tBreak ρ P := fun G0 H0 G H σ D E f => f.bk ρ σ G H h E
theorem st_cont (h : P (.ct ρ)) : ST K Ex tCont ρ P := fun G0 H0 G H σ D E f => f.ct ρ σ G H h E
theorem st_asg {i : Nat} (h : EV K te ρ d) (q : P (.nx (ρ.set i (.fr d)))) : ST K Ex (tAsg te (gName i)) ρ P := fun G0 H0 G H σ D E f =>
  h G0 H0 G H σ _ E fun v G' H' x hd => f.nx _ _ G' H' q ((E.go x).setF i hd)
theorem st_asgN {i : Nat} (h : EVN K te ρ d) (q : P (.nx (ρ.set i (.ow d)))) : ST K Ex (tAsg te (gName i)) ρ P := fun G0 H0 G H σ D E f =>
  h G0 H0 G H σ _ E fun l G' H' x hH hG ho => f.nx _ _ G' H' q (E.setN i x hH hG ho)
theorem st_drop (h : EV K te ρ d) (q : P (.nx ρ)) : ST K Ex (tDrop te) ρ P := fun G0 H0 G H σ D E f =>
  h G0 H0 G H σ _ E fun v G' H' x hd => f.nx _ _ G' H' q (E.go x)
theorem st_ret (h : EV K te ρ d) (q : P (.rt d)) : ST K Ex (tRet te) ρ P := fun G0 H0 G H σ D E f =>
  h G0 H0 G H σ _ E fun v G' H' x hd => f.rt d v G' H' q (E.go x).ext hd
theorem st_retN (q : P (.rt .none)) : ST K Ex tRetN ρ P := fun G0 H0 G H σ D E f => f.rt .none .non G H q E.ext .non
theorem st_if {b : Bool} (h : ET K tt ρ b) (h1 : b = true → ST K Ex t ρ P) (h2 : b = false → ST K Ex u ρ P) : ST K Ex (tIfS tt t u) ρ P := fun G0 H0 G H σ D E f =>
  h G0 H0 G H σ _ E fun G' H' x => by
    cases b with
    | true => exact h1 rfl G0 H0 G' H' σ D (E.go x) f
    | false => exact h2 rfl G0 H0 G' H' σ D (E.go x) f
theorem st_yes (h : ET K tt ρ true) (h1 : ST K Ex t ρ P) : ST K Ex (tIfS tt t u) ρ P := st_if h (fun _ => h1) (fun z => nomatch z)
theorem st_no (h : ET K tt ρ false) (h1 : ST K Ex u ρ P) : ST K Ex (tIfS tt t u) ρ P := st_if h (fun z => nomatch z) (fun _ => h1)
/-- the owned list of slot i is frozen from here on -/
theorem st_frz {i : Nat} (hi : ρ[i]? = some (.ow d)) (h : ST K Ex t (ρ.set i (.fr d)) P) : ST K Ex t ρ P := fun G0 H0 G H σ D E f => by
  obtain ⟨G', E'⟩ := E.freeze hi
  exact h G0 H0 G' H σ D E' f
theorem st_forget {ρ' : List Sl} (hl : ρ'.length = ρ.length) (hf : ∀ (i : Nat) (s : Sl), ρ'[i]? = some s → s = Sl.no ∨ ρ[i]? = some s) (h : ST K Ex t ρ' P) : ST K Ex t ρ P := fun G0 H0 G H σ D E f =>
  h G0 H0 G H σ D (E.drop hl hf) f

/-! ### targets -/
/-- the slots ts take what d is made of; ρ' behind it -/
def GT (K : PySem.W.Frag) (g : TG) (ρ : List Sl) (d : D) (ρ' : List Sl) (ts : List Nat) : Prop := ∀ (G0 H0 G H : Hp) (σ : St) (v : V) (Q : St → Hp → Prop), En K G0 H0 G H σ ρ → Dq K G v d →
  (∀ σ', En K G0 H0 G H σ' ρ' → σ'.length = σ.length → (∀ k, k ∉ ts → σ'[k]? = σ[k]?) → Q σ' H) → g v σ H Q
def GTs (K : PySem.W.Frag) (g : TGs) (ρ : List Sl) (ds : List D) (ρ' : List Sl) (ts : List Nat) : Prop := ∀ (G0 H0 G H : Hp) (σ : St) (vs : List V) (Q : St → Hp → Prop), En K G0 H0 G H σ ρ → DqA K G vs ds →
  (∀ σ', En K G0 H0 G H σ' ρ' → σ'.length = σ.length → (∀ k, k ∉ ts → σ'[k]? = σ[k]?) → Q σ' H) → g vs σ H Q
theorem gt_name {i : Nat} : GT K (gName i) ρ d (ρ.set i (.fr d)) [i] := fun G0 H0 G H σ v Q E hd q =>
  q _ (E.setF i hd) (by rw [List.length_set]) fun k hk => List.getElem?_set_ne (by simpa using fun e => hk (by simp [e]))
theorem gts_nil : GTs K gNil ρ [] ρ [] := fun G0 H0 G H σ vs Q E hd q => by
  cases hd
  exact ⟨rfl, q σ E rfl fun _ _ => rfl⟩
theorem gts_cons {g : TG} {gs : TGs} {ρ1 ρ2 : List Sl} {ds : List D} {ts us : List Nat} (h : GT K g ρ d ρ1 ts) (h2 : GTs K gs ρ1 ds ρ2 us) : GTs K (gCons g gs) ρ (d :: ds) ρ2 (ts ++ us) := fun G0 H0 G H σ vs Q E hd q => by
  cases hd with
  | cons a b => exact ⟨_, _, rfl, h G0 H0 G H σ _ _ E a fun σ1 E1 l1 k1 => h2 G0 H0 G H σ1 _ Q E1 b fun σ2 E2 l2 k2 => q σ2 E2 (l2.trans l1) fun k hk => (k2 k fun z => hk (List.mem_append_right _ z)).trans (k1 k fun z => hk (List.mem_append_left _ z))⟩
theorem gt_tup {gs : TGs} {ρ' : List Sl} {ds : List D} {ts : List Nat} {n : Nat} (hn : ds.length = n) (h : GTs K gs ρ ds ρ' ts) : GT K (gTup K n gs) ρ (.tuple ds) ρ' ts := fun G0 H0 G H σ v Q E hd q => by
  cases hd with
  | tup a b => exact ⟨_, _, rfl, E.gh.t a, b.length.trans hn, h G0 H0 G H σ _ Q E b q⟩
theorem st_asgG {g : TG} {ρ' : List Sl} {ts : List Nat} (h : EV K te ρ d) (hg : GT K g ρ d ρ' ts) (q : P (.nx ρ')) : ST K Ex (tAsg te g) ρ P := fun G0 H0 G H σ D E f =>
  h G0 H0 G H σ _ E fun v G' H' x hd => hg G0 H0 G' H' σ v _ (E.go x) hd fun σ' E' _ _ => f.nx _ _ G' H' q E'

/-! ### what is walked -/
def EI (K : PySem.W.Frag) (wi : TI) (ρ : List Sl) (n : Nat) (item : Nat → D) : Prop := ∀ (G0 H0 G H : Hp) (σ : St) (R : It → Hp → Prop), En K G0 H0 G H σ ρ →
  (∀ J G' H' Gd Y, Ext G H G' H' → Walk J n Gd Y → (∀ G2 H2, (∀ a o, G' a = some o → G2 a = some o) → GH G2 H2 → Gd H2) →
    (∀ i G2 H2 x H3, i < n → (∀ a o, G' a = some o → G2 a = some o) → GH G2 H2 → Y i H2 x H3 → ∃ G3, Ext G2 H2 G3 H3 ∧ Dq K G3 x (item i)) → R J H') → wi σ H R
/-- the ends of a loop's turn -/
def loopP (Q : List Sl → Prop) (P : Oc → Prop) : Oc → Prop
  | .nx ρ => Q ρ
  | .ct ρ => Q ρ
  | .bk ρ => P (.nx ρ)
  | .rt d => P (.rt d)
  | .ex C fl => P (.ex C fl)
theorem st_for {wi : TI} {g : TG} {n : Nat} {item : Nat → D} (hi : EI K wi ρ n item) (I : Nat → List Sl → Prop) (h0 : I 0 ρ)
    (hs : ∀ i ρ1, i < n → I i ρ1 → ∃ ρ2 ts, GT K g ρ1 (item i) ρ2 ts ∧ ST K Ex t ρ2 (loopP (I (i + 1)) P))
    (hd : ∀ ρ1, I n ρ1 → P (.nx ρ1)) : ST K Ex (tFor wi g t) ρ P := fun G0 H0 G H σ D E f =>
  hi G0 H0 G H σ _ E fun J G1 H1 Gd Y x w hG hY => by
    have E1 := E.go x
    refine for_it w (fun i σ' H' => ∃ G' ρ', En K G1 H0 G' H' σ' ρ' ∧ I i ρ') ⟨G1, ρ, E1.re, h0⟩ (fun i σ' H' _ ⟨G', ρ', E', _⟩ => hG G' H' E'.ext.gg E'.gh) (fun i y σ' H' H3 hi ⟨G', ρ', E', p⟩ hy => ?_) (fun σ' H' ⟨G', ρ', E', p⟩ => f.nx ρ' σ' G' H' (hd ρ' p) (E'.back E1.ext))
    obtain ⟨G3, x3, hdq⟩ := hY i G' H' y H3 hi E'.ext.gg E'.gh hy
    obtain ⟨ρ2, ts, hg, hb⟩ := hs i ρ' hi p
    exact hg G1 H0 G3 H3 σ' y _ (E'.go x3) hdq fun σ2 E2 _ _ => hb G1 H0 G3 H3 σ2 _ E2 ⟨fun ρ4 σ4 G4 H4 p4 E4 => ⟨G4, ρ4, E4, p4⟩,
      fun d v G4 H4 p4 x4 hd4 => f.rt d v G4 H4 p4 (E1.ext.back x4) hd4, fun ρ4 σ4 G4 H4 p4 E4 => f.nx ρ4 σ4 G4 H4 p4 (E4.back E1.ext), fun ρ4 σ4 G4 H4 p4 E4 => ⟨G4, ρ4, E4, p4⟩,
      fun C fl dd fs G4 H4 p4 x4 h1 h2 => f.ex C fl dd fs G4 H4 p4 (E1.ext.back x4) h1 h2⟩
theorem st_while {I : Nat → List Sl → Prop} (m : Nat) (h0 : I m ρ)
    (hs : ∀ m ρ1, I m ρ1 → ∃ b, ET K tt ρ1 b ∧ (b = true → ST K Ex t ρ1 (loopP (fun ρ3 => ∃ m', m' < m ∧ I m' ρ3) P)) ∧ (b = false → P (.nx ρ1))) : ST K Ex (tWhile tt t) ρ P := fun G0 H0 G H σ D E f => by
  refine ⟨fun m σ' H' => ∃ G' ρ', En K G0 H0 G' H' σ' ρ' ∧ I m ρ', ⟨m, G, ρ, E, h0⟩, fun m σ' H' ⟨G', ρ', E', p⟩ => ?_⟩
  obtain ⟨b, hb, h1, h2⟩ := hs m ρ' p
  refine hb G0 H0 G' H' σ' _ E' fun G2 H2 x => ?_
  cases b with
  | false => exact f.nx ρ' σ' G2 H2 (h2 rfl) (E'.go x)
  | true =>
    refine ⟨fun σ3 H3 => ∃ m', m' < m ∧ ∃ G3 ρ3, En K G0 H0 G3 H3 σ3 ρ3 ∧ I m' ρ3, fun σ3 H3 ⟨m', lt, q⟩ => ⟨m', lt, q⟩, ?_⟩
    exact h1 rfl G0 H0 G2 H2 σ' _ (E'.go x) ⟨fun ρ4 σ4 G4 H4 ⟨m', lt, p4⟩ E4 => ⟨m', lt, G4, ρ4, E4, p4⟩, f.rt, fun ρ4 σ4 G4 H4 p4 E4 => f.nx ρ4 σ4 G4 H4 p4 E4, fun ρ4 σ4 G4 H4 ⟨m', lt, p4⟩ E4 => ⟨m', lt, G4, ρ4, E4, p4⟩, f.ex⟩
end
end DL

/-! DL3: operators, comparisons, subscripts, built-ins, by data. -/
namespace DL
open PySem L2

/-! ### + -/
def rAddU (K : PySem.W.Frag) : R2 := fun x y H Q => rI0 (fun i j => .int (i + j)) x y H Q ∨ (fun x y H Q => (∃ i j, x = .str i ∧ y = .str j ∧ i.length + j.length ≤ sizeLine ∧ Q (.str (i ++ j)) H) ∨ (fun x y H Q => rCat x y H Q ∨ rCatA K x y H Q) x y H Q) x y H Q
theorem op_addU {X : Cx} : OpR X (binaryOp .Add) (rAddU X.K) := op_add.or (op_add_str.or (op_cat.or op_catA))
section
variable {K : PySem.W.Frag} {ρ : List Sl} {ta tb te : TE} {i j : Int}
theorem od_addI : OD K (rAddU K) (.int i) (.int j) (.int (i + j)) := fun x y G H Q g hx hy q => by
  cases hx; cases hy
  exact .inl ⟨i, j, rfl, rfl, q _ G H (.refl g) (.int _)⟩
theorem od_addS {a b : Str} (h : a.length + b.length ≤ sizeLine) : OD K (rAddU K) (.str a) (.str b) (.str (a ++ b)) := fun x y G H Q g hx hy q => by
  cases hx; cases hy
  exact .inr (.inl ⟨a, b, rfl, rfl, h, q _ G H (.refl g) (.str _)⟩)
theorem on_addL {a b : List D} (h : a.length + b.length ≤ sizeLine) : ON K (rAddU K) (.list a) (.list b) (.list (a ++ b)) := fun x y G H Q g hx hy q => by
  cases hx with
  | lst ha ra => cases hy with
    | lst hb rb =>
      refine .inr (.inr (.inl ⟨_, _, _, _, rfl, rfl, g.lst ha, g.lst hb, by rw [ra.length, rb.length]; exact h, fun p hp => ?_⟩))
      exact q p G _ (.fresh g hp) hp (g.none hp) (.lst upd_same (ra.append rb))
theorem od_addT {a b : List D} (h : a.length + b.length ≤ sizeLine) : OD K (rAddU K) (.tuple a) (.tuple b) (.tuple (a ++ b)) := fun x y G H Q g hx hy q => by
  cases hx with
  | tup ha ra => cases hy with
    | tup hb rb =>
      refine .inr (.inr (.inr ⟨_, _, _, _, rfl, rfl, g.t ha, g.t hb, by rw [ra.length, rb.length]; exact h, fun e => ?_, fun n e => ?_, fun n1 n2 p hp => ?_⟩))
      · subst e
        cases ra
        exact q _ G H (.refl g) (.tup hb rb)
      · subst e
        cases rb
        rw [List.append_nil] at q
        exact q _ G H (.refl g) (.tup ha ra)
      · have rr := ra.append rb
        exact q _ _ _ (Ext.new g hp) (.tup (SqT.of upd_same) (rr.mono (Ext.new g hp).g))
/-! ### -, *, //, %, ** -/
abbrev rSubU : R2 := rI0 fun i j => .int (i - j)
theorem od_sub : OD K rSubU (.int i) (.int j) (.int (i - j)) := fun x y G H Q g hx hy q => by
  cases hx; cases hy
  exact ⟨i, j, rfl, rfl, q _ G H (.refl g) (.int _)⟩
abbrev rModU : R2 := rI (fun _ j => 0 < j) fun i j => .int (i % j)
theorem od_mod (h : 0 < j) : OD K rModU (.int i) (.int j) (.int (i % j)) := fun x y G H Q g hx hy q => by
  cases hx; cases hy
  exact ⟨i, j, rfl, rfl, h, q _ G H (.refl g) (.int _)⟩
abbrev rDivU : R2 := rI CDiv fun i j => .int (i / j)
theorem od_div (h : 0 < j ∧ j < 1073741824) : OD K rDivU (.int i) (.int j) (.int (i / j)) := fun x y G H Q g hx hy q => by
  cases hx; cases hy
  exact ⟨i, j, rfl, rfl, h, q _ G H (.refl g) (.int _)⟩
abbrev rPowU : R2 := rI CPow fun i j => .int (i ^ j.toNat)
theorem od_pow (h : 0 ≤ j ∧ j ≤ 1000000 ∧ i.natAbs < 2 ^ 64) : OD K rPowU (.int i) (.int j) (.int (i ^ j.toNat)) := fun x y G H Q g hx hy q => by
  cases hx; cases hy
  exact ⟨i, j, rfl, rfl, h, q _ G H (.refl g) (.int _)⟩
/-- k times the text -/
def repS (z : Str) (k : Int) : Str := ⟨(List.replicate k.toNat z.cps.toList).flatten.toArray⟩
theorem foldl_reps (a : List Nat) : ∀ (m : Nat) (b : List Nat), List.foldl (fun x1 x2 => x1 ++ x2) b.toArray (List.replicate m a.toArray) = (b ++ (List.replicate m a).flatten).toArray
  | 0, b => by simp
  | m + 1, b => by
    rw [List.replicate_succ, List.foldl_cons]
    have e : b.toArray ++ a.toArray = (b ++ a).toArray := by simp
    rw [e, foldl_reps a m (b ++ a), List.replicate_succ, List.flatten_cons, List.append_assoc]
def rMulS : R2 := fun x y H Q => ∃ z k, x = .str z ∧ y = .int k ∧ -(2 ^ 63) ≤ k ∧ k < 2 ^ 63 ∧ z.length * k.toNat ≤ sizeLine ∧ Q (.str (repS z k)) H
theorem op_mulS {X : Cx} : OpR X (binaryOp .Mult) rMulS := by
  intro pins s σ H x y v u Q I rx ry h
  obtain ⟨z, k, rfl, rfl, h1, h2, h3, q⟩ := h
  obtain ⟨t, rfl⟩ := rx
  obtain ⟨t', rfl⟩ := ry
  have hs : (sizeLine : Nat) = 16777216 := sizeLine_eq
  refine PySem.P.mul_str ?_ ?_ ?_ ?_
  · rw [decide_eq_false (by omega), decide_eq_false (by omega)]; rfl
  · intro a b c
    have hk : 1 ≤ k := by omega
    have hz : z.length ≠ 0 := by
      intro e
      rw [e] at b
      simp at b
    have h4 : (z.length : Int) * k ≤ 16777216 := by
      have : ((z.length * k.toNat : Nat) : Int) ≤ 16777216 := by omega
      rw [Int.natCast_mul] at this
      have e : ((k.toNat : Nat) : Int) = k := by omega
      rw [e] at this
      exact this
    have h5 : (z.length : Int) ≤ (2 ^ 63 - 1) / k := by
      rw [Int.le_ediv_iff_mul_le (by omega)]
      omega
    omega
  · intro a b
    unfold PySem.Builtin.Str.tooLong
    rw [sizeLine_eq] at h3
    simp only [decide_eq_false_iff_not, gt_iff_lt, Nat.not_lt, sizeLine_eq]
    omega
  · by_cases a : k < 1
    · rw [if_pos a]
      have e : repS z k = Str.empty := by
        unfold repS
        have : k.toNat = 0 := by omega
        rw [this]
        rfl
      rw [e] at q
      exact ⟨by decide, .str _, H, I.tok _, ⟨_, rfl⟩, q⟩
    · rw [if_neg a]
      by_cases b : (k == 1 || z.length == 0) = true
      · rw [if_pos b]
        have e : repS z k = z := by
          unfold repS
          cases z with
          | mk cps =>
          rcases Bool.or_eq_true_iff.mp b with b | b
          · have : k.toNat = 1 := by
              have := eq_of_beq b
              omega
            rw [this]
            simp
          · have e : cps.size = 0 := eq_of_beq b
            have e2 : cps = #[] := Array.eq_empty_of_size_eq_zero e
            subst e2
            simp
        rw [e] at q
        exact ⟨.str z, H, I, ⟨_, rfl⟩, q⟩
      · rw [if_neg b]
        have e : repS z k = ⟨(List.replicate k.toNat z.cps).foldl (· ++ ·) #[]⟩ := by
          unfold repS
          congr 1
          have := foldl_reps z.cps.toList k.toNat []
          rw [List.nil_append] at this
          rw [← this]
        rw [e] at q
        refine ⟨?_, .str _, H, I.tok _, ⟨_, rfl⟩, q⟩
        have : (repS z k).length ≤ sizeLine := by
          unfold repS Str.length
          rw [List.size_toArray]
          have : ∀ m : Nat, ((List.replicate m z.cps.toList).flatten).length = m * z.cps.toList.length := fun m => by
            induction m with
            | zero => simp
            | succ m ih => rw [List.replicate_succ, List.flatten_cons, List.length_append, ih, Nat.succ_mul]; omega
          rw [this, Nat.mul_comm]
          exact h3
        rw [e] at this
        exact this
end
end DL

/-! DL4: *, comparisons, in, subscripts, slices, len, isinstance, join, index, int, iteration, comprehensions. -/
namespace DL
open PySem L2

def rMulU : R2 := fun x y H Q => rI CMul (fun i j => .int (i * j)) x y H Q ∨ (fun x y H Q => rMulS x y H Q ∨ rRep x y H Q) x y H Q
theorem op_mulU {X : Cx} : OpR X (binaryOp .Mult) rMulU := op_mul.or (op_mulS.or op_rep)
section
variable {K : PySem.W.Frag} {ρ : List Sl} {ta tb te : TE} {i j : Int} {d d1 d2 : D}
theorem od_mulI (h : CMul i j) : OD K rMulU (.int i) (.int j) (.int (i * j)) := fun x y G H Q g hx hy q => by
  cases hx; cases hy
  exact .inl ⟨i, j, rfl, rfl, h, q _ G H (.refl g) (.int _)⟩
theorem od_mulS {z : Str} (h1 : -(2 ^ 63) ≤ j) (h2 : j < 2 ^ 63) (h : z.length * j.toNat ≤ sizeLine) : OD K rMulU (.str z) (.int j) (.str (repS z j)) := fun x y G H Q g hx hy q => by
  cases hx; cases hy
  exact .inr (.inl ⟨z, j, rfl, rfl, h1, h2, h, q _ G H (.refl g) (.str _)⟩)
theorem DqA.rep {G : Hp} {vs : List V} {ds : List D} (h : DqA K G vs ds) : ∀ m : Nat, DqA K G (List.replicate m vs).flatten (List.replicate m ds).flatten
  | 0 => .nil
  | m + 1 => by
    rw [List.replicate_succ, List.replicate_succ, List.flatten_cons, List.flatten_cons]
    exact h.append (DqA.rep h m)
theorem on_mulL {ds : List D} (h1 : -(2 ^ 63) ≤ j) (h2 : j < 2 ^ 63) (h : ds.length * j.toNat ≤ sizeLine) : ON K rMulU (.list ds) (.int j) (.list (List.replicate j.toNat ds).flatten) := fun x y G H Q g hx hy q => by
  cases hy
  cases hx with
  | lst ha ra =>
    refine .inr (.inr ⟨_, _, _, rfl, rfl, g.lst ha, h1, h2, by rw [ra.length]; exact h, fun p hp => ?_⟩)
    exact q p G _ (.fresh g hp) hp (g.none hp) (.lst upd_same (ra.rep _))

/-! ### comparisons -/
def rCmpU (p : Int → Int → Bool) (s : List Nat → List Nat → Bool) : R2 := fun x y H Q => rI0 (fun i j => .bl (p i j)) x y H Q ∨ (∃ a b, x = .str a ∧ y = .str b ∧ Q (.bl (s a.cps.toList b.cps.toList)) H)
abbrev rLtU : R2 := rCmpU (fun i j => decide (i < j)) fun a b => decide (a < b)
abbrev rLeU : R2 := rCmpU (fun i j => decide (i ≤ j)) fun a b => !decide (b < a)
abbrev rGtU : R2 := rCmpU (fun i j => decide (j < i)) fun a b => decide (b < a)
abbrev rGeU : R2 := rCmpU (fun i j => decide (j ≤ i)) fun a b => !decide (a < b)
theorem op_ltU {X : Cx} : OpR X (compareOp .Lt) rLtU := op_lt.or op_lt_str
theorem op_leU {X : Cx} : OpR X (compareOp .LtE) rLeU := op_le.or op_le_str
theorem op_gtU {X : Cx} : OpR X (compareOp .Gt) rGtU := op_gt.or op_gt_str
theorem op_geU {X : Cx} : OpR X (compareOp .GtE) rGeU := op_ge.or op_ge_str
theorem od_cmpI {p : Int → Int → Bool} {s : List Nat → List Nat → Bool} : OD K (rCmpU p s) (.int i) (.int j) (.bool (p i j)) := fun x y G H Q g hx hy q => by
  cases hx; cases hy
  exact .inl ⟨i, j, rfl, rfl, q _ G H (.refl g) (.bl _)⟩
theorem od_cmpS {p : Int → Int → Bool} {s : List Nat → List Nat → Bool} {a b : Str} : OD K (rCmpU p s) (.str a) (.str b) (.bool (s a.cps.toList b.cps.toList)) := fun x y G H Q g hx hy q => by
  cases hx; cases hy
  exact .inr ⟨a, b, rfl, rfl, q _ G H (.refl g) (.bl _)⟩
/-! data without dicts, as the library's == reads it -/
mutual
theorem canLay_dp {K : PySem.W.Frag} {G H : Hp} (g : GH G H) : ∀ (d : D) (v : V), d.canLay0 = true → Dq K G v d → Dp K H v d
  | .none, _, _, h => by cases h; exact .non
  | .bool b, _, _, h => by cases h; exact .bl b
  | .int i, _, _, h => by cases h; exact .int i
  | .str s, _, _, h => by cases h; exact .str s
  | .list ds, _, c, h => by cases h with | lst a b => exact .lst (SqL.of (g.lst a)) (canLayA_dp g ds _ (by simpa only [PyData.canLay0] using c) b)
  | .tuple ds, _, c, h => by cases h with | tup a b => exact .tup (g.t a) (canLayA_dp g ds _ (by simpa only [PyData.canLay0] using c) b)
  | .dict kvs, _, c, h => by simp [PyData.canLay0] at c
theorem canLayA_dp {K : PySem.W.Frag} {G H : Hp} (g : GH G H) : ∀ (ds : List D) (vs : List V), PyData.canLayAll0 ds = true → DqA K G vs ds → DpAll K H vs ds
  | [], _, _, h => by cases h; exact .nil
  | d :: ds, _, c, h => by
    rw [PyData.canLayAll0, Bool.and_eq_true] at c
    cases h with
    | cons a b => exact .cons (canLay_dp g d _ c.1 a) (canLayA_dp g ds _ c.2 b)
end
def rEqU (K : PySem.W.Frag) : R2 := fun x y H Q => rEq x y H Q ∨ rEqD K x y H Q
def rNeU (K : PySem.W.Frag) : R2 := fun x y H Q => rNe x y H Q ∨ rNeD K x y H Q
theorem op_eqU {X : Cx} (hu : X.A.units + 64 < cLine) : OpR X (compareOp .Eq) (rEqU X.K) := op_eq.or (op_eqD hu)
theorem op_neU {X : Cx} (hu : X.A.units + 64 < cLine) : OpR X (compareOp .NotEq) (rNeU X.K) := op_ne.or (op_neD hu)
theorem od_eqI : OD K (rEqU K) (.int i) (.int j) (.bool (decide (i = j))) := fun x y G H Q g hx hy q => by
  cases hx; cases hy
  refine .inl ⟨rfl, ?_⟩
  have e : decide (V.int i = V.int j) = decide (i = j) := by simp
  rw [e]
  exact q _ G H (.refl g) (.bl _)
theorem od_eqS {a b : Str} : OD K (rEqU K) (.str a) (.str b) (.bool (decide (a = b))) := fun x y G H Q g hx hy q => by
  cases hx; cases hy
  refine .inl ⟨rfl, ?_⟩
  have e : decide (V.str a = V.str b) = decide (a = b) := by simp
  rw [e]
  exact q _ G H (.refl g) (.bl _)
theorem od_eqB {a b : Bool} : OD K (rEqU K) (.bool a) (.bool b) (.bool (decide (a = b))) := fun x y G H Q g hx hy q => by
  cases hx; cases hy
  refine .inl ⟨rfl, ?_⟩
  have e : decide (V.bl a = V.bl b) = decide (a = b) := by simp
  rw [e]
  exact q _ G H (.refl g) (.bl _)
theorem od_neI : OD K (rNeU K) (.int i) (.int j) (.bool (!decide (i = j))) := fun x y G H Q g hx hy q => by
  cases hx; cases hy
  refine .inl ⟨rfl, ?_⟩
  have e : decide (V.int i = V.int j) = decide (i = j) := by simp
  rw [e]
  exact q _ G H (.refl g) (.bl _)
theorem od_neS {a b : Str} : OD K (rNeU K) (.str a) (.str b) (.bool (!decide (a = b))) := fun x y G H Q g hx hy q => by
  cases hx; cases hy
  refine .inl ⟨rfl, ?_⟩
  have e : decide (V.str a = V.str b) = decide (a = b) := by simp
  rw [e]
  exact q _ G H (.refl g) (.bl _)
theorem od_neB {a b : Bool} : OD K (rNeU K) (.bool a) (.bool b) (.bool (!decide (a = b))) := fun x y G H Q g hx hy q => by
  cases hx; cases hy
  refine .inl ⟨rfl, ?_⟩
  have e : decide (V.bl a = V.bl b) = decide (a = b) := by simp
  rw [e]
  exact q _ G H (.refl g) (.bl _)
theorem od_eqD {a b : D} (ha : SeqAt.shaped a = true) (hb : SeqAt.shaped b = true) : OD K (rEqU K) a b (.bool (PyData.eqv a b)) := fun x y G H Q g hx hy q =>
  .inr ⟨a, b, canLay_dp g a x (SeqAt.canLay_of_shaped ha) hx, canLay_dp g b y (SeqAt.canLay_of_shaped hb) hy, ha, hb, q _ G H (.refl g) (.bl _)⟩
theorem od_neD {a b : D} (ha : SeqAt.shaped a = true) (hb : SeqAt.shaped b = true) : OD K (rNeU K) a b (.bool (!PyData.eqv a b)) := fun x y G H Q g hx hy q =>
  .inr ⟨a, b, canLay_dp g a x (SeqAt.canLay_of_shaped ha) hx, canLay_dp g b y (SeqAt.canLay_of_shaped hb) hy, ha, hb, q _ G H (.refl g) (.bl _)⟩
def isNoneD : D → Bool
  | .none => true
  | _ => false
theorem isNone_dq {G : Hp} {v : V} {d : D} (h : Dq K G v d) : decide (v = .non) = isNoneD d := by cases h <;> rfl
theorem ev_isN (h : EV K ta ρ d) : EV K (tIsN ta) ρ (.bool (isNoneD d)) := fun G0 H0 G H σ Q E q => h G0 H0 G H σ _ E fun v G1 H1 e1 h1 => by
  rw [isNone_dq h1]
  exact q _ G1 H1 e1 (.bl _)
theorem ev_notN (h : EV K ta ρ d) : EV K (tNotN ta) ρ (.bool (!isNoneD d)) := fun G0 H0 G H σ Q E q => h G0 H0 G H σ _ E fun v G1 H1 e1 h1 => by
  rw [isNone_dq h1]
  exact q _ G1 H1 e1 (.bl _)
theorem od_isB {a b : Bool} : OD K rIsB (.bool a) (.bool b) (.bool (decide (a = b))) := fun x y G H Q g hx hy q => by
  cases hx; cases hy
  exact ⟨a, b, rfl, rfl, q _ G H (.refl g) (.bl _)⟩
theorem od_notB {a b : Bool} : OD K rNotB (.bool a) (.bool b) (.bool (!decide (a = b))) := fun x y G H Q g hx hy q => by
  cases hx; cases hy
  exact ⟨a, b, rfl, rfl, q _ G H (.refl g) (.bl _)⟩
/-- a < b < c -/
theorem ev_chain {r r' : R2} {tc : TE} {d3 : D} {b1 b2 : Bool} (ha : EV K ta ρ d1) (hb : EV K tb ρ d2) (ho : OD K r d1 d2 (.bool b1)) (hc : b1 = true → EV K tc ρ d3) (ho' : b1 = true → OD K r' d2 d3 (.bool b2)) : EV K (tChain r r' ta tb tc) ρ (.bool (b1 && b2)) := fun G0 H0 G H σ Q E q =>
  ha G0 H0 G H σ _ E fun x G1 H1 e1 h1 => hb G0 H0 G1 H1 σ _ (E.go e1) fun y G2 H2 e2 h2 => ho x y G2 H2 _ e2.gh (h1.mono e2.g) h2 fun z G3 H3 e3 h3 => by
    cases h3
    refine ⟨b1, rfl, ?_⟩
    cases b1 with
    | false => exact q _ G3 H3 ((e1.trans e2).trans e3) (.bl false)
    | true => exact hc rfl G0 H0 G3 H3 σ _ (((E.go e1).go e2).go e3) fun w G4 H4 e4 h4 => ho' rfl y w G4 H4 Q e4.gh ((h2.mono e3.g).mono e4.g) h4 fun v G5 H5 e5 h5 => q v G5 H5 ((((e1.trans e2).trans e3).trans e4).trans e5) h5

/-! ### in -/
def flatD : D → Bool
  | .none | .bool _ | .int _ | .str _ => true
  | _ => false
def inD (d : D) (ds : List D) : Bool := ds.any fun e => PyData.eqv e d
theorem flat_dq {G : Hp} {v : V} {d : D} (h : Dq K G v d) (f : flatD d = true) : flatV v = true := by cases h <;> first | rfl | exact absurd f Bool.false_ne_true
theorem flatA_dq {G : Hp} : ∀ {ds : List D} {vs : List V}, DqA K G vs ds → ds.all flatD = true → vs.all flatV = true
  | [], _, h, _ => by cases h; rfl
  | d :: ds, _, h, f => by
    cases h with
    | cons a b =>
      rw [List.all_cons, Bool.and_eq_true] at f
      rw [List.all_cons, flat_dq a f.1, flatA_dq b f.2]
      rfl
theorem eq_dq {G : Hp} {v u : V} {d e : D} (h : Dq K G v d) (h' : Dq K G u e) (f : flatD d = true) (f' : flatD e = true) : eqV v u = PyData.eqv d e := by
  cases h <;> cases h' <;> first | rfl | exact absurd f Bool.false_ne_true | exact absurd f' Bool.false_ne_true | simp [eqV, PyData.eqv]
theorem in_dq {G : Hp} {v : V} {d : D} (h : Dq K G v d) (f : flatD d = true) : ∀ {ds : List D} {vs : List V}, DqA K G vs ds → ds.all flatD = true → inV v vs = inD d ds
  | [], _, h, _ => by cases h; rfl
  | e :: ds, _, h2, f2 => by
    cases h2 with
    | cons a b =>
      rw [List.all_cons, Bool.and_eq_true] at f2
      unfold inV inD
      rw [List.any_cons, List.any_cons, eq_dq a h f2.1 f]
      congr 1
      exact in_dq h f b f2.2
def rInU (K : PySem.W.Frag) : R2 := fun x y H Q => rIn K false x y H Q ∨ (fun x y H Q => (∃ (c : Nat) (z : Str), x = .str ⟨#[c]⟩ ∧ y = .str z ∧ Q (.bl (decide (c ∈ z.cps.toList))) H) ∨ (∃ i j, x = .str i ∧ y = .str j ∧ Q (.bl (!(Builtin.Str.occurrences j i 0 j.length 1).isEmpty)) H)) x y H Q
def rNinU (K : PySem.W.Frag) : R2 := fun x y H Q => rIn K true x y H Q ∨ (fun x y H Q => (∃ (c : Nat) (z : Str), x = .str ⟨#[c]⟩ ∧ y = .str z ∧ Q (.bl (!decide (c ∈ z.cps.toList))) H) ∨ (∃ i j, x = .str i ∧ y = .str j ∧ Q (.bl (!(!(Builtin.Str.occurrences j i 0 j.length 1).isEmpty))) H)) x y H Q
theorem op_inU {X : Cx} : OpR X (compareOp .In) (rInU X.K) := op_in_seq.or (op_in_sign.or op_in_str)
theorem op_ninU {X : Cx} : OpR X (compareOp .NotIn) (rNinU X.K) := op_notIn_seq.or (op_notIn_sign.or op_notin_str)
theorem od_inC {c : Nat} {z : Str} : OD K (rInU K) (.str ⟨#[c]⟩) (.str z) (.bool (decide (c ∈ z.cps.toList))) := fun x y G H Q g hx hy q => by
  cases hx; cases hy
  exact .inr (.inl ⟨c, z, rfl, rfl, q _ G H (.refl g) (.bl _)⟩)
theorem od_ninC {c : Nat} {z : Str} : OD K (rNinU K) (.str ⟨#[c]⟩) (.str z) (.bool (!decide (c ∈ z.cps.toList))) := fun x y G H Q g hx hy q => by
  cases hx; cases hy
  exact .inr (.inl ⟨c, z, rfl, rfl, q _ G H (.refl g) (.bl _)⟩)
theorem od_inT {ds : List D} (f : flatD d = true) (fs : ds.all flatD = true) : OD K (rInU K) d (.tuple ds) (.bool (inD d ds)) := fun x y G H Q g hx hy q => by
  cases hy with
  | tup a b => exact .inl ⟨_, _, rfl, .inr (g.t a), flat_dq hx f, flatA_dq b fs, by rw [in_dq hx f b fs]; exact q _ G H (.refl g) (.bl _)⟩
theorem od_ninT {ds : List D} (f : flatD d = true) (fs : ds.all flatD = true) : OD K (rNinU K) d (.tuple ds) (.bool (!inD d ds)) := fun x y G H Q g hx hy q => by
  cases hy with
  | tup a b => exact .inl ⟨_, _, rfl, .inr (g.t a), flat_dq hx f, flatA_dq b fs, by rw [in_dq hx f b fs]; exact q _ G H (.refl g) (.bl _)⟩
theorem od_inL {ds : List D} (f : flatD d = true) (fs : ds.all flatD = true) : OD K (rInU K) d (.list ds) (.bool (inD d ds)) := fun x y G H Q g hx hy q => by
  cases hy with
  | lst a b => exact .inl ⟨_, _, rfl, .inl (SqL.of (g.lst a)), flat_dq hx f, flatA_dq b fs, by rw [in_dq hx f b fs]; exact q _ G H (.refl g) (.bl _)⟩
theorem od_ninL {ds : List D} (f : flatD d = true) (fs : ds.all flatD = true) : OD K (rNinU K) d (.list ds) (.bool (!inD d ds)) := fun x y G H Q g hx hy q => by
  cases hy with
  | lst a b => exact .inl ⟨_, _, rfl, .inl (SqL.of (g.lst a)), flat_dq hx f, flatA_dq b fs, by rw [in_dq hx f b fs]; exact q _ G H (.refl g) (.bl _)⟩

/-! ### an owned list, looked at -/
theorem own_look {G0 H0 G H : Hp} {σ : St} {n : Nat} {ds : List D} (E : En K G0 H0 G H σ ρ) (hi : ρ[n]? = some (.ow (.list ds))) : ∃ l vs, σ[n]? = some (some (.ref l)) ∧ H l = some (.lst vs) ∧ DqA K G vs ds := by
  obtain ⟨l, h1, _, _, h4⟩ := E.ow n _ hi
  cases h4 with
  | lst a b => exact ⟨l, _, h1, a, b⟩
theorem own_lookG {G0 H0 G H : Hp} {σ : St} {n : Nat} {ds : List D} (E : En K G0 H0 G H σ ρ) (hi : ρ[n]? = some (.ow (.list ds))) : ∃ l vs, σ[n]? = some (some (.ref l)) ∧ H l = some (.lst vs) ∧ DqA K G vs ds ∧ G l = none := by
  obtain ⟨l, h1, _, h0, h4⟩ := E.ow n _ hi
  cases h4 with
  | lst a b => exact ⟨l, _, h1, a, b, h0⟩
theorem ev_inO {n : Nat} {ds : List D} (ha : EV K ta ρ d) (hi : ρ[n]? = some (.ow (.list ds))) (f : flatD d = true) (fs : ds.all flatD = true) : EV K (tOp (rInU K) ta (tVar n)) ρ (.bool (inD d ds)) := fun G0 H0 G H σ Q E q =>
  ha G0 H0 G H σ _ E fun x G1 H1 e1 hx => by
    obtain ⟨l, vs, h1, h2, h3⟩ := own_look (E.go e1) hi
    exact ⟨_, h1, .inl ⟨_, _, rfl, .inl (SqL.of h2), flat_dq hx f, flatA_dq h3 fs, by rw [in_dq hx f h3 fs]; exact q _ G1 H1 e1 (.bl _)⟩⟩
theorem ev_ninO {n : Nat} {ds : List D} (ha : EV K ta ρ d) (hi : ρ[n]? = some (.ow (.list ds))) (f : flatD d = true) (fs : ds.all flatD = true) : EV K (tOp (rNinU K) ta (tVar n)) ρ (.bool (!inD d ds)) := fun G0 H0 G H σ Q E q =>
  ha G0 H0 G H σ _ E fun x G1 H1 e1 hx => by
    obtain ⟨l, vs, h1, h2, h3⟩ := own_look (E.go e1) hi
    exact ⟨_, h1, .inl ⟨_, _, rfl, .inl (SqL.of h2), flat_dq hx f, flatA_dq h3 fs, by rw [in_dq hx f h3 fs]; exact q _ G1 H1 e1 (.bl _)⟩⟩
theorem ixN_lt {n : Nat} {i : Int} {k : Nat} (h : ixN n i = some k) : k < n := by
  unfold ixN at h
  split at h
  · split at h
    · cases h; omega
    · cases h
  · split at h
    · cases h; omega
    · cases h
theorem atI_dq {G : Hp} {vs : List V} {ds : List D} (h : DqA K G vs ds) {i : Int} {d : D} (e : atI ds i = some d) : ∃ v, atI vs i = some v ∧ Dq K G v d := by
  unfold atI at e ⊢
  rw [h.length]
  cases q : ixN ds.length i with
  | none => rw [q] at e; cases e
  | some k =>
    rw [q] at e
    obtain ⟨v, h1, h2⟩ := h.get (i := k) (d := d) e
    exact ⟨v, h1, h2⟩
theorem od_ixL {ds : List D} (e : atI ds i = some d) : OD K (rIx K) (.list ds) (.int i) d := fun x y G H Q g hx hy q => by
  cases hy
  cases hx with
  | lst a b =>
    obtain ⟨v, h1, h2⟩ := atI_dq b e
    exact .inl ⟨_, _, i, v, rfl, rfl, SqL.of (g.lst a), h1, q v G H (.refl g) h2⟩
theorem od_ixT {ds : List D} (e : atI ds i = some d) : OD K (rIx K) (.tuple ds) (.int i) d := fun x y G H Q g hx hy q => by
  cases hy
  cases hx with
  | tup a b =>
    obtain ⟨v, h1, h2⟩ := atI_dq b e
    exact .inr (.inl ⟨_, _, i, v, rfl, rfl, g.t a, h1, q v G H (.refl g) h2⟩)
theorem od_ixS {z : Str} {c : Nat} (hz : z.length ≤ sizeLine) (e : atI z.cps.toList i = some c) : OD K (rIx K) (.str z) (.int i) (.str ⟨#[c]⟩) := fun x y G H Q g hx hy q => by
  cases hy
  cases hx
  exact .inr (.inr ⟨z, i, c, rfl, rfl, hz, e, q _ G H (.refl g) (.str _)⟩)
theorem ev_ixO {n : Nat} {ds : List D} (hi : ρ[n]? = some (.ow (.list ds))) (hb : EV K tb ρ (.int i)) (e : atI ds i = some d) : EV K (tOp (rIx K) (tVar n) tb) ρ d := fun G0 H0 G H σ Q E q => by
  obtain ⟨l, vs, h1, h2, h3, h0⟩ := own_lookG E hi
  refine ⟨_, h1, hb G0 H0 G H σ _ E fun y G1 H1 e1 hy => ?_⟩
  cases hy
  obtain ⟨v, a1, a2⟩ := atI_dq h3 e
  exact .inl ⟨_, _, i, v, rfl, rfl, SqL.of (e1.at h0 h2), a1, q v G1 H1 e1 (a2.mono e1.g)⟩
/-! ### slices -/
theorem eo_none : EO K tNoPart ρ none := fun _ _ G H _ _ E q => q G H (.refl E.gh)
theorem eo_some (h : EV K te ρ (.int i)) : EO K (tPart te) ρ (some i) := fun G0 H0 G H σ Q E q => h G0 H0 G H σ _ E fun v G1 H1 e1 h1 => by
  cases h1
  exact ⟨i, rfl, q G1 H1 e1⟩
def rSlU (K : PySem.W.Frag) : V → Option Int → Option Int → Hp → VK → Prop := fun x lo hi H Q => rSlL K x lo hi H Q ∨ (fun x lo hi H Q => rSlA K x lo hi H Q ∨ rSlS x lo hi H Q) x lo hi H Q
theorem sl_U {X : Cx} : SlR X (rSlU X.K) := sl_list.or (sl_tupA.or sl_str)
def cutDs (ds : List D) (lo hi : Option Int) : List D := (ds.drop (HT.sIx ds.length 0 lo)).take (HT.sIx ds.length ds.length hi - HT.sIx ds.length 0 lo)
theorem cut_dq {G : Hp} {vs : List V} {ds : List D} (h : DqA K G vs ds) (lo hi : Option Int) : DqA K G (cutV vs lo hi) (cutDs ds lo hi) := by
  unfold cutV cutDs
  rw [h.length]
  exact (h.drop _).take _
theorem sl_step {r : V → Option Int → Option Int → Hp → VK → Prop} {tl th : TO} {lo hi : Option Int} {G0 H0 G H : Hp} {σ : St} {Q : VK} (E : En K G0 H0 G H σ ρ) (h : EV K te ρ d) (hl : EO K tl ρ lo) (hh : EO K th ρ hi)
    (q : ∀ x G' H', Ext G H G' H' → Dq K G' x d → r x lo hi H' Q) : tSl r te tl th σ H Q :=
  h G0 H0 G H σ _ E fun x G1 H1 e1 h1 => hl G0 H0 G1 H1 σ _ (E.go e1) fun G2 H2 e2 => hh G0 H0 G2 H2 σ _ ((E.go e1).go e2) fun G3 H3 e3 => q x G3 H3 ((e1.trans e2).trans e3) ((h1.mono e2.g).mono e3.g)
theorem en_slL {tl th : TO} {lo hi : Option Int} {ds : List D} (h : EV K te ρ (.list ds)) (hl : EO K tl ρ lo) (hh : EO K th ρ hi) : EVN K (tSl (rSlU K) te tl th) ρ (.list (cutDs ds lo hi)) := fun G0 H0 G H σ Q E q =>
  sl_step E h hl hh fun x G' H' e hx => by
    cases hx with
    | lst a b =>
      refine .inl ⟨_, _, rfl, SqL.of (e.gh.lst a), fun p hp => ?_⟩
      refine q p G' _ (e.trans (.fresh e.gh hp)) ?_ (e.gh.none hp) (.lst upd_same (cut_dq b lo hi))
      exact e.gone hp
/-- a slice of the script -/
theorem en_slScr {tl th : TO} {lo hi : Option Int} {ns : List Int} (h : EV K te ρ (.dict [(.none, .list (ns.map PyData.int))])) (hl : EO K tl ρ lo) (hh : EO K th ρ hi) : EVN K (tSl (rSlU K) te tl th) ρ (.list (cutDs (ns.map PyData.int) lo hi)) := fun G0 H0 G H σ Q E q =>
  sl_step E h hl hh fun x G' H' e hx => by
    generalize hk : [((PyData.none : D), (PyData.list (ns.map PyData.int) : D))] = kvs at hx
    cases hx with
    | dK a b => cases b with
      | nil => cases hk
      | @cons k => cases k <;> cases hk
    | dT a b => cases hk
    | sta _ _ => cases hk
    | opq _ => cases hk
    | raw _ => cases hk
    | @scr a ms sq =>
      have e2 : ms.map PyData.int = ns.map PyData.int := by
        injection hk with h1 h2
        injection h1 with h1 h2
        injection h2 with h2
        exact h2.symm
      have e3 : DqA K G' (ms.map V.int) (ns.map PyData.int) := by
        rw [← e2]
        clear hk e2 sq
        induction ms with
        | nil => exact .nil
        | cons m ms ih => exact .cons (.int m) ih
      refine .inl ⟨_, _, rfl, e.gh.l sq, fun p hp => ?_⟩
      refine q p G' _ (e.trans (.fresh e.gh hp)) ?_ (e.gh.none hp) (.lst upd_same (cut_dq e3 lo hi))
      exact e.gone hp
theorem ev_slS {tl th : TO} {lo hi : Option Int} {z : Str} (h : EV K te ρ (.str z)) (hz : z.length ≤ sizeLine) (hl : EO K tl ρ lo) (hh : EO K th ρ hi) : EV K (tSl (rSlU K) te tl th) ρ (.str (cutS z lo hi)) := fun G0 H0 G H σ Q E q =>
  sl_step E h hl hh fun x G' H' e hx => by
    cases hx
    exact .inr (.inr ⟨z, rfl, hz, q _ G' H' e (.str _)⟩)
theorem ev_slT {tl th : TO} {lo hi : Option Int} {ds : List D} (h : EV K te ρ (.tuple ds)) (hl : EO K tl ρ lo) (hh : EO K th ρ hi) : EV K (tSl (rSlU K) te tl th) ρ (.tuple (cutDs ds lo hi)) := fun G0 H0 G H σ Q E q =>
  sl_step E h hl hh fun x G' H' e hx => by
    cases hx with
    | tup a b =>
      refine .inr (.inl ⟨_, _, rfl, e.gh.t a, fun w => ?_, fun _ p hp => ?_⟩)
      · have z : cutDs ds lo hi = ds := by
          unfold cutDs
          rw [← b.length, w.1, w.2, List.drop_zero, Nat.sub_zero, b.length, List.take_length]
        rw [z] at q
        exact q _ G' H' e (.tup a b)
      · have rr := cut_dq b lo hi
        exact q _ _ _ (e.trans (.new e.gh hp)) (.tup (SqT.of upd_same) (rr.mono (Ext.new e.gh hp).g))
end
end DL

set_option maxHeartbeats 1000000
/-! DL5: enumerate over a tuple, a text; iteration of any sequence. -/
namespace DL
open PySem L2 PySem.Spec PyProof.Rows

theorem meets_enumerate_newB1 {v : Value} {o : Obj} {H : Heap → Prop} (B : Begins v o H) :
    Meets (Builtin.«enumerate.__new__» ⟨[.type "enumerate", v], []⟩) (fun _ R s => H s.heap ∧
      R (.ok (.ret (.ref (s.heap.push o).objs.size))) { s with heap := (s.heap.push o).push { cls := .type "enumerate", data := .fields #[.none, .bool false, .ref s.heap.objs.size, rawInt 0, .none, .none] } }) :=
  .of_wp fun prog w A R s h => by
    obtain ⟨hp, g, d, tk, os⟩ := s; obtain ⟨h1, h⟩ := h
    have hsub := sub_enumerate
    have q1 : ∀ {A' : Around} {E : Value → Shared → Prop} {Q : Value → Shared → Prop}, Q (.ref hp.objs.size) ⟨hp.push o, g, d, tk, os⟩ → wpAny (model prog w) A' (pyIter v) Q E ⟨hp, g, d, tk, os⟩ :=
      fun q => B.iter prog w _ _ ⟨hp, g, d, tk, os⟩ _ h1 q
    wp_walk using q1
    refine wpAny_stack_any fun st => wpAny_pure ?_
    split
    · rename_i c _ _ _ _ _
      cases (c == Value.type "enumerate")
      · wp_walk using q1
        exact ⟨_, rfl, h⟩
      · wp_walk using q1
        exact ⟨_, rfl, h⟩
    · wp_walk using q1
      exact ⟨_, rfl, h⟩
section
variable {prog : Program} {w : World} {A : Around} {E : Value → Shared → Prop} {s : Shared}
theorem enum_begins1 {v : Value} {o : Obj} {H : Heap → Prop} {Q : Value → Shared → Prop} (B : Begins v o H) (h1 : H s.heap)
    (h : ∀ h', IsEnum h' (s.heap.objs.size + 1) s.heap.objs.size 0 .none → h'.get? s.heap.objs.size = some o → h'.objs.size = s.heap.objs.size + 2 →
      (∀ b o, s.heap.get? b = some o → h'.get? b = some o) → Q (.ref (s.heap.objs.size + 1)) { s with heap := h' }) :
    wpAny (model prog w) A (call (.type "enumerate") [v]) Q E s := by
  refine callType_new F.called_enumerate (by decide) (F.typeCall_enumerate_1 _) (F.newCall_enumerate_1 _) (fun obj => F.args_object_init_2 obj _) F.entry_enumerate_new
    (meets_enumerate_newB1 B) ⟨h1, ?_⟩
  have hz : (s.heap.push o).objs.size = s.heap.objs.size + 1 := Heap.size_push ..
  show _ ∧ _
  rw [hz]
  have he : IsEnum ((s.heap.push o).push { cls := .type "enumerate", data := .fields #[.none, .bool false, .ref s.heap.objs.size, rawInt 0, .none, .none] }) (s.heap.objs.size + 1) s.heap.objs.size 0 .none := by
    have := Heap.get?_push_size (s.heap.push o) (o := { cls := .type "enumerate", data := .fields #[.none, .bool false, .ref s.heap.objs.size, rawInt 0, .none, .none] }) rfl
    rw [hz] at this; exact this
  refine ⟨⟨_, he, rfl⟩, h _ he (Heap.get?_push_of_some _ (Heap.get?_push_size _ B.free)) (by rw [Heap.size_push, hz]) fun b o x => Heap.get?_push_of_some _ (Heap.get?_push_of_some _ x)⟩
end

/-- one turn of enumerate, told by what its iterator draws -/
theorem enum_item {X : Cx} {pins : List (Addr × Obj)} {σ : L2.St} {H : Hp} {s : Shared} {E : Value → Shared → Prop} {e it : Addr} {fp : List Addr} {n i : Nat} {Pv : Nat → Value → Prop} {Sv : Nat → Heap → Prop} {old : Value} {C : V → Prop} {elts : List Expr} {kk : Nat} {tpos : Pos}
    (I : Inv X pins σ H s) (hf : ∀ b ∈ [e, it], FpOk X pins H b) (D : Draws X.prog X.w X.A.in1 it fp n Pv Sv) (he : IsEnum s.heap e it ((i : Nat) : Int) old) (hst : Sv i s.heap) (hlt : i < n) (hne : e ≠ it) (hef : e ∉ fp) (hc : ∀ u, Pv i u → ∃ x, RelV x u ∧ C x) :
    wpAny (model X.prog X.w) X.A (pyNext (.ref e)) (fun r s1 => ∃ u, r = some u ∧
      wpAny (model X.prog X.w) X.A (letOwnedTupleGo (.Tuple elts kk tpos) (.ref e) u) (fun _ s2 => ∃ T x, u = .ref T ∧ Inv X pins σ (upd H T (.tup [.int (i : Nat), x])) s2 ∧ H T = none ∧ C x ∧ (∃ old, IsEnum s2.heap e it (((i + 1 : Nat)) : Int) old) ∧ Sv (i + 1) s2.heap ∧
        ∀ b ∈ [e, it], upd H T (.tup [.int (i : Nat), x]) b = none) E s1) E s := by
  have hel : e < s.heap.objs.size := Heap.lt_size he
  have hil : it < s.heap.objs.size := by obtain ⟨o, q⟩ := D.live i _ hst; exact Heap.lt_size q
  refine wpAny_pyNext_enum_itemD D he hst hlt hne hef fun u h' tk hP ho hst' hT hsz hk => ?_
  obtain ⟨x, ru, hx⟩ := hc u hP
  refine ⟨_, rfl, wpAny_letOwnedTupleGo_enum (s := { s with heap := h', toks := tk + 1 }) ho fun h'' he' sb => ?_⟩
  have hT2 : h''.get? s.heap.objs.size = some { cls := .type "tuple", data := .seq #[.int i tk, u] } := (sb.2 _ (Nat.ne_of_gt hel)).trans hT
  have new : ObjOk X.prog X.w (upd H s.heap.objs.size (.tup [.int (i : Nat), x])) h'' s.heap.objs.size (.tup [.int (i : Nat), x]) :=
    ⟨by show 2 ≤ sizeLine; decide, [.int i tk, u], .cons ⟨_, rfl⟩ (.cons ru .nil), ⟨_, hT2, rfl, _, rfl⟩⟩
  have I1 : Inv X pins σ (upd H s.heap.objs.size (.tup [.int (i : Nat), x])) { s with heap := h'', toks := tk + 1 } :=
    I.turnedNew (ch := [e, it]) (fun b ob hb q => (sb.2 b (fun z => hb (by simp [z]))).trans (hk b ob (fun z => hb (by simp [z])) (fun z => hb (by simp [z])) q)) hf (Nat.le_refl _) new
  refine ⟨s.heap.objs.size, x, rfl, I1, I.hok.fresh (Nat.le_refl _), hx, ⟨u, ?_⟩, D.frame _ _ _ hst' (fun b hb o q => (sb.2 b (fun z => hef (z ▸ hb))).trans q), fun b hb => ?_⟩
  · have e1 : ((i + 1 : Nat) : Int) = (i : Int) + 1 := by omega
    rw [e1]; exact he'
  · have hb' : b < s.heap.objs.size := by
      have e' : b = e ∨ b = it := by simpa using hb
      rcases e' with z | z
      · rw [z]; exact hel
      · rw [z]; exact hil
    rw [upd_ne (Nat.ne_of_lt hb')]
    exact (hf b hb).1

def IteT (K : PySem.W.Frag) (a : Addr) : It :=
  ⟨fun i H => ∃ (xs : List V) (x : V), SqT K H a xs ∧ xs[i]? = some x, fun i H v H' => ∃ T x, v = .ref T ∧ H T = none ∧ H' = upd H T (.tup [.int (i : Nat), x]) ∧ ∀ xs, SqT K H a xs → xs[i]? = some x, fun i H => ∃ xs : List V, SqT K H a xs ∧ xs.length ≤ i⟩
def IteS (z : Str) : It :=
  ⟨fun i _ => i < z.cps.size, fun i H v H' => ∃ T c, v = .ref T ∧ H T = none ∧ H' = upd H T (.tup [.int (i : Nat), .str ⟨#[c]⟩]) ∧ z.cps[i]? = some c, fun i _ => z.cps.size ≤ i⟩
theorem enum_ne_tup {h : Heap} {e it a : Addr} {i : Int} {old : Value} {its : Array Value} (he : IsEnum h e it i old) (ht : IsTup h a its) : e ≠ a := by
  rintro rfl
  obtain ⟨o, ho, hc, _⟩ := ht
  have q : h.get? e = some _ := he
  rw [q] at ho
  cases ho
  have z : Value.type "enumerate" = Value.type "tuple" := hc
  injection z with z
  exact absurd z (by decide)
theorem turn_enumT {P : Program} {w : World} {K : PySem.W.Frag} {elts : List Expr} {kk : Nat} {tpos : Pos} (a e it : Addr) :
    Turn P w K (.Tuple elts kk tpos) (IteT K a) [e, it] e (fun i h => (∃ old, IsEnum h e it ((i : Nat) : Int) old) ∧ h.IsTupleIter it a i ∧ e ≠ it) where
  mem := by simp
  obj := fun i h st b hb => by
    obtain ⟨⟨old, he⟩, ⟨o, ho, hc, hd⟩, _⟩ := st
    have e' : b = e ∨ b = it := by simpa using hb
    rcases e' with z | z
    · rw [z]; exact ⟨_, he, fun v q => nomatch q⟩
    · rw [z]; exact ⟨o, ho, fun v q => by rw [hd] at q; cases q⟩
  keep := fun i h h' st k => let ⟨⟨old, he⟩, hi, hne⟩ := st; ⟨⟨old, k e (by simp) _ he⟩, hi.at fun o q => k it (by simp) o q, hne⟩
  item := by
    intro X hP hw hK hc i pins s σ H E I hf st hg
    subst hP hw hK
    obtain ⟨⟨old, he⟩, hit, hne⟩ := st
    obtain ⟨xs, x, hq, hx⟩ := hg
    obtain ⟨its, rv, p, hz⟩ := I.tuple hq
    obtain ⟨u, hu, ru⟩ := rv.get hx
    have hi : i < its.toArray.size := by
      rw [List.size_toArray]
      exact (List.getElem?_eq_some_iff.mp hu).1
    have hta : a ≠ it := by
      rintro rfl
      obtain ⟨o, ho, hc', _⟩ := id p
      obtain ⟨o2, ho2, hc2, _⟩ := id hit
      rw [ho] at ho2; cases ho2
      rw [hc'] at hc2
      injection hc2 with z
      exact absurd z (by decide)
    refine thn (enum_item (C := fun y => y = x) I hf (Draws.tuple (A := X.A.in1) (show X.A.in1.handled = none from I.ok.hd hc) it a hta its.toArray) he ⟨hit, p⟩ hi hne (by simpa using ⟨hne, enum_ne_tup he p⟩) fun u' q => ?_) fun r s1 ⟨v, er, h2⟩ => ⟨v, er, thn h2 fun _ s2 ⟨T, y, ev, I1, hT, ey, he2, hs2, hb⟩ => ?_⟩
    · rw [show its.toArray[i]? = some u from by simpa using hu] at q
      cases q
      exact ⟨x, ru, rfl⟩
    · subst ey
      subst ev
      exact ⟨.ref T, _, I1, rfl, ⟨T, y, rfl, hT, rfl, fun ys hy => by rw [I.tuple_inj hy hq]; exact hx⟩, ⟨he2, hs2.1, hne⟩, hb⟩
  done := by
    intro X hP hw hK hc i pins s σ H E I hf st hg
    subst hP hw hK
    obtain ⟨⟨old, he⟩, hit, hne⟩ := st
    obtain ⟨xs, hq, hx⟩ := hg
    obtain ⟨its, rv, p, hz⟩ := I.tuple hq
    obtain ⟨f0, f1, f2, f3, f4, f5⟩ := hf it (by simp)
    have hl := rv.length
    have hta : a ≠ it := by
      rintro rfl
      obtain ⟨o, ho, hc', _⟩ := id p
      obtain ⟨o2, ho2, hc2, _⟩ := id hit
      rw [ho] at ho2; cases ho2
      rw [hc'] at hc2
      injection hc2 with z
      exact absurd z (by decide)
    by_cases hi : i = its.toArray.size
    · subst hi
      exact wpAny_pyNext_enum_endD (Draws.tuple (A := X.A.in1) (show X.A.in1.handled = none from I.ok.hd hc) it a hta its.toArray) he ⟨hit, p⟩ fun h' eb => ⟨rfl, I.turned (t' := s.toks) (fun b o hb q => eb b o hb q) f0 f1 f3 f4 f5⟩
    · have D : Draws X.prog X.w X.A.in1 it [it, a] i (fun _ _ => True) (fun j h => h.IsTupleIter it a j ∧ h.IsTuple a its.toArray ∧ its.toArray.size ≤ j ∧ j = i) := {
        live := fun _ _ st => let ⟨o, ho, _⟩ := st.1; ⟨o, ho⟩
        frame := fun _ _ _ st hk => ⟨st.1.at fun o e => hk it (by simp) o e, st.2.1.at fun o e => hk a (by simp) o e, st.2.2⟩
        item := fun j s Q E hj st hQ => by have := st.2.2.2; omega
        done := fun s Q E st hE => wpAny_nextOf_tuple_end (show X.A.in1.handled = none from I.ok.hd hc) st.1 st.2.1 (by simpa using st.2.2.1) hE }
      exact wpAny_pyNext_enum_endD D he ⟨hit, p, by rw [List.size_toArray]; omega, rfl⟩ fun h' eb => ⟨rfl, I.turned (t' := s.toks) (fun b o hb q => eb b o hb q) f0 f1 f3 f4 f5⟩
  self := fun A i s Q E st h => let ⟨⟨_, he⟩, _⟩ := st; wpAny_pyIter_enum he h
theorem turn_enumS {P : Program} {w : World} {K : PySem.W.Frag} {elts : List Expr} {kk : Nat} {tpos : Pos} (z : Str) (t : Tok) (e it : Addr) :
    Turn P w K (.Tuple elts kk tpos) (IteS z) [e, it] e (fun i h => (∃ old, IsEnum h e it ((i : Nat) : Int) old) ∧ h.IsStrIter it (strIterType z) z t i ∧ e ≠ it) where
  mem := by simp
  obj := fun i h st b hb => by
    obtain ⟨⟨old, he⟩, ⟨o, ho, hc, hd⟩, _⟩ := st
    have e' : b = e ∨ b = it := by simpa using hb
    rcases e' with z | z
    · rw [z]; exact ⟨_, he, fun v q => nomatch q⟩
    · rw [z]; exact ⟨o, ho, fun v q => by rw [hd] at q; cases q⟩
  keep := fun i h h' st k => let ⟨⟨old, he⟩, ⟨o, ho, r⟩, hne⟩ := st; ⟨⟨old, k e (by simp) _ he⟩, ⟨o, k it (by simp) o ho, r⟩, hne⟩
  item := by
    intro X hP hw hK hc i pins s σ H E I hf st hg
    subst hP hw hK
    obtain ⟨⟨old, he⟩, hit, hne⟩ := st
    refine thn (enum_item (C := fun y => ∃ c, z.cps[i]? = some c ∧ y = .str ⟨#[c]⟩) I hf (Draws.text (A := X.A.in1) (show X.A.in1.handled = none from I.ok.hd hc) it z t) he hit hg hne (by simpa using hne) fun u' q => ?_) fun r s1 ⟨v, er, h2⟩ => ⟨v, er, thn h2 fun _ s2 ⟨T, y, ev, I1, hT, ey, he2, hs2, hb⟩ => ?_⟩
    · obtain ⟨c, u, h1, rfl⟩ := q
      exact ⟨.str ⟨#[c]⟩, ⟨u, rfl⟩, c, h1, rfl⟩
    · obtain ⟨c, hcx, rfl⟩ := ey
      subst ev
      exact ⟨.ref T, _, I1, rfl, ⟨T, c, rfl, hT, rfl, hcx⟩, ⟨he2, hs2, hne⟩, hb⟩
  done := by
    intro X hP hw hK hc i pins s σ H E I hf st hg
    subst hP hw hK
    obtain ⟨⟨old, he⟩, hit, hne⟩ := st
    obtain ⟨f0, f1, f2, f3, f4, f5⟩ := hf it (by simp)
    have hx : z.cps[i]? = none := Array.getElem?_eq_none hg
    have D : Draws X.prog X.w X.A.in1 it [it] i (fun _ _ => True) (fun j h => h.IsStrIter it (strIterType z) z t j ∧ j = i) := {
      live := fun _ _ st => let ⟨o, ho, _⟩ := st.1; ⟨o, ho⟩
      frame := fun _ _ _ st hk => let ⟨⟨o, ho, r⟩, e⟩ := st; ⟨⟨o, hk it (by simp) o ho, r⟩, e⟩
      item := fun j s Q E hj st hQ => by have := st.2; omega
      done := fun s Q E st hE => by
        obtain ⟨st, _⟩ := st
        cases ha : z.cps.all (· < 128)
        · simp only [strIterType, ha, Bool.false_eq_true, if_false] at st
          exact wpAny_nextOf_wide_end (show X.A.in1.handled = none from I.ok.hd hc) st hx hE
        · simp only [strIterType, ha, if_true] at st
          exact wpAny_nextOf_ascii_end (show X.A.in1.handled = none from I.ok.hd hc) st hx hE }
    exact wpAny_pyNext_enum_endD D he ⟨hit, rfl⟩ fun h' eb => ⟨rfl, I.turned (t' := s.toks) (fun b o hb q => eb b o hb q) f0 f1 f3 f4 f5⟩
  self := fun A i s Q E st h => let ⟨⟨_, he⟩, _⟩ := st; wpAny_pyIter_enum he h

/-- enumerate of a list, a tuple, a text -/
def iEnumU (K : PySem.W.Frag) (ta : TA) : TI := fun σ H R => ta σ H fun vs H1 => (∃ a xs, vs = [.ref a] ∧ SqL K H1 a xs ∧ R (Ite K a) H1) ∨ (∃ a xs, vs = [.ref a] ∧ SqT K H1 a xs ∧ R (IteT K a) H1) ∨ (∃ z, vs = [.str z] ∧ R (IteS z) H1)
theorem pi_enumU {X : Cx} {e : Expr} {ta : TA} {p pos tpos : Pos} {elts : List Expr} {kk : Nat} (hg : Gl X "enumerate") (hm : X.mg "enumerate" = none) (ha : PA X [e] ta) (hs : starEach [e] X.env = [(false, eval e X.env)] := by rfl) :
    PI X (.Tuple elts kk tpos) (.Call (.Name "enumerate" p) [e] [] pos) (iEnumU X.K ta) := by
  refine ⟨fun pins s σ H R I h => ?_⟩
  refine Call_ (ld_blt I hg hm boot_enumerate (PyProof.Rows.callWith_type1 (thn (ha.run pos pins s σ H _ I h) fun us s1 ⟨vs, H1, I1, r1, q1⟩ => ?_) hs rfl))
  have fp : ∀ b ∈ [s1.heap.objs.size + 1, s1.heap.objs.size], s1.heap.objs.size ≤ b := fun b hb => by
    have e' : b = s1.heap.objs.size + 1 ∨ b = s1.heap.objs.size := by simpa using hb
    rcases e' with z | z
    · rw [z]; exact Nat.le_add_right _ _
    · rw [z]; exact Nat.le_refl _
  rcases q1 with ⟨a, xs, ex, hq, q⟩ | ⟨a, xs, ex, hq, q⟩ | ⟨z, ex, q⟩
  · subst ex
    cases r1 with
    | cons r rr =>
      cases rr
      cases r
      obtain ⟨its, rv, p', hz⟩ := I1.list hq
      refine call_enumerate_list p'.isList fun h' he hit hsz hk => wpAny_pyIter_enum he ?_
      have I2 : Inv X pins σ H1 { s1 with heap := h' } := I1.kept (t' := s1.toks) hk
      exact ⟨s1.heap.objs.size + 1, [s1.heap.objs.size + 1, s1.heap.objs.size], _, _, H1, rfl, I2, turn_enum a (s1.heap.objs.size + 1) s1.heap.objs.size, ⟨⟨.none, he⟩, hit, Nat.succ_ne_self _⟩, fun b hb => I1.fpOk (fp b hb) (I1.hok.fresh (fp b hb)), q⟩
  · subst ex
    cases r1 with
    | cons r rr =>
      cases rr
      cases r
      obtain ⟨its, rv, p', hz⟩ := I1.tuple hq
      refine enum_begins1 (begins_tuple a its.toArray) p' fun h' he hit hsz hk => wpAny_pyIter_enum he ?_
      have I2 : Inv X pins σ H1 { s1 with heap := h' } := I1.kept (t' := s1.toks) hk
      exact ⟨s1.heap.objs.size + 1, [s1.heap.objs.size + 1, s1.heap.objs.size], _, _, H1, rfl, I2, turn_enumT a (s1.heap.objs.size + 1) s1.heap.objs.size, ⟨⟨.none, he⟩, ⟨_, hit, rfl, rfl⟩, Nat.succ_ne_self _⟩, fun b hb => I1.fpOk (fp b hb) (I1.hok.fresh (fp b hb)), q⟩
  · subst ex
    cases r1 with
    | cons r rr =>
      cases rr
      obtain ⟨t, rfl⟩ := r
      refine enum_begins1 (begins_text z t) trivial fun h' he hit hsz hk => wpAny_pyIter_enum he ?_
      have I2 : Inv X pins σ H1 { s1 with heap := h' } := I1.kept (t' := s1.toks) hk
      exact ⟨s1.heap.objs.size + 1, [s1.heap.objs.size + 1, s1.heap.objs.size], _, _, H1, rfl, I2, turn_enumS z t (s1.heap.objs.size + 1) s1.heap.objs.size, ⟨⟨.none, he⟩, ⟨_, hit, rfl, rfl⟩, Nat.succ_ne_self _⟩, fun b hb => I1.fpOk (fp b hb) (I1.hok.fresh (fp b hb)), q⟩
/-- a list, a tuple, a text, walked -/
def iSeqU (K : PySem.W.Frag) (te : TE) : TI := fun σ H R => te σ H fun x H1 => (∃ a xs, x = .ref a ∧ SqL K H1 a xs ∧ R (Itl K a) H1) ∨ (∃ a xs, x = .ref a ∧ SqT K H1 a xs ∧ R (Itt K a) H1) ∨ (∃ z, x = .str z ∧ R (Its z) H1)
theorem pi_seqU {X : Cx} {tg l : Expr} {tl : TE} (hl : PE X l tl) : PI X tg l (iSeqU X.K tl) := by
  refine ⟨fun pins s σ H R I h => ?_⟩
  refine thn (hl.run pins s σ H _ I h) fun v s1 ⟨x, H1, I1, r1, q1⟩ => ?_
  rcases q1 with ⟨a, xs, ex, hq, q⟩ | ⟨a, xs, ex, hq, q⟩ | ⟨z, ex, q⟩
  · subst ex
    cases r1
    obtain ⟨its, rv, p, hz⟩ := I1.list hq
    refine wpAny_pyIter_list p.isList ?_
    refine ⟨s1.heap.objs.size, [s1.heap.objs.size], _, _, H1, rfl, I1.kept (t' := s1.toks) fun b o e => Heap.get?_push_of_some _ e, turn_list a _, ⟨_, Heap.get?_push_size _ rfl, rfl, rfl⟩, fun b hb => ?_, q⟩
    have e : b = s1.heap.objs.size := by simpa using hb
    subst e
    exact I1.fpOk (Nat.le_refl _) (I1.hok.fresh (Nat.le_refl _))
  · subst ex
    cases r1
    obtain ⟨its, rv, p, hz⟩ := I1.tuple hq
    refine wpAny_pyIter_tuple (show s1.heap.IsTuple a its.toArray from p) ?_
    refine ⟨s1.heap.objs.size, [s1.heap.objs.size], _, _, H1, rfl, I1.kept (t' := s1.toks) fun b o e => Heap.get?_push_of_some _ e, turn_tuple a _, ⟨_, Heap.get?_push_size _ rfl, rfl, rfl⟩, fun b hb => ?_, q⟩
    have e : b = s1.heap.objs.size := by simpa using hb
    subst e
    exact I1.fpOk (Nat.le_refl _) (I1.hok.fresh (Nat.le_refl _))
  · subst ex
    obtain ⟨t, rfl⟩ := r1
    cases ha : z.cps.all (· < 128)
    · exact wpAny_pyIter_wide ha (pi_one (tk := s1.toks) I1 _ (turn_str _ z t "str_iterator" (.inr rfl)) ⟨_, Heap.get?_push_size _ rfl, rfl, rfl⟩ q)
    · exact wpAny_pyIter_ascii ha (pi_one (tk := s1.toks) I1 _ (turn_str _ z t "str_ascii_iterator" (.inl rfl)) ⟨_, Heap.get?_push_size _ rfl, rfl, rfl⟩ q)
end DL

/-! DL6: what is walked, comprehensions, built-ins, lists that grow, calls of own defs, by data. -/
namespace DL
open PySem L2

section
variable {K : PySem.W.Frag} {ρ : List Sl} {ta tb te : TE} {tt : TT} {d d1 d2 : D} {P : Oc → Prop} {Ex : XK}
/-! ### what is walked -/
theorem ei_mono {wi : TI} {n : Nat} {f g : Nat → D} (h : EI K wi ρ n f) (e : ∀ i, i < n → f i = g i) : EI K wi ρ n g := fun G0 H0 G H σ R E q =>
  h G0 H0 G H σ R E fun J G' H' Gd Y x w hG hY => q J G' H' Gd Y x w hG fun i G2 H2 v H3 hi a b c => by
    rw [← e i hi]
    exact hY i G2 H2 v H3 hi a b c
theorem ei_rng1 {t : TA} {n : Int} (h : EA K t ρ [.int n]) (h1 : -(2 ^ 62) ≤ n) (h2 : n < 2 ^ 62) : EI K (iRng1 t) ρ n.toNat (fun i => .int (i : Nat)) := fun G0 H0 G H σ R E q =>
  h G0 H0 G H σ _ E fun vs G1 H1 e1 hv => by
    cases hv with
    | cons a b =>
      cases a
      cases b
      refine ⟨n, rfl, h1, h2, q _ G1 H1 _ _ e1 walk_range (fun _ _ _ _ => trivial) fun i G2 H2 x H3 hi hg gh hy => ?_⟩
      obtain ⟨rfl, rfl⟩ := hy
      refine ⟨G2, .refl gh, ?_⟩
      show Dq K G2 (.int (0 + (i : Nat))) (.int (i : Nat))
      rw [Int.zero_add]
      exact .int _
theorem ei_rng2 {t : TA} {m n : Int} (h : EA K t ρ [.int m, .int n]) (hb : -(2 ^ 62) ≤ m ∧ m < 2 ^ 62 ∧ -(2 ^ 62) ≤ n ∧ n < 2 ^ 62) : EI K (iRng2 t) ρ (n - m).toNat (fun i => .int (m + (i : Nat))) := fun G0 H0 G H σ R E q =>
  h G0 H0 G H σ _ E fun vs G1 H1 e1 hv => by
    cases hv with
    | cons a b =>
      cases a
      cases b with
      | cons a b =>
        cases a
        cases b
        refine ⟨m, n, rfl, hb, q _ G1 H1 _ _ e1 walk_range (fun _ _ _ _ => trivial) fun i G2 H2 x H3 hi hg gh hy => ?_⟩
        obtain ⟨rfl, rfl⟩ := hy
        exact ⟨G2, .refl gh, .int _⟩
theorem getD_of {α : Type} {ds : List α} {i : Nat} {d z : α} (h : ds[i]? = some d) : ds.getD i z = d := by
  rw [List.getD_eq_getElem?_getD, h]
  rfl
theorem ei_list {ds : List D} (h : EV K te ρ (.list ds)) : EI K (iSeqU K te) ρ ds.length (fun i => ds.getD i .none) := fun G0 H0 G H σ R E q =>
  h G0 H0 G H σ _ E fun v G1 H1 e1 hv => by
    cases hv with
    | @lst a xs _ ha hr =>
      refine .inl ⟨a, xs, rfl, SqL.of (e1.gh.lst ha), ?_⟩
      rw [← hr.length] at q
      refine q _ G1 H1 _ _ e1 (walk_list (K := K) (a := a)) (fun G2 H2 hg gh => SqL.of (gh.lst (hg _ _ ha))) fun i G2 H2 x H3 hi hg gh hy => ?_
      obtain ⟨rfl, hx⟩ := hy
      obtain ⟨d, hd, hq⟩ := hr.got hx
      exact ⟨G2, .refl gh, by show Dq K G2 x (ds.getD i .none); rw [getD_of hd]; exact hq.mono (Sub.of hg)⟩
theorem ei_tup {ds : List D} (h : EV K te ρ (.tuple ds)) : EI K (iSeqU K te) ρ ds.length (fun i => ds.getD i .none) := fun G0 H0 G H σ R E q =>
  h G0 H0 G H σ _ E fun v G1 H1 e1 hv => by
    cases hv with
    | @tup a xs _ ha hr =>
      refine .inr (.inl ⟨a, xs, rfl, e1.gh.t ha, ?_⟩)
      rw [← hr.length] at q
      refine q _ G1 H1 _ _ e1 (walk_tup (K := K) (a := a)) (fun G2 H2 hg gh => gh.t ((Sub.of hg).t ha)) fun i G2 H2 x H3 hi hg gh hy => ?_
      obtain ⟨rfl, hx⟩ := hy
      obtain ⟨d, hd, hq⟩ := hr.got hx
      exact ⟨G2, .refl gh, by show Dq K G2 x (ds.getD i .none); rw [getD_of hd]; exact hq.mono (Sub.of hg)⟩
def chD (z : Str) (i : Nat) : D := .str ⟨#[z.cps.getD i 0]⟩
theorem ch_of {z : Str} {i c : Nat} (h : z.cps[i]? = some c) : chD z i = .str ⟨#[c]⟩ := by
  unfold chD
  rw [Array.getD_eq_getD_getElem?, h]
  rfl
theorem ei_str {z : Str} (h : EV K te ρ (.str z)) : EI K (iSeqU K te) ρ z.cps.size (chD z) := fun G0 H0 G H σ R E q =>
  h G0 H0 G H σ _ E fun v G1 H1 e1 hv => by
    cases hv
    refine .inr (.inr ⟨z, rfl, q _ G1 H1 _ _ e1 walk_str (fun _ _ _ _ => trivial) fun i G2 H2 x H3 hi hg gh hy => ?_⟩)
    obtain ⟨rfl, c, hc, rfl⟩ := hy
    exact ⟨G2, .refl gh, by rw [ch_of hc]; exact .str _⟩
theorem new_pair {G H : Hp} {T : Addr} {x y : V} {a b : D} (g : GH G H) (hT : H T = none) (hx : Dq K G x a) (hy : Dq K G y b) : ∃ G3, Ext G H G3 (upd H T (.tup [x, y])) ∧ Dq K G3 (.ref T) (.tuple [a, b]) :=
  ⟨_, .new g hT, .tup (SqT.of upd_same) (.cons (hx.mono (Ext.new g hT).g) (.cons (hy.mono (Ext.new g hT).g) .nil))⟩
theorem ei_enumL {t : TA} {ds : List D} (h : EA K t ρ [.list ds]) : EI K (iEnumU K t) ρ ds.length (fun i => .tuple [.int (i : Nat), ds.getD i .none]) := fun G0 H0 G H σ R E q =>
  h G0 H0 G H σ _ E fun v G1 H1 e1 hv => by
    cases hv with
    | cons a b =>
      cases b
      cases a with
      | @lst a xs _ ha hr =>
        refine .inl ⟨a, xs, rfl, SqL.of (e1.gh.lst ha), ?_⟩
        rw [← hr.length] at q
        refine q _ G1 H1 _ _ e1 (walk_enum (K := K) (a := a)) (fun G2 H2 hg gh => SqL.of (gh.lst (hg _ _ ha))) fun i G2 H2 x H3 hi hg gh hy => ?_
        obtain ⟨T, x1, y1, rfl, hT, rfl, h1, h2⟩ := hy
        cases h1
        obtain ⟨d, hd, hq⟩ := hr.got h2
        exact new_pair gh hT (.int _) (by rw [getD_of hd]; exact hq.mono (Sub.of hg))
theorem walk_enumT {a : Addr} {xs : List V} : Walk (IteT K a) xs.length (fun H => SqT K H a xs) (YPair (fun i => some (.int (i : Nat))) (fun i => xs[i]?)) := by
  refine ⟨fun i _ hi q => ⟨xs, xs[i], q, by simp [hi]⟩, fun _ q => ⟨xs, q, Nat.le_refl _⟩, fun i H v H' _ q y => ?_⟩
  obtain ⟨T, x, y1, y2, y3, y4⟩ := y
  exact ⟨T, .int (i : Nat), x, y1, y2, y3, rfl, y4 xs q⟩
theorem walk_enumS {z : Str} : Walk (IteS z) z.cps.size (fun _ => True) (fun i H v H' => ∃ T c, v = .ref T ∧ H T = none ∧ H' = upd H T (.tup [.int (i : Nat), .str ⟨#[c]⟩]) ∧ z.cps[i]? = some c) :=
  ⟨fun _ _ hi _ => hi, fun _ _ => Nat.le_refl _, fun _ _ _ _ _ _ y => y⟩
theorem ei_enumT {t : TA} {ds : List D} (h : EA K t ρ [.tuple ds]) : EI K (iEnumU K t) ρ ds.length (fun i => .tuple [.int (i : Nat), ds.getD i .none]) := fun G0 H0 G H σ R E q =>
  h G0 H0 G H σ _ E fun v G1 H1 e1 hv => by
    cases hv with
    | cons a b =>
      cases b
      cases a with
      | @tup a xs _ ha hr =>
        refine .inr (.inl ⟨a, xs, rfl, e1.gh.t ha, ?_⟩)
        rw [← hr.length] at q
        refine q _ G1 H1 _ _ e1 (walk_enumT (K := K) (a := a)) (fun G2 H2 hg gh => gh.t ((Sub.of hg).t ha)) fun i G2 H2 x H3 hi hg gh hy => ?_
        obtain ⟨T, x1, y1, rfl, hT, rfl, h1, h2⟩ := hy
        cases h1
        obtain ⟨d, hd, hq⟩ := hr.got h2
        exact new_pair gh hT (.int _) (by rw [getD_of hd]; exact hq.mono (Sub.of hg))
theorem ei_enumS {t : TA} {z : Str} (h : EA K t ρ [.str z]) : EI K (iEnumU K t) ρ z.cps.size (fun i => .tuple [.int (i : Nat), chD z i]) := fun G0 H0 G H σ R E q =>
  h G0 H0 G H σ _ E fun v G1 H1 e1 hv => by
    cases hv with
    | cons a b =>
      cases b
      cases a
      refine .inr (.inr ⟨z, rfl, q _ G1 H1 _ _ e1 walk_enumS (fun _ _ _ _ => trivial) fun i G2 H2 x H3 hi hg gh hy => ?_⟩)
      obtain ⟨T, c, rfl, hT, rfl, hc⟩ := hy
      exact new_pair gh hT (.int _) (by rw [ch_of hc]; exact .str _)

/-! ### a comprehension -/
def wipeS (ρ : List Sl) : List Nat → List Sl
  | [] => ρ
  | v :: vs => (wipeS ρ vs).set v .no
theorem En.wipe {G0 H0 G H : Hp} {σ : St} (E : En K G0 H0 G H σ ρ) : ∀ vs : List Nat, En K G0 H0 G H (L2.wipe σ vs) (wipeS ρ vs)
  | [] => E
  | v :: vs => (En.wipe E vs).setX v none
theorem wipe_get {σ : St} {k : Nat} : ∀ {vs : List Nat}, (L2.wipe σ vs)[k]? = if k ∈ vs ∧ k < σ.length then some none else σ[k]?
  | [] => by simp [L2.wipe]
  | v :: vs => by
    unfold L2.wipe
    by_cases e : v = k
    · subst e
      by_cases h : v < σ.length
      · rw [List.getElem?_set_self (by rw [wipe_length]; exact h), if_pos ⟨List.mem_cons_self, h⟩]
      · rw [if_neg (fun z => h z.2), List.getElem?_eq_none (by rw [List.length_set, wipe_length]; omega), List.getElem?_eq_none (by omega)]
    · rw [List.getElem?_set_ne e, wipe_get (vs := vs)]
      by_cases h : k ∈ vs ∧ k < σ.length
      · rw [if_pos h, if_pos ⟨List.mem_cons_of_mem _ h.1, h.2⟩]
      · rw [if_neg h, if_neg fun z => h ⟨(List.mem_cons.mp z.1).resolve_left (Ne.symm e), z.2⟩]
theorem wipe_eq {σ σ' : St} {vs ts : List Nat} (hl : σ'.length = σ.length) (hk : ∀ k, k ∉ ts → σ'[k]? = (L2.wipe σ vs)[k]?) (hs : ∀ t ∈ ts, t ∈ vs) : L2.wipe σ' vs = L2.wipe σ vs := by
  refine List.ext_getElem? fun k => ?_
  rw [wipe_get, hl]
  by_cases h : k ∈ vs ∧ k < σ.length
  · rw [if_pos h, wipe_get, if_pos h]
  · rw [if_neg h]
    by_cases hv : k ∈ vs
    · have : ¬ k < σ.length := fun z => h ⟨hv, z⟩
      rw [List.getElem?_eq_none (by omega), List.getElem?_eq_none (by rw [wipe_length]; omega)]
    · exact hk k fun z => hv (hs k z)
/-- what a comprehension gives: the value at each turn that passes -/
def lcD : Nat → (Nat → Bool) → (Nat → D) → List D
  | 0, _, _ => []
  | n + 1, b, f => if b n = true then lcD n b f ++ [f n] else lcD n b f
theorem lcD_len (b : Nat → Bool) (f : Nat → D) : ∀ n, (lcD n b f).length ≤ n
  | 0 => Nat.le_refl _
  | n + 1 => by
    unfold lcD
    have := lcD_len b f n
    split
    · rw [List.length_append]
      exact Nat.succ_le_succ this
    · omega
theorem en_lc {wi : TI} {g : TG} {vs : List Nat} {n : Nat} {item : Nat → D} {b : Nat → Bool} {f : Nat → D} (hi : EI K wi ρ n item) (hn : n ≤ 16000000)
    (hs : ∀ i, i < n → ∃ ρ2 ts, GT K g (wipeS ρ vs) (item i) ρ2 ts ∧ (∀ t ∈ ts, t ∈ vs) ∧ ET K tt ρ2 (b i) ∧ (b i = true → EV K te ρ2 (f i))) :
    EVN K (tLc wi g tt te vs) ρ (.list (lcD n b f)) := fun G0 H0 G H σ Q E q =>
  hi G0 H0 G H σ _ E fun J G1 H1 Gd Y x w hG hY Dl hD => by
    have E1 := E.go x
    have hH : H Dl = none := by
      exact x.gone hD
    have hG1 : G1 Dl = none := x.gh.none hD
    refine lc_it w (fun i H' => ∃ G' vl, Ext G1 H1 G' H' ∧ G' Dl = none ∧ H' Dl = some (.lst vl) ∧ DqA K G' vl (lcD i b f)) ⟨G1, [], .fresh x.gh hD, hG1, upd_same, .nil⟩ (fun i H' _ ⟨G', vl, e, _⟩ => hG G' H' e.gg e.gh) (fun i y H' H3 hlt ⟨G', vl, e, n1, h1, r1⟩ hy => ?_)
      (fun H' ⟨G', vl, e, n1, h1, r1⟩ => q Dl G' H' (x.trans e) hH n1 (.lst h1 r1))
    obtain ⟨G3, x3, hdq⟩ := hY i G' H' y H3 hlt e.gg e.gh hy
    obtain ⟨ρ2, ts, hg, hts, ht, he⟩ := hs i hlt
    have E3 : En K G0 H0 G3 H3 (L2.wipe σ vs) (wipeS ρ vs) := ((E1.go e).go x3).wipe vs
    have n3 : G3 Dl = none := x3.own _ _ h1 rfl n1
    refine hg G0 H0 G3 H3 _ y _ E3 hdq fun σ2 E2 hl hk => ⟨wipe_eq (by rw [hl, wipe_length]) hk hts, ?_⟩
    refine ht G0 H0 G3 H3 σ2 _ E2 fun G4 H4 x4 => ?_
    have h4 : H4 Dl = some (.lst vl) := x4.at n3 (x3.at n1 h1)
    have n4 : G4 Dl = none := x4.own _ _ (x3.at n1 h1) rfl n3
    have r4 : DqA K G4 vl (lcD i b f) := (r1.mono x3.g).mono x4.g
    have e4 : Ext G1 H1 G4 H4 := (e.trans x3).trans x4
    cases hb : b i with
    | false =>
      rw [if_neg Bool.false_ne_true]
      refine ⟨G4, vl, e4, n4, h4, ?_⟩
      unfold lcD
      rw [if_neg (by rw [hb]; exact Bool.false_ne_true)]
      exact r4
    | true =>
      rw [if_pos rfl]
      refine he hb G0 H0 G4 H4 σ2 _ (E2.go x4) fun u G5 H5 x5 hu => ?_
      have h5 := x5.at n4 h4
      have n5 := x5.own _ _ h4 rfl n4
      have hlen := lcD_len b f i
      have hl2 := r4.length
      refine ⟨vl, h5, by rw [hl2, sizeLine_eq]; omega, G5, vl ++ [u], ?_, n5, upd_same, ?_⟩
      · have e5 := e4.trans x5
        refine ⟨e5.gg, fun a o ha => ?_, fun a o ha => ?_, e5.own⟩
        · rw [upd_ne (ne_of_none ha hD)]; exact e5.hh a o ha
        · have ne : a ≠ Dl := ne_of_none ha n5
          exact (e5.gh a o ha).eq (upd_ne ne)
      · have hb' : lcD (i + 1) b f = lcD i b f ++ [f i] := by
          show (if b i = true then lcD i b f ++ [f i] else lcD i b f) = _
          rw [if_pos hb]
        rw [hb']
        exact (r4.mono x5.g).append (.one hu)
theorem et_yes : ET K tYes ρ true := fun _ _ G H _ _ E q => q G H (.refl E.gh)

/-! ### built-ins -/
theorem cd_lenS {z : Str} (h : z.length ≤ sizeLine) : CD K (rLen K) [.str z] (.int z.length) := fun xs G H Q g hx q => by
  cases hx with
  | cons a b =>
    cases a
    cases b
    exact ⟨_, z.length, rfl, ⟨h, rfl⟩, q _ G H (.refl g) (.int _)⟩
theorem cd_lenL {ds : List D} : CD K (rLen K) [.list ds] (.int ds.length) := fun xs G H Q g hx q => by
  cases hx with
  | cons a b =>
    cases b
    cases a with
    | @lst a xs _ ha hr => exact ⟨_, xs.length, rfl, .inl ⟨xs, SqL.of (g.lst ha), rfl⟩, by rw [hr.length]; exact q _ G H (.refl g) (.int _)⟩
theorem cd_lenT {ds : List D} : CD K (rLen K) [.tuple ds] (.int ds.length) := fun xs G H Q g hx q => by
  cases hx with
  | cons a b =>
    cases b
    cases a with
    | @tup a xs _ ha hr => exact ⟨_, xs.length, rfl, .inr ⟨xs, g.t ha, rfl⟩, by rw [hr.length]; exact q _ G H (.refl g) (.int _)⟩
theorem ev_lenO {n : Nat} {ds : List D} (hi : ρ[n]? = some (.ow (.list ds))) : EV K (tCB (rLen K) (tCons (tVar n) tNil)) ρ (.int ds.length) := fun G0 H0 G H σ Q E q => by
  obtain ⟨l, vs, h1, h2, h3⟩ := own_look E hi
  exact ⟨_, h1, _, vs.length, rfl, .inl ⟨vs, SqL.of h2, rfl⟩, by rw [h3.length]; exact q _ G H (.refl E.gh) (.int _)⟩
def rIntU : List V → Hp → VK → Prop := fun xs H Q => (∃ i, xs = [.int i] ∧ Q (.int i) H) ∨ ∃ k, xs = [.bl k] ∧ Q (.int (if k then 1 else 0)) H
theorem cd_int {i : Int} : CD K rIntU [.int i] (.int i) := fun xs G H Q g hx q => by
  cases hx with
  | cons a b =>
    cases a
    cases b
    exact .inl ⟨i, rfl, q _ G H (.refl g) (.int _)⟩
/-- a datum's type -/
def tyD : D → String
  | .none => "NoneType"
  | .bool _ => "bool"
  | .int _ => "int"
  | .str _ => "str"
  | .list _ => "list"
  | .tuple _ => "tuple"
  | .dict _ => "dict"
def isDicD : D → Bool
  | .dict _ => true
  | _ => false
theorem ty_dq {G H : Hp} {v : V} (g : GH G H) (h : Dq K G v d) (nd : isDicD d = false) : TyX K H v (.type (tyD d)) := by
  cases h with
  | non => exact .base .non
  | bl b => exact .base (.bl b)
  | int i => exact .base (.int i)
  | str x => exact .base (.str x)
  | lst a b => exact .base (.lst (g.lst a))
  | tup a b =>
    rcases g.t a with (h | ⟨o, h⟩) | ⟨o, its, n, h, c, _⟩
    · exact .base (.tup h)
    · exact .fTuple h
    · exact .kTuple h c
  | dK _ _ => cases nd
  | dT _ _ => cases nd
  | scr _ => cases nd
  | sta _ _ => cases nd
  | opq _ => cases nd
  | raw _ => cases nd
theorem ev_isi {T : String} {b : Bool} (h : EV K ta ρ d) (nd : isDicD d = false) (hk : kitB (tyD d) T = some b) : EV K (tCB (rIsi K) (tCons ta (tCons (tC (.ty T)) tNil))) ρ (.bool b) := fun G0 H0 G H σ Q E q =>
  h G0 H0 G H σ _ E fun v G1 H1 e1 h1 => ⟨v, .ty T, .type (tyD d), .type T, b, rfl, .ty T, ty_dq e1.gh h1 nd, kit_ty hk, q _ G1 H1 e1 (.bl b)⟩
/-- xs.append(e), xs the owned list of slot n -/
theorem st_append {n : Nat} {ds : List D} (hi : ρ[n]? = some (.ow (.list ds))) (h : EV K te ρ d) (hz : ds.length < 16000000) (q : P (.nx (ρ.set n (.ow (.list (ds ++ [d])))))) :
    ST K Ex (tDrop (tBM K "list" rAppend (tVar n) (tCons te tNil))) ρ P := fun G0 H0 G H σ D E f => by
  obtain ⟨l, vs, h1, h2, h3, h0⟩ := own_lookG E hi
  refine ⟨_, h1, .inl ⟨rfl, vs, SqL.of h2⟩, h G0 H0 G H σ _ E fun v G1 H1 e1 hv => ?_⟩
  have h4 := e1.at h0 h2
  have r4 := h3.mono e1.g
  exact ⟨l, vs, v, rfl, rfl, h4, by rw [h3.length, sizeLine_eq]; omega, f.nx _ _ _ _ q ((E.go e1).write hi h1 (.lst upd_same (r4.append (.one hv))))⟩
/-- xs[i] = e -/
theorem st_setL {n : Nat} {ds : List D} {i : Int} {j : Nat} (hi : ρ[n]? = some (.ow (.list ds))) (h : EV K te ρ d) (hb : EV K tb ρ (.int i)) (hj : ixN ds.length i = some j) (q : P (.nx (ρ.set n (.ow (.list (ds.set j d)))))) :
    ST K Ex (tAsg te (gSub (tVar n) tb rSetL)) ρ P := fun G0 H0 G H σ D E f =>
  h G0 H0 G H σ _ E fun v G1 H1 e1 hv => by
    obtain ⟨l, vs, h1, h2, h3, h0⟩ := own_lookG (E.go e1) hi
    refine ⟨_, h1, hb G0 H0 G1 H1 σ _ (E.go e1) fun y G2 H2 e2 hy => ?_⟩
    cases hy
    have h4 := e2.at h0 h2
    have r4 := h3.mono e2.g
    exact ⟨l, vs, i, j, rfl, rfl, h4, by rw [h3.length]; exact hj, f.nx _ _ _ _ q (((E.go e1).go e2).write hi h1 (.lst upd_same (r4.set j (hv.mono e2.g))))⟩
/-- x += e -/
def rIAddU : R2 := fun x y H Q => rI0 (fun i j => .int (i + j)) x y H Q ∨ (fun x y H Q => (∃ i j, x = .str i ∧ y = .str j ∧ i.length + j.length ≤ sizeLine ∧ Q (.str (i ++ j)) H) ∨ rExt2 x y H Q) x y H Q
theorem ip_addU {X : Cx} : PIp X .Add rIAddU := iop_add.or (iop_add_str.or iop_ext)
theorem st_augI {n : Nat} {a b : Int} (hi : ρ[n]? = some (.fr (.int a))) (h : EV K te ρ (.int b)) (q : P (.nx (ρ.set n (.fr (.int (a + b)))))) : ST K Ex (tAug n te rIAddU) ρ P := fun G0 H0 G H σ D E f => by
  obtain ⟨v, h1, h2⟩ := E.fr n _ hi
  cases h2
  refine ⟨_, h1, h G0 H0 G H σ _ E fun y G1 H1 e1 hy => ?_⟩
  cases hy
  exact .inl ⟨a, b, rfl, rfl, f.nx _ _ _ _ q ((E.go e1).setF n (.int _))⟩
theorem st_augO {n : Nat} {ds es : List D} (hi : ρ[n]? = some (.ow (.list ds))) (h : EV K te ρ (.list es)) (hz : ds.length + es.length ≤ 16000000) (q : P (.nx (ρ.set n (.ow (.list (ds ++ es)))))) :
    ST K Ex (tAug n te rIAddU) ρ P := fun G0 H0 G H σ D E f => by
  obtain ⟨l, vs, h1, h2, h3, h0⟩ := own_lookG E hi
  refine ⟨_, h1, h G0 H0 G H σ _ E fun y G1 H1 e1 hy => ?_⟩
  cases hy with
  | @lst b xs _ hb hr =>
    have h4 := e1.at h0 h2
    have r4 := h3.mono e1.g
    refine .inr (.inr ⟨l, b, vs, xs, rfl, rfl, h4, e1.gh.lst hb, by rw [h3.length, hr.length, sizeLine_eq]; omega, ?_⟩)
    have E2 := (E.go e1).write hi h1 (.lst (upd_same (H := H1) (a := l) (o := .lst (vs ++ xs))) (r4.append hr))
    have E3 := f.nx _ σ G1 _ q E2
    have : σ.set n (some (V.ref l)) = σ := by
      refine List.ext_getElem? fun k => ?_
      by_cases e : n = k
      · subst e
        rw [List.getElem?_set_self (List.getElem?_eq_some_iff.mp h1).1, h1]
      · rw [List.getElem?_set_ne e]
    show D.nx (σ.set n (some (V.ref l))) _
    rw [this]
    exact E3

/-! ### own defs -/
/-- what a def answers, by data -/
def PF (K : PySem.W.Frag) (R : List D → D → Prop) : Sp := fun vs H Q _ => ∃ G ds d, GH G H ∧ DqA K G vs ds ∧ R ds d ∧ ∀ v G' H', Ext G H G' H' → Dq K G' v d → Q v H'
theorem ev_call {R : List D → D → Prop} {t : TA} {ds : List D} (h : EA K t ρ ds) (hr : R ds d) : EV K (tCall (PF K R) [] Ex t) ρ d := fun G0 H0 G H σ Q E q =>
  h G0 H0 G H σ _ E fun vs G1 H1 e1 h1 => by
    rw [List.append_nil]
    exact ⟨G1, ds, d, e1.gh, h1, hr, fun v G2 H2 e2 h2 => q v G2 H2 (e1.trans e2) h2⟩
/-- the slots at a def's entry -/
def start0 (n : Nat) (ds : List D) : List Sl := ds.map Sl.fr ++ List.replicate (n - ds.length) Sl.no
theorem start0_get {n i : Nat} {ds : List D} {sl : Sl} (e : (start0 n ds)[i]? = some sl) : (∃ d, ds[i]? = some d ∧ sl = .fr d) ∨ sl = .no := by
  unfold start0 at e
  rw [List.getElem?_append] at e
  split at e
  · rw [List.getElem?_map] at e
    cases e2 : ds[i]? with
    | none => rw [e2] at e; cases e
    | some d' => rw [e2] at e; cases e; exact .inl ⟨d', rfl, rfl⟩
  · rw [List.getElem?_replicate] at e
    split at e
    · cases e; exact .inr rfl
    · cases e
theorem en_start {G H : Hp} {vs : List V} {ds : List D} {N : List Str} (g : GH G H) (h : DqA K G vs ds) : En K G H G H (L2.start N vs) (start0 N.length ds) := by
  have hl := h.length
  refine ⟨?_, .refl g, fun i d e => ?_, fun i d e => ?_, fun i a dd fl e => ?_, fun i j d e l q => ?_, fun i kls e => ?_, fun i j x y e => ?_⟩
  · unfold L2.start start0
    rw [List.length_append, List.length_append, List.length_map, List.length_map, List.length_replicate, List.length_replicate, hl]
  · rcases start0_get e with ⟨d', e2, e3⟩ | e3
    · cases e3
      obtain ⟨v, h1, h2⟩ := h.get e2
      refine ⟨v, ?_, h2⟩
      unfold L2.start
      rw [List.getElem?_append_left (by rw [List.length_map]; exact (List.getElem?_eq_some_iff.mp h1).1), List.getElem?_map, h1]
      rfl
    · cases e3
  · rcases start0_get e with ⟨d', e2, e3⟩ | e3 <;> cases e3
  · rcases start0_get e with ⟨d', e2, e3⟩ | e3 <;> cases e3
  · rcases start0_get q with ⟨d', e2, e3⟩ | e3 <;> cases e3
  · rcases start0_get e with ⟨d', e2, e3⟩ | e3 <;> cases e3
  · rcases start0_get e with ⟨d', e2, e3⟩ | e3 <;> cases e3
end
section
open PySem.Spec PyProof.Rows
variable {P : Program} {w : World} {K : PySem.W.Frag} {mg : Str → Option Value} {base : Heap}
/-- a def that raises nothing keeps its word, by its body's -/
theorem fn_pf {x qual : Str} {params : Arguments} {body : List Stmt} {scope : Scope} {f : Addr} {fd : FuncData} {N ps : List Str} {k : Nat} {R : List D → D → Prop} (F : FunD K x qual params body scope [] [] f fd) (S : FnScope N ps scope)
    (len : ∀ ds d, R ds d → ds.length = ps.length)
    (hb : ∀ (cdv : Value) (A : Around) (outer : List PySem.Env) (s : Shared) (H : Hp) (E : XK), Room k (A.deeper (envOfC qual scope s.heap.objs.size f cdv)) →
      ∃ t, PSs (cxOf CX0 P w K mg base N qual scope f cdv A outer s H E) body t ∧ ∀ ds d, R ds d → DL.ST K E0 t (start0 N.length ds) (fun o => o = .rt d ∨ (d = .none ∧ ∃ ρ, o = .nx ρ))) : FnOk P w K mg base CX0 (k + 1) f fd ps (PF K R) := by
  refine F.ok S (fun vs H Q E h => ?_) (fun cdv A outer s H vs Q E hr h => ?_)
  · obtain ⟨G, ds, d, g, ha, hR, q⟩ := h
    exact ha.length.trans (len ds d hR)
  · obtain ⟨t, h1, h2⟩ := hb cdv A outer s H E hr
    obtain ⟨G, ds, d, g, ha, hR, q⟩ := h
    refine ⟨t, h1, h2 ds d hR G H G H _ _ (en_start g ha) ⟨fun ρ' σ' G' H' p E' => ?_, fun d' v G' H' p x hv => ?_, fun ρ' σ' G' H' p E' => ?_, fun ρ' σ' G' H' p E' => ?_, fun C fl dd fs G' H' p => ?_⟩⟩
    · rcases p with p | ⟨rfl, _⟩
      · cases p
      · exact q _ G' H' E'.ext .non
    · rcases p with p | ⟨rfl, ρ, p⟩
      · cases p
        exact q v G' H' x hv
      · cases p
    · rcases p with p | ⟨_, _, p⟩ <;> cases p
    · rcases p with p | ⟨_, _, p⟩ <;> cases p
    · rcases p with p | ⟨_, _, p⟩ <;> cases p
end
end DL

set_option maxHeartbeats 1000000
/-! DL7: exceptions of own classes with fields: made, raised, caught, asked, by data. -/
namespace PySem.W
open PySem PySem.Spec PySem.Calls PyProof.Rows
section
variable {prog : Program} {w : World} {A : Around} {E : Value → Shared → Prop} {s : Shared} {K : Frag} {x D : Addr} {ox : Obj} {od : Option Obj}
theorem dl_findObj {C : Addr} {name : Str} {a g : Value} (od : Option Obj) (hc : (clsIn K C).isSome = true) (ha : findIn K (.ref C) name = some (some a)) (hg : specialIn K a "__get__" = some (some g)) (ht : takesIn K a = some true) : findObj K C od name = some (.bind g a) := by
  obtain ⟨cd, q⟩ := Option.isSome_iff_exists.mp hc
  unfold findObj
  rw [q, Option.bind_some, ha, Option.bind_some]
  simp [hg, ht]
theorem dl_class {Q : Option Value → Shared → Prop} (C : L2.ExcC K D) (X : K.In s.heap) (I : InstAt s.heap x ox D od) (h : Q (some (.ref D)) { s with toks := s.toks + 1 }) : wpAny (model prog w) A (getAttr? (.ref x) "__class__") Q E s := by
  have hf : findObj K D od "__class__" = some (.bind (.builtin "getset_descriptor.__get__") (.builtin "object.__class__")) := dl_findObj od (by obtain ⟨cd, hc, _⟩ := any_some C.hd; rw [hc]; rfl) C.ha C.hn C.ht
  obtain ⟨hp, g, d, t, os⟩ := s
  have T0 := I.type (M := model prog w)
  have T1 := looks_findIn (M := model prog w) X C.hg
  have T2 := looks_findIn (M := model prog w) X C.hk
  have T3 := looks_find (M := model prog w) X I hf
  have sub : Looks (model prog w) hp (isInstance (.ref x) (.type "BaseException")) true := T0.andThen (looks_subIn X C.hs)
  have e0 : (false && onTheHeap (Value.builtin "BaseException.__getattribute__")) = false := rfl
  have e2 : (Value.builtin "BaseException.__getattribute__" == Value.builtin "object.__getattribute__") = false := by decide +kernel
  have e1 : (onTheHeap (Value.ref D) && Value.builtin "BaseException.__getattribute__" == Value.builtin "object.__getattribute__") = false := by rw [e2]; rfl
  unfold getAttr? getAttrBy? getAttrBy
  refine wpAny_bind (wpAny_mkText (wpAny_bind (wpAny_attempt (wpAny_holding (wpAny_bind (T0.at (wpAny_bind (T1.at ?_))))))))
  show wpAny _ _ (if (onTheHeap (Value.ref D) && Value.builtin "BaseException.__getattribute__" == Value.builtin "object.__getattribute__") = true then _ else _) _ _ _
  rw [e1, if_neg Bool.false_ne_true]
  unfold getAttrByItsOwn hookBefore
  refine wpAny_bind ?_
  rw [if_pos (show onTheHeap (Value.ref D) = true from rfl)]
  refine T2.at ?_
  refine wpAny_bind (wpAny_attempt (wpAny_holding ?_))
  unfold callGetattribute
  rw [e0, if_neg Bool.false_ne_true]
  unfold boundAndCalled
  rw [PySem.F.excAttr_ValueError.ga.bind (.ref x)]
  refine wpAny_bind (wpAny_pure ?_)
  show wpAny _ _ (call (.builtin "BaseException.__getattribute__") [.ref x, .str "__class__" t]) _ _ _
  refine wpAny_call (codeAny_call_builtin PySem.F.excAttr_ValueError.ga.plain PySem.F.entry_bexc_ga ?_)
  refine @check_slot (model prog w) _ _ ⟨hp, g, d, t + 1, os⟩ "BaseException.__getattribute__" "BaseException" "__getattribute__" (.ref x) [.str "__class__" t] [] _ (by decide +kernel) (by decide +kernel) sub (PySem.F.args_bexc_ga (.ref x) (.str "__class__" t)) ?_
  unfold Builtin.«object.__getattribute__»
  refine wpAny_bind (wpAny_of_eq (a := ((Value.ref x : Value), [Value.str "__class__" t])) (by first | rfl | (simp only [slotArgs]; rfl)) ?_)
  refine wpAny_bind (wpAny_pure (wpAny_bind (T0.at (wpAny_bind (T3.at ?_)))))
  show wpAny _ _ (holding [Value.builtin "object.__class__"] (call (.builtin "getset_descriptor.__get__") [.builtin "object.__class__", .ref x, .ref D]) >>= ret) _ _ _
  refine wpAny_bind (wpAny_holding (wpAny_call (class_get (s := ⟨hp, g, d, t + 1, os⟩) (ox := ox) (od := od) X I C.hm ?_)))
  refine wpAny_pure ?_
  show wpAny _ _ (handedOut (.ref D)) _ _ _
  rw [handedOut_of (v := .ref D) rfl]
  first
    | exact wpAny_pure (wpAny_pure h)
    | exact wpAny_pure h
    | exact wpAny_pure (wpAny_bind (wpAny_pure (wpAny_pure h)))
theorem dl_kitx (C : L2.ExcC K D) : KitX K (.ref x) (.ref D) (fun h => InstAt h x ox D od) where
  ty := fun _ _ _ I => I.type
  it := fun _ _ X _ => by
    obtain ⟨cdD, hcD, _⟩ := any_some C.hd
    unfold clsIn at hcD
    split at hcD
    · rename_i c' d' cd' sl' ho
      intro A' Q' E' s' k q
      unfold isType loadHead
      exact wpAny_bind (wpAny_loadPart (k _ _ (X _ _ ho)) (wpAny_pure q))
    · cases hcD
  ne := fun h tp dd its n sl X htp => by
    obtain ⟨cdD, hcD, _⟩ := any_some C.hd
    refine Bool.eq_false_iff.mpr fun q => ?_
    have e : D = tp := Value.ref.inj (beq_iff_eq.mp q)
    subst e
    unfold clsIn at hcD
    split at hcD
    · rename_i c' d' cd' sl' ho
      have z := (X _ _ ho).symm.trans htp
      cases z
    · cases hcD
  ca := fun X I k => dl_class C X I k
end
end PySem.W

namespace DL
open PySem L2 PySem.Spec PyProof.Rows
/-- isinstance(e, c), e the exception (with a dict of its own) that the suite holds -/
def rIsX (K : PySem.W.Frag) (cls : Value) (d : Option Addr) (a : Addr) : List V → Hp → VK → Prop := fun xs H Q => ∃ (c : V) (cv : Value) (b : Bool) (D dd : Addr) (fs : List (Str × V)),
  xs = [.ref a, c] ∧ cls = .ref D ∧ d = some dd ∧ H dd = some (.xd fs) ∧ ExcC K D ∧ (∀ u, RelV c u → u = cv) ∧ PySem.W.kitOne K (.ref D) cv = some b ∧ Q (.bl b) H
theorem call_isX {X : Cx} {a : Addr} {cls : Value} {d : Option Addr} {oe : Obj} {pn : List (Addr × Obj)} (hz : Zc cls d oe) (hf : ∃ vs, oe.data = .fields vs) : CallR (X.suite a ((a, oe) :: pn)) (.builtin "isinstance") (rIsX X.K cls d a) := by
  intro pins s σ H xs us Q I r h
  obtain ⟨c, cv, b, D, dd, fs, rfl, rfl, rfl, hdd, hC, hcv, e, q⟩ := h
  cases r with
  | cons rx rr =>
    cases rr with
    | cons rt rr =>
      cases rr
      cases rx
      have ec := hcv _ rt
      subst ec
      obtain ⟨hget, _⟩ := I.pin (a, oe) (List.mem_append.mpr (.inl List.mem_cons_self))
      obtain ⟨vs, hv⟩ := hf
      have hx : ObjOk X.prog X.w H s.heap dd (.xd fs) := I.hok dd _ hdd
      obtain ⟨mA, hns, _⟩ := hx
      obtain ⟨o1, ho1, _⟩ := lookIn_ns hns
      have J : PySem.W.InstAt s.heap a oe D (some o1) := ⟨hget, hz.1, by unfold PySem.W.notCls; rw [hv] <;> rfl, by rw [hz.2]; exact ho1⟩
      exact PySem.W.kia_one (PySem.W.dl_kitx hC) I.kIn J e (fun z => nomatch z) fun tk => ⟨.bl b, H, I.kept (t' := tk) fun _ _ z => z, rfl, q⟩

section
variable {K : PySem.W.Frag} {ρ : List Sl} {ta te : TE} {d : D} {P : Oc → Prop} {Ex : XK}
/-- what an __init__ that stores its arguments, each under its name, keeps -/
def spI (K : PySem.W.Frag) (C : Addr) (fls : List Str) : Sp := fun vs H Q _ => ∃ (a : Addr) (ys : List V), vs = .ref a :: ys ∧ ys.length = fls.length ∧ H a = some (exo a C none) ∧
  ∀ d H2, H d = none → d ≠ a → H2 a = some (exo a C (some d)) → H2 d = some (exd d (fls.zip ys).reverse) → (∀ b, b ≠ a → b ≠ d → H2 b = H b) → Q .non H2
/-- raise C(e, ..) -/
theorem st_raise {C : Addr} {fls : List Str} {t : TA} {ds : List D} (h : EA K t ρ ds) (hl : ds.length = fls.length) (hl2 : ds.length ≤ 1000) (q : P (.ex C (fls.zip ds).reverse)) :
    ST K Ex (fun _ σ H => tMkO C (spI K C fls) [] t σ H fun cls d H' => (fun (cls : Value) (d : Option Addr) (_ : L2.St) (H : Hp) => Ex cls d H) cls d σ H') ρ P := fun G0 H0 G H σ D E f =>
  h G0 H0 G H σ _ E fun vs G1 H1 e1 h1 => ⟨by rw [h1.length]; exact hl2, fun a ha => by
    rw [List.append_nil]
    refine ⟨a, vs, rfl, by rw [h1.length]; exact hl, upd_same, fun d H2 hd hda ea ed keep => ⟨rfl, d, (fls.zip vs).reverse, ea, ed, ?_, ?_⟩⟩
    · rw [upd_ne hda] at hd; exact hd
    · have hd1 : H1 d = none := by rw [upd_ne hda] at hd; exact hd
      have x : Ext G1 H1 (upd G1 d (.xd (fls.zip vs).reverse)) (upd (del H2 a) d (.xd (fls.zip vs).reverse)) := by
        have gd : G1 d = none := e1.gh.none hd1
        have ga : G1 a = none := e1.gh.none ha
        have old : ∀ b o, H1 b = some o → del H2 a b = some o := fun b o hb => by
          have n1 : b ≠ a := ne_of_none hb ha
          have n2 : b ≠ d := ne_of_none hb hd1
          rw [del_ne n1, keep b n1 n2, upd_ne n1]
          exact hb
        refine ⟨fun b o hb => by rw [upd_ne (ne_of_none hb gd)]; exact hb, fun b o hb => .inl (by rw [upd_ne (ne_of_none hb hd1)]; exact old b o hb), fun b o hb => ?_, fun b o hb _ n => by rw [upd_ne (ne_of_none hb hd1)]; exact n⟩
        by_cases hbd : b = d
        · subst hbd
          rw [upd_same] at hb
          cases hb
          exact .of upd_same
        · rw [upd_ne hbd] at hb
          have n1 : b ≠ a := ne_of_none hb ga
          exact (e1.gh b o hb).eq (by rw [upd_ne hbd, del_ne n1, keep b n1 hbd, upd_ne n1])
      refine f.ex C _ d _ _ _ q (E.ext.trans (e1.trans x)) upd_same ?_
      have h2 := h1.mono x.g
      have hlen := h1.length
      refine ⟨?_, ?_⟩
      · rw [List.map_reverse, List.map_reverse, List.map_fst_zip (by omega), List.map_fst_zip (by omega)]
      · rw [List.map_reverse, List.map_reverse, List.map_snd_zip (by omega), List.map_snd_zip (by omega)]
        exact h2.rev⟩
/-- a def that may raise: it answers d where R tells so, it raises C with the fields fl where Y tells so -/
def PX (K : PySem.W.Frag) (R : List D → D → Prop) (Y : List D → Addr → List (Str × D) → Prop) : Sp := fun vs H Q E => ∃ G ds, GH G H ∧ DqA K G vs ds ∧
  ((∃ d, R ds d ∧ ∀ v G' H', Ext G H G' H' → Dq K G' v d → Q v H') ∨ (∃ C fl, Y ds C fl ∧ ∀ dd fs G' H', Ext G H G' H' → G' dd = some (.xd fs) → DqF K G' fs fl → E (.ref C) (some dd) H'))
/-- a call in a def that lets the callee's exception out -/
theorem st_asgX {R : List D → D → Prop} {Y : List D → Addr → List (Str × D) → Prop} {t : TA} {ds : List D} {j : Nat} (h : EA K t ρ ds) (hr : (∃ d, R ds d ∧ P (.nx (ρ.set j (.fr d)))) ∨ (∃ C fl, Y ds C fl ∧ P (.ex C fl))) :
    ST K Ex (tAsg (tCallS (PX K R Y) (fun _ => Ex) t) (gName j)) ρ P := fun G0 H0 G H σ D E f =>
  h G0 H0 G H σ _ E fun vs G1 H1 e1 h1 => by
    have E1 := E.go e1
    rcases hr with ⟨d, hd, q⟩ | ⟨C, fl, hY, q⟩
    · exact ⟨G1, ds, e1.gh, h1, .inl ⟨d, hd, fun v G2 H2 x hv => f.nx _ _ G2 H2 q ((E1.go x).setF j hv)⟩⟩
    · exact ⟨G1, ds, e1.gh, h1, .inr ⟨C, fl, hY, fun dd fs G2 H2 x hx hf => f.ex C fl dd fs G2 H2 q (E1.ext.trans x) hx hf⟩⟩
theorem st_retX {R : List D → D → Prop} {Y : List D → Addr → List (Str × D) → Prop} {t : TA} {ds : List D} (h : EA K t ρ ds) (hr : (∃ d, R ds d ∧ P (.rt d)) ∨ (∃ C fl, Y ds C fl ∧ P (.ex C fl))) :
    ST K Ex (tRet (tCallS (PX K R Y) (fun _ => Ex) t)) ρ P := fun G0 H0 G H σ D E f =>
  h G0 H0 G H σ _ E fun vs G1 H1 e1 h1 => by
    have E1 := E.go e1
    rcases hr with ⟨d, hd, q⟩ | ⟨C, fl, hY, q⟩
    · exact ⟨G1, ds, e1.gh, h1, .inl ⟨d, hd, fun v G2 H2 x hv => f.rt _ _ G2 H2 q (E1.ext.trans x) hv⟩⟩
    · exact ⟨G1, ds, e1.gh, h1, .inr ⟨C, fl, hY, fun dd fs G2 H2 x hx hf => f.ex C fl dd fs G2 H2 q (E1.ext.trans x) hx hf⟩⟩
/-- the ends of an except suite: slot i is forgotten -/
def suiP (i : Nat) (P : Oc → Prop) : Oc → Prop
  | .nx ρ => P (.nx (ρ.set i .no))
  | .ct ρ => P (.ct (ρ.set i .no))
  | .bk ρ => P (.bk (ρ.set i .no))
  | .rt d => P (.rt d)
  | .ex _ _ => False
/-- try: x = f(..) / except X as n: suite -/
theorem st_tryAsg {R : List D → D → Prop} {Y : List D → Addr → List (Str × D) → Prop} {t : TA} {ds : List D} {i j : Nat} {c : Value} {ts : Addr → Value → Option Addr → TS} {Wout : WX} (h : EA K t ρ ds)
    (hr : (∃ d, R ds d ∧ P (.nx (ρ.set j (.fr d)))) ∨
      (∃ C fl, Y ds C fl ∧ PySem.W.exmOne K (.ref C) c = some true ∧ ∀ a dd, ST K E0 (ts a (.ref C) (some dd)) (ρ.set i (Sl.ex a dd fl)) (suiP i P))) :
    ST K Ex (fun D σ H => tAsg (tCallS (PX K R Y) (WE (wAs K c i ts Wout D)) t) (gName j) D σ H) ρ P := fun G0 H0 G H σ D E f =>
  h G0 H0 G H σ _ E fun vs G1 H1 e1 h1 => by
    have E1 := E.go e1
    rcases hr with ⟨d, hd, q⟩ | ⟨C, fl, hY, he, q⟩
    · exact ⟨G1, ds, e1.gh, h1, .inl ⟨d, hd, fun v G2 H2 x hv => f.nx _ _ G2 H2 q ((E1.go x).setF j hv)⟩⟩
    · refine ⟨G1, ds, e1.gh, h1, .inr ⟨C, fl, hY, fun dd fs G2 H2 x hx hf => ⟨true, he, fun _ a ha => ?_, fun z => nomatch z⟩⟩⟩
      exact q a dd G0 H0 G2 H2 _ _ ((E1.go x).setE i hx hf) ⟨fun ρ' σ' G' H' p E' => f.nx _ _ G' H' p (E'.setX i none), fun d v G' H' p x hd => f.rt d v G' H' p x hd,
        fun ρ' σ' G' H' p E' => f.bk _ _ G' H' p (E'.setX i none), fun ρ' σ' G' H' p E' => f.ct _ _ G' H' p (E'.setX i none), fun C fl dd fs G' H' p => p.elim⟩
/-- e.f of a caught exception -/
theorem ev_xf {n : Nat} {a dd C : Addr} {fl : List (Str × D)} {f : Str} (hn : ρ[n]? = some (Sl.ex a dd fl)) (hf : fl.lookup f = some d) : EV K (tXf a (.ref C) (some dd) C f (tVar n)) ρ d := fun G0 H0 G H σ Q E q => by
  obtain ⟨h1, fs, h2, h3⟩ := E.ex n a dd fl hn
  obtain ⟨v, h4, h5⟩ := h3.get hf
  rcases E.gh dd _ h2 with ⟨h6, _⟩ | ⟨z, _⟩ | z
  · exact ⟨_, h1, rfl, rfl, dd, fs, v, rfl, h6, h4, q v G H (.refl E.gh) h5⟩
  · cases z
  · exact z.elim
/-- isinstance(e, c) of a caught exception -/
theorem ev_isX {n : Nat} {a dd C : Addr} {fl : List (Str × D)} {c : V} {cv : Value} {b : Bool} (hn : ρ[n]? = some (Sl.ex a dd fl)) (hC : ExcC K C) (hc : ∀ u, RelV c u → u = cv) (hk : PySem.W.kitOne K (.ref C) cv = some b) :
    EV K (tCB (rIsX K (.ref C) (some dd) a) (tCons (tVar n) (tCons (tC c) tNil))) ρ (.bool b) := fun G0 H0 G H σ Q E q => by
  obtain ⟨h1, fs, h2, h3⟩ := E.ex n a dd fl hn
  rcases E.gh dd _ h2 with ⟨h6, _⟩ | ⟨z, _⟩ | z
  · exact ⟨_, h1, c, cv, b, C, dd, fs, rfl, rfl, rfl, h6, hC, hc, hk, q _ G H (.refl E.gh) (.bl b)⟩
  · cases z
  · exact z.elim
end
section
variable {P : Program} {w : World} {K : PySem.W.Frag} {mg : Str → Option Value} {base : Heap}
/-- a def that may raise keeps its word, by its body's -/
theorem fn_px {x qual : Str} {params : Arguments} {body : List Stmt} {scope : Scope} {f : Addr} {fd : FuncData} {N ps : List Str} {k : Nat} {R : List D → D → Prop} {Y : List D → Addr → List (Str × D) → Prop} (F : FunD K x qual params body scope [] [] f fd) (S : FnScope N ps scope)
    (len : ∀ ds d, R ds d → ds.length = ps.length) (lenY : ∀ ds C fl, Y ds C fl → ds.length = ps.length)
    (hb : ∀ (cdv : Value) (A : Around) (outer : List PySem.Env) (s : Shared) (H : Hp) (E : XK), Room k (A.deeper (envOfC qual scope s.heap.objs.size f cdv)) →
      ∃ t, PSs (cxOf (L2.CX P w) P w K mg base N qual scope f cdv A outer s H E) body t ∧ (∀ ds d, R ds d → DL.ST K E t (start0 N.length ds) (fun o => o = .rt d ∨ (d = .none ∧ ∃ ρ, o = .nx ρ))) ∧
        (∀ ds C fl, Y ds C fl → DL.ST K E t (start0 N.length ds) (fun o => o = .ex C fl))) : FnOk P w K mg base (L2.CX P w) (k + 1) f fd ps (PX K R Y) := by
  refine F.ok S (fun vs H Q E h => ?_) (fun cdv A outer s H vs Q E hr h => ?_)
  · obtain ⟨G, ds, g, ha, h⟩ := h
    rcases h with ⟨d, hR, _⟩ | ⟨C, fl, hY, _⟩
    · exact ha.length.trans (len ds d hR)
    · exact ha.length.trans (lenY ds C fl hY)
  · obtain ⟨t, h1, h2, h3⟩ := hb cdv A outer s H E hr
    obtain ⟨G, ds, g, ha, h⟩ := h
    rcases h with ⟨d, hR, q⟩ | ⟨C, fl, hY, q⟩
    · refine ⟨t, h1, h2 ds d hR G H G H _ _ (en_start g ha) ⟨fun ρ' σ' G' H' p E' => ?_, fun d' v G' H' p x hv => ?_, fun ρ' σ' G' H' p E' => ?_, fun ρ' σ' G' H' p E' => ?_, fun C fl dd fs G' H' p => ?_⟩⟩
      · rcases p with p | ⟨rfl, _⟩
        · cases p
        · exact q _ G' H' E'.ext .non
      · rcases p with p | ⟨rfl, ρ, p⟩
        · cases p
          exact q v G' H' x hv
        · cases p
      · rcases p with p | ⟨_, _, p⟩ <;> cases p
      · rcases p with p | ⟨_, _, p⟩ <;> cases p
      · rcases p with p | ⟨_, _, p⟩ <;> cases p
    · exact ⟨t, h1, h3 ds C fl hY G H G H _ _ (en_start g ha) ⟨(fun _ _ _ _ p _ => nomatch p), (fun _ _ _ _ p _ => nomatch p), (fun _ _ _ _ p _ => nomatch p), (fun _ _ _ _ p _ => nomatch p), fun C' fl' dd fs G' H' p x h4 h5 => by
        cases p
        exact q dd fs G' H' x h4 h5⟩⟩
/-- an __init__ with one field -/
theorem fn_init1 {qual f1 : Str} {params : Arguments} {body : List Stmt} {scope : Scope} {f C : Addr} {fd : FuncData} {N : List Str} {k : Nat} (F : FunD K "__init__" qual params body scope [] [] f fd) (S : FnScope N ["self", f1] scope) (hN : N = (["self", f1] : List Str)) (T : OexC K C) (hno : PySem.W.findIn K (.ref C) f1 = some none)
    (hb : ∀ (cdv : Value) (A : Around) (outer : List PySem.Env) (s : Shared) (H : Hp) (E : XK), PSs (cxOf CX0 P w K mg base N qual scope f cdv A outer s H E) body (tOst K f1 (tVar 0) (tVar 1))) :
    FnOk P w K mg base CX0 (k + 1) f fd ["self", f1] (spI K C [f1]) := by
  subst hN
  refine F.ok S (fun vs H Q E h => ?_) (fun cdv A outer s H vs Q E hr h => ⟨_, hb cdv A outer s H E, ?_⟩)
  · obtain ⟨a, ys, rfl, hl, _⟩ := h
    rw [List.length_cons, hl]; rfl
  · obtain ⟨a, ys, rfl, hl, ha, q⟩ := h
    match ys, hl with
    | [y], _ =>
      refine ⟨_, rfl, _, rfl, a, C, rfl, T, hno, .inl ⟨ha, fun dx hd ne => ?_⟩⟩
      refine q dx _ hd ne upd_same (by rw [upd_ne ne, upd_same]; rfl) fun b h1 h2 => by rw [upd_ne h1, upd_ne h2]
/-- .. with two fields -/
theorem fn_init2 {qual f1 f2 : Str} {params : Arguments} {body : List Stmt} {scope : Scope} {f C : Addr} {fd : FuncData} {N : List Str} {k : Nat} (F : FunD K "__init__" qual params body scope [] [] f fd) (S : FnScope N ["self", f1, f2] scope) (hN : N = (["self", f1, f2] : List Str)) (T : OexC K C)
    (hno1 : PySem.W.findIn K (.ref C) f1 = some none) (hno2 : PySem.W.findIn K (.ref C) f2 = some none)
    (hb : ∀ (cdv : Value) (A : Around) (outer : List PySem.Env) (s : Shared) (H : Hp) (E : XK), PSs (cxOf CX0 P w K mg base N qual scope f cdv A outer s H E) body (tSeq (tOst K f1 (tVar 0) (tVar 1)) (tOst K f2 (tVar 0) (tVar 2)))) :
    FnOk P w K mg base CX0 (k + 1) f fd ["self", f1, f2] (spI K C [f1, f2]) := by
  subst hN
  refine F.ok S (fun vs H Q E h => ?_) (fun cdv A outer s H vs Q E hr h => ⟨_, hb cdv A outer s H E, ?_⟩)
  · obtain ⟨a, ys, rfl, hl, _⟩ := h
    rw [List.length_cons, hl]; rfl
  · obtain ⟨a, ys, rfl, hl, ha, q⟩ := h
    match ys, hl with
    | [y, z], _ =>
      refine ⟨_, rfl, _, rfl, a, C, rfl, T, hno1, .inl ⟨ha, fun dx hd ne => ?_⟩⟩
      refine ⟨_, rfl, _, rfl, a, C, rfl, T, hno2, .inr ⟨dx, _, upd_same, by rw [upd_ne ne, upd_same], by show 1 ≤ 900; decide, ?_⟩⟩
      refine q dx _ hd ne (by rw [upd_ne ne.symm, upd_same]) (by rw [upd_same]; rfl) fun b h1 h2 => by rw [upd_ne h2, upd_ne h1, upd_ne h2]
end
end DL

set_option maxHeartbeats 1000000
/-! DL8: what the top has left: a Hook with one more Bool; own exception classes. -/
namespace DL
open PySem PySem.Spec PyProof.Rows L2

/-! ### the Hook -/
structure SaysB (fa : List He.Fa) (fn : List He.DefD) (ex : PySem.W.Frag → Bool) (K : PySem.W.Frag) : Prop where
  d : He.SaysD fa fn K
  more : ex K = true
abbrev AlB : Type := He.AlD × Bool
def obsB (fa : List He.Fa) (fn : List He.DefD) (ex : PySem.W.Frag → Bool) (K : PySem.W.Frag) : AlB := (He.obsD fa fn K, ex K)
def obsBG (n : Nat) (fa : List He.Fa) (fn : List He.DefD) (ex : PySem.W.Frag → Bool) (g : Addr → Option Obj) : AlB := obsB fa fn ex (He.frG g (He.asD g n))
def hookB (n : Nat) (fa : List He.Fa) (fn : List He.DefD) (ex : PySem.W.Frag → Bool) : PySem.W.Hook where
  α := AlB
  obs := fun s => obsBG n fa fn ex s.heap.get?
  val := fun _ => (He.valD fn, true)
  says := fun _ h => ∃ K : PySem.W.Frag, K.In h ∧ SaysB fa fn ex K
  of := fun _ _ e => ⟨_, He.frG_in, ⟨congrArg (fun z : AlB => z.1) e, congrArg (fun z : AlB => z.2) e⟩⟩
  keeps := fun _ _ _ ⟨K, hK, c⟩ k => ⟨K, PySem.W.Frag.In.keeps hK k, c⟩
theorem obsBG_eq {n : Nat} {fa : List He.Fa} {fn : List He.DefD} {ex : PySem.W.Frag → Bool} {g : Addr → Option Obj} {s : Shared} (h : ∀ a, g a = s.heap.get? a) : obsBG n fa fn ex g = (hookB n fa fn ex).obs s := by
  have e : g = s.heap.get? := funext h
  rw [e] <;> rfl

/-! ### an own exception class -/
def oexB (K : PySem.W.Frag) (C : Addr) : Bool := match K.lookup C with
  | some ⟨.type "type", _, .cls cd, sl⟩ => (match cd.mro, sl.toList with
    | .ref C' :: bm, [_, _, _, _, some (.builtin n), _] => C' == C && (n == "ValueError.__new__" && (!cd.hasDel && (cd.hasDict && PySem.HandSPX.refsVE bm)))
    | _, _ => false)
  | _ => false
theorem oexB_ok {K : PySem.W.Frag} {C : Addr} (h : oexB K C = true) : ∃ nm q N bs bm sn sub ab col dd k0 k1 k2 k3 k5, K.lookup C = some (excClassObj nm q C N bs bm true sn sub ab col dd k0 k1 k2 k3 k5 "ValueError.__new__") ∧ PySem.HandSPX.refsVE bm = true := by
  unfold oexB at h
  split at h
  · rename_i dd cd sl hl
    split at h
    · rename_i C' bm a0 a1 a2 a3 n a5 hm hs
      obtain ⟨h1, h⟩ := Bool.and_eq_true_iff.mp h
      obtain ⟨h2, h⟩ := Bool.and_eq_true_iff.mp h
      obtain ⟨h3, h⟩ := Bool.and_eq_true_iff.mp h
      obtain ⟨h4, h5⟩ := Bool.and_eq_true_iff.mp h
      have e1 : C' = C := beq_iff_eq.mp h1
      have e2 : n = "ValueError.__new__" := beq_iff_eq.mp h2
      subst e1
      subst e2
      obtain ⟨nm, bs, mro, N, q, hd, sn, sub, ab, col, del⟩ := cd
      dsimp only at hm h3 h4
      subst hm
      subst h4
      have e3 : del = false := by
        cases del with
        | false => rfl
        | true => cases h3
      subst e3
      have e4 : sl = #[a0, a1, a2, a3, some (.builtin "ValueError.__new__"), a5] := by
        cases sl with
        | mk l => exact congrArg Array.mk hs
      subst e4
      exact ⟨nm, q, N, bs, bm, sn, sub, ab, col, dd, a0, a1, a2, a3, a5, hl, h5⟩
    · cases h
  · cases h
structure ExF (K : PySem.W.Frag) (C : Addr) : Prop where
  oex : OexC K C
  exc : ExcC K C
  xf : XfC K C
def exB (K : PySem.W.Frag) (C : Addr) : Bool := oexB K C && (He.eqO (PySem.W.findIn K (.ref C) "__setattr__") (some (some (.builtin "object.__setattr__"))) && (decide (PySem.W.subIn K (.ref C) (.type "BaseException") = some true) && (decide (PySem.W.typeIn K (.ref C) = some (.type "type")) && (PySem.W.keepIn K (.ref C) &&
  (He.eqO (PySem.W.findIn K (.ref C) "__getattribute__") (some (some (.builtin "BaseException.__getattribute__"))) && (He.eqO (PySem.W.findIn K (.ref C) "__getattr__") (some none) && (PySem.W.hasDictIn K C && (He.eqO (PySem.W.findIn K (.ref C) "__class__") (some (some (.builtin "object.__class__"))) &&
  (He.eqO (PySem.W.specialIn K (.builtin "object.__class__") "__get__") (some (some (.builtin "getset_descriptor.__get__"))) && (decide (PySem.W.takesIn K (.builtin "object.__class__") = some true) && decide (PySem.W.mroIn K C (.type "object") = some true)))))))))))
theorem exB_ok {K : PySem.W.Frag} {C : Addr} (h : exB K C = true) : ExF K C := by
  unfold exB at h
  obtain ⟨h1, h⟩ := Bool.and_eq_true_iff.mp h
  obtain ⟨h2, h⟩ := Bool.and_eq_true_iff.mp h
  obtain ⟨h3, h⟩ := Bool.and_eq_true_iff.mp h
  obtain ⟨h4, h⟩ := Bool.and_eq_true_iff.mp h
  obtain ⟨h5, h⟩ := Bool.and_eq_true_iff.mp h
  obtain ⟨h6, h⟩ := Bool.and_eq_true_iff.mp h
  obtain ⟨h7, h⟩ := Bool.and_eq_true_iff.mp h
  obtain ⟨h8, h⟩ := Bool.and_eq_true_iff.mp h
  obtain ⟨h9, h⟩ := Bool.and_eq_true_iff.mp h
  obtain ⟨h10, h⟩ := Bool.and_eq_true_iff.mp h
  obtain ⟨h11, h12⟩ := Bool.and_eq_true_iff.mp h
  have a3 := of_decide_eq_true h3
  exact ⟨⟨oexB_ok h1, He.eqO_ok h2, a3, of_decide_eq_true h4, h5⟩, ⟨He.eqO_ok h6, He.eqO_ok h7, a3, h8, He.eqO_ok h9, He.eqO_ok h10, of_decide_eq_true h11, of_decide_eq_true h12⟩, ⟨He.eqO_ok h6, He.eqO_ok h7, a3, h8⟩⟩
/-- its __init__ -/
def exI (K : PySem.W.Frag) (C : Addr) : Bool := He.eqO (PySem.W.findIn K (.ref C) "__init__") (some (some (.ref (He.ma K C "__init__")))) && decide (PySem.W.typeIn K (.ref (He.ma K C "__init__")) = some (.type "function"))
theorem exI_ok {K : PySem.W.Frag} {C : Addr} (h : exI K C = true) : PySem.W.findIn K (.ref C) "__init__" = some (some (.ref (He.ma K C "__init__"))) ∧ PySem.W.typeIn K (.ref (He.ma K C "__init__")) = some (.type "function") := by
  obtain ⟨h1, h2⟩ := Bool.and_eq_true_iff.mp h
  exact ⟨He.eqO_ok h1, of_decide_eq_true h2⟩
def kitR (K : PySem.W.Frag) (C E : Addr) (b : Bool) : Bool := decide (PySem.W.kitOne K (.ref C) (.ref E) = some b)
def kitT (K : PySem.W.Frag) (C : Addr) (n : String) (b : Bool) : Bool := decide (PySem.W.kitOne K (.ref C) (.type n) = some b)
theorem kitR_ok {K : PySem.W.Frag} {C E : Addr} {b : Bool} (h : kitR K C E b = true) : PySem.W.kitOne K (.ref C) (.ref E) = some b := of_decide_eq_true h
theorem kitT_ok {K : PySem.W.Frag} {C : Addr} {n : String} {b : Bool} (h : kitT K C n b = true) : PySem.W.kitOne K (.ref C) (.type n) = some b := of_decide_eq_true h
/-- all of a list of Bools -/
theorem allB {bs : List Bool} (h : bs.all id = true) (i : Nat) {b : Bool} (e : bs[i]? = some b) : b = true := List.all_eq_true.mp h b (List.mem_of_getElem? e)
end DL

set_option maxHeartbeats 1000000
/-! DL9: short words for derivations and readings. -/
namespace DL
open PySem PySem.Spec PyProof.Rows L2

theorem b_len : bootBuiltins "len" = some (.builtin "len") := by decide +kernel
theorem b_isinstance : bootBuiltins "isinstance" = some (.builtin "isinstance") := by decide +kernel
theorem b_sorted : bootBuiltins "sorted" = some (.builtin "sorted") := by decide +kernel
theorem b_int : bootBuiltins "int" = some (.type "int") := by decide +kernel
theorem b_str : bootBuiltins "str" = some (.type "str") := by decide +kernel
theorem b_bool : bootBuiltins "bool" = some (.type "bool") := by decide +kernel
theorem b_tuple : bootBuiltins "tuple" = some (.type "tuple") := by decide +kernel
theorem b_list : bootBuiltins "list" = some (.type "list") := by decide +kernel
theorem b_dict : bootBuiltins "dict" = some (.type "dict") := by decide +kernel
theorem b_ValueError : bootBuiltins "ValueError" = some (.type "ValueError") := by decide +kernel

/-- a def of the top keeps sp, at level k -/
structure Okd (P : Program) (w : World) (K : PySem.W.Frag) (mg : Str → Option Value) (base : Heap) (CX : CXT) (k : Nat) (x : Str) (ps : List Str) (sp : Sp) : Prop where
  m : mg x = some (.ref (He.ga K x))
  ok : ∃ fd, FnOk P w K mg base CX k (He.ga K x) fd ps sp ∧ Binds K fd ps [] ∧ PySem.W.keepIn K (.ref (He.ga K x)) = true
section
variable {X : Cx} {pos p : Pos}
theorem pe_callD {k j : Nat} {x : Str} {ps : List Str} {sp : Sp} {e : Expr} {es : List Expr} {t : TA} (O : Okd X.prog X.w X.K X.mg X.base CX0 k x ps sp) (hr : Room j X.A) (hk : k ≤ j) (ha : PA X (e :: es) t) (hg : Gl X x := by rfl)
    (hdb : (x == ("__debug__" : Str)) = false := by decide) (he : starEach (e :: es) X.env = (false, eval e X.env) :: starEach es X.env := by rfl) (hpl : (backTo pos (starEach es X.env)).any (·.1) = false := by rfl) :
    PE X (.Call (.Name x p) (e :: es) [] pos) (tCall sp [] E0 t) := by
  obtain ⟨m, fd, F, b, kp⟩ := O
  exact pe_call F (hr.mono hk) hg m kp b .nil pass0 ha hdb he hpl
/-- .. of one that may raise, what is raised being wished for at the slots -/
theorem pe_callDS {k j : Nat} {x : Str} {ps : List Str} {sp : Sp} {e : Expr} {es : List Expr} {t : TA} {W : WX} (O : Okd X.prog X.w X.K X.mg X.base (L2.CX X.prog X.w) k x ps sp) (hr : Room j X.A) (hk : k ≤ j) (tk : Takes X W) (ha : PA X (e :: es) t) (hg : Gl X x := by rfl)
    (hdb : (x == ("__debug__" : Str)) = false := by decide) (he : starEach (e :: es) X.env = (false, eval e X.env) :: starEach es X.env := by rfl) (hpl : (backTo pos (starEach es X.env)).any (·.1) = false := by rfl) :
    PE X (.Call (.Name x p) (e :: es) [] pos) (tCallS sp (WE W) t) := by
  obtain ⟨m, fd, F, b, kp⟩ := O
  exact pe_callS F (hr.mono hk) hg m kp b (fun σ => passAt tk σ) ha hdb he hpl
theorem pe_gint {x : Str} {i : Int} (hm : ∃ t, X.mg x = some (.int i t)) (hg : Gl X x := by rfl) (hd : (x == ("__debug__" : Str)) = false := by decide) : PE X (.Name x pos) (tC (.int i)) := by
  obtain ⟨t, hm⟩ := hm
  exact pe_glob hg hm ⟨t, rfl⟩ hd
theorem pe_gstr {x z : Str} (hm : ∃ t, X.mg x = some (.str z t)) (hg : Gl X x := by rfl) (hd : (x == ("__debug__" : Str)) = false := by decide) : PE X (.Name x pos) (tC (.str z)) := by
  obtain ⟨t, hm⟩ := hm
  exact pe_glob hg hm ⟨t, rfl⟩ hd
theorem pe_gref {x : Str} {a : Addr} (hm : X.mg x = some (.ref a)) (hg : Gl X x := by rfl) (hd : (x == ("__debug__" : Str)) = false := by decide) : PE X (.Name x pos) (tC (.ref a)) := pe_glob hg hm rfl hd
def tTr (K : PySem.W.Frag) (ta : TE) : TT := fun σ H Q => ta σ H fun x H' => ∃ k, TruV K x H' k ∧ Q k H'
theorem pt_tr {e : Expr} {te : TE} (h : PE X e te) (he : ∀ whole, isTrue e X.env whole = (do let v ← whole; standAt e.pos; holding [v] (truthy v)) := by intro _; rfl) : PT X e (tTr X.K te) := pt_truth h he
def rJoinU (K : PySem.W.Frag) : V → List V → Hp → VK → Prop := fun x xs H Q => ∃ a p, ∃ ys : List Str, x = .str a ∧ xs = [.ref p] ∧ (SqL K H p (ys.map V.str) ∨ SqT K H p (ys.map V.str)) ∧
  (ys.map (·.length)).sum + ys.length * a.length ≤ 16777216 ∧ Q (.str (Txt.join a ys)) H
theorem pe_joinU {o e : Expr} {to te : TE} {apos : Pos} (ho : PE X o to) (he : PE X e te) (hs : starEach [e] X.env = [(false, eval e X.env)] := by rfl) (hbase : attributeBase o "join" X.env (eval o X.env) = eval o X.env := by rfl) (hline : (apos.endLine == pos.line) = true := by rfl) :
    PE X (.Call (.Attribute o "join" apos) [e] [] pos) (tM1 (rJoinU X.K) to te) := pe_join ho he hs hbase hline
def rSIx : V → List V → Hp → VK → Prop := fun x xs H Q => ∃ a b i rest, x = .str a ∧ xs = [.str b] ∧ Builtin.Str.occurrences a b 0 a.length 1 = i :: rest ∧ Q (.int (i : Nat)) H
theorem pe_sindex {o e : Expr} {to te : TE} {apos : Pos} (ho : PE X o to) (he : PE X e te) (hs : starEach [e] X.env = [(false, eval e X.env)] := by rfl) (hbase : attributeBase o "index" X.env (eval o X.env) = eval o X.env := by rfl) (hline : (apos.endLine == pos.line) = true := by rfl) :
    PE X (.Call (.Attribute o "index" apos) [e] [] pos) (tM1 rSIx to te) := pe_m1 F.slot_str_index F.type_str_index mt_sindex ho he hs hbase hline
/-- raise C(e, ..) of an own class whose __init__ stores its arguments -/
def tRaiseO (K : PySem.W.Frag) (C : Addr) (fls : List Str) (Ex : XK) (t : TA) : TS := fun _ σ H => tMkO C (spI K C fls) [] t σ H fun cls d H' => (fun (cls : Value) (d : Option Addr) (_ : L2.St) (H : Hp) => Ex cls d H) cls d σ H'
/-- what the walk asks of such a class: where it stands, its word -/
structure ExOk (P : Program) (w : World) (K : PySem.W.Frag) (mg : Str → Option Value) (base : Heap) (k : Nat) (x : Str) (fls : List Str) : Prop where
  m : mg x = some (.ref (He.ga K x))
  ef : ExF K (He.ga K x)
  ini : PySem.W.findIn K (.ref (He.ga K x)) "__init__" = some (some (.ref (He.ma K (He.ga K x) "__init__"))) ∧ PySem.W.typeIn K (.ref (He.ma K (He.ga K x) "__init__")) = some (.type "function")
  ok : ∃ fd, FnOk P w K mg base CX0 k (He.ma K (He.ga K x) "__init__") fd ("self" :: fls) (spI K (He.ga K x) fls) ∧ Binds K fd ("self" :: fls) []
theorem ps_raiseO {k j : Nat} {x : Str} {fls : List Str} {Ex : XK} {e : Expr} {es : List Expr} {t : TA} {pos2 : Pos} (O : ExOk X.prog X.w X.K X.mg X.base k x fls) (hr : Room j X.A) (hk : k + 1 ≤ j) (hc : X.calm = true) (tk : Takes X (fun cls d _ H => Ex cls d H)) (ha : PA X (e :: es) t) (hg : Gl X x := by rfl)
    (hdb : (x == ("__debug__" : Str)) = false := by decide) (he : starEach (e :: es) X.env = (false, eval e X.env) :: starEach es X.env := by rfl) (hpl : (backTo pos (starEach es X.env)).any (·.1) = false := by rfl) :
    PS X (.Raise (some (.Call (.Name x p) (e :: es) [] pos)) none pos2) (tRaiseO X.K (He.ga X.K x) fls Ex t) := by
  obtain ⟨m, ef, ⟨i1, i2⟩, fd, F, b⟩ := O
  exact ps_raise hc tk (pmk_oex ef.oex i1 i2 F (hr.mono hk) b .nil (fun _ _ _ _ _ _ _ h => h.elim) hg m ha hdb he hpl)
/-- try: x = f(..) / except C as n: suite; nothing else leaves -/
def tTryA (K : PySem.W.Frag) (c : Value) (i : Nat) (ts : Addr → Value → Option Addr → TS) (sp : Sp) (t : TA) (j : Nat) : TS := fun D σ H => tAsg (tCallS sp (WE (wAs K c i ts (fun _ _ _ _ => False) D)) t) (gName j) D σ H
end
section
variable {K : PySem.W.Frag} {Ex : XK} {ρ : List Sl} {ta tb te : TE} {tt : TT} {t u v : TS} {d : D} {P : Oc → Prop}
theorem st_raiseO {C : Addr} {fls : List Str} {t : TA} {ds : List D} (h : EA K t ρ ds) (hl : ds.length = fls.length) (hl2 : ds.length ≤ 1000) (q : P (.ex C (fls.zip ds).reverse)) : ST K Ex (tRaiseO K C fls Ex t) ρ P := st_raise h hl hl2 q
theorem st_tryA {R : List D → D → Prop} {Y : List D → Addr → List (Str × D) → Prop} {t : TA} {ds : List D} {i j : Nat} {c : Value} {ts : Addr → Value → Option Addr → TS} (h : EA K t ρ ds)
    (hr : (∃ d, R ds d ∧ P (.nx (ρ.set j (.fr d)))) ∨
      (∃ C fl, Y ds C fl ∧ PySem.W.exmOne K (.ref C) c = some true ∧ ∀ a dd, ST K E0 (ts a (.ref C) (some dd)) (ρ.set i (Sl.ex a dd fl)) (suiP i P))) :
    ST K Ex (tTryA K c i ts (PX K R Y) t j) ρ P := st_tryAsg h hr
theorem q_asg {i : Nat} (h : EV K te ρ d) (q : ST K Ex u (ρ.set i (.fr d)) P) : ST K Ex (tSeq (tAsg te (gName i)) u) ρ P := st_seq (st_asg h q)
theorem q_asgN {i : Nat} (h : EVN K te ρ d) (q : ST K Ex u (ρ.set i (.ow d)) P) : ST K Ex (tSeq (tAsg te (gName i)) u) ρ P := st_seq (st_asgN h q)
theorem q_asgG {g : TG} {ρ' : List Sl} {ts : List Nat} (h : EV K te ρ d) (hg : GT K g ρ d ρ' ts) (q : ST K Ex u ρ' P) : ST K Ex (tSeq (tAsg te g) u) ρ P := st_seq (st_asgG h hg q)
theorem q_append {n : Nat} {ds : List D} (hi : ρ[n]? = some (.ow (.list ds))) (h : EV K te ρ d) (hz : ds.length < 16000000) (q : ST K Ex u (ρ.set n (.ow (.list (ds ++ [d])))) P) :
    ST K Ex (tSeq (tDrop (tBM K "list" rAppend (tVar n) (tCons te tNil))) u) ρ P := st_seq (st_append hi h hz q)
theorem q_setL {n : Nat} {ds : List D} {i : Int} {j : Nat} (hi : ρ[n]? = some (.ow (.list ds))) (h : EV K te ρ d) (hb : EV K tb ρ (.int i)) (hj : ixN ds.length i = some j) (q : ST K Ex u (ρ.set n (.ow (.list (ds.set j d)))) P) :
    ST K Ex (tSeq (tAsg te (gSub (tVar n) tb rSetL)) u) ρ P := st_seq (st_setL hi h hb hj q)
theorem q_augI {n : Nat} {a b : Int} (hi : ρ[n]? = some (.fr (.int a))) (h : EV K te ρ (.int b)) (q : ST K Ex u (ρ.set n (.fr (.int (a + b)))) P) : ST K Ex (tSeq (tAug n te rIAddU) u) ρ P := st_seq (st_augI hi h q)
theorem q_augO {n : Nat} {ds es : List D} (hi : ρ[n]? = some (.ow (.list ds))) (h : EV K te ρ (.list es)) (hz : ds.length + es.length ≤ 16000000) (q : ST K Ex u (ρ.set n (.ow (.list (ds ++ es)))) P) :
    ST K Ex (tSeq (tAug n te rIAddU) u) ρ P := st_seq (st_augO hi h hz q)
/-- if c: t (no else), then u -/
theorem q_when {b : Bool} (h : ET K tt ρ b) (h1 : b = true → ST K Ex t ρ (seqP K Ex u P)) (h2 : b = false → ST K Ex u ρ P) : ST K Ex (tSeq (tIfS tt t tNext) u) ρ P := st_seq (st_if h h1 fun hb => st_next (h2 hb))
theorem q_if {b : Bool} (h : ET K tt ρ b) (h1 : b = true → ST K Ex t ρ (seqP K Ex u P)) (h2 : b = false → ST K Ex v ρ (seqP K Ex u P)) : ST K Ex (tSeq (tIfS tt t v) u) ρ P := st_seq (st_if h h1 h2)
theorem et_or1 {tu : TT} (h : ET K tt ρ true) : ET K (tOr tt tu) ρ true := fun G0 H0 G H σ Q E q => h G0 H0 G H σ _ E fun G1 H1 e1 => q G1 H1 e1
theorem et_and0 {tu : TT} (h : ET K tt ρ false) : ET K (tAnd tt tu) ρ false := fun G0 H0 G H σ Q E q => h G0 H0 G H σ _ E fun G1 H1 e1 => q G1 H1 e1
theorem ev_or1 (h : EV K ta ρ (.bool true)) : EV K (tOrV ta tb) ρ (.bool true) := ev_orV (b := true) h (fun z => nomatch z)
theorem ev_and0 (h : EV K ta ρ (.bool false)) : EV K (tAndV ta tb) ρ (.bool false) := ev_andV (b := true) h (fun z => nomatch z)
theorem ev_if1 (h : ET K tt ρ true) (h1 : EV K ta ρ d) : EV K (tIf tt ta tb) ρ d := ev_if h (fun _ => h1) (fun z => nomatch z)
theorem ev_if0 (h : ET K tt ρ false) (h1 : EV K tb ρ d) : EV K (tIf tt ta tb) ρ d := ev_if h (fun z => nomatch z) (fun _ => h1)
theorem q_yes (h : ET K tt ρ true) (h1 : ST K Ex t ρ (seqP K Ex u P)) : ST K Ex (tSeq (tIfS tt t v) u) ρ P := q_if h (fun _ => h1) (fun z => nomatch z)
theorem q_no (h : ET K tt ρ false) (h1 : ST K Ex u ρ P) : ST K Ex (tSeq (tIfS tt t tNext) u) ρ P := q_when h (fun z => nomatch z) (fun _ => h1)
theorem q_noE (h : ET K tt ρ false) (h1 : ST K Ex v ρ (seqP K Ex u P)) : ST K Ex (tSeq (tIfS tt t v) u) ρ P := q_if h (fun z => nomatch z) (fun _ => h1)
/-- a word between two statements -/
def cutP (M : List Sl → Prop) (P : Oc → Prop) : Oc → Prop
  | .nx ρ => M ρ
  | o => P o
theorem q_cut (M : List Sl → Prop) (h : ST K Ex t ρ (cutP M P)) (k : ∀ ρ', M ρ' → ST K Ex u ρ' P) : ST K Ex (tSeq t u) ρ P := st_seq (h.mono fun o p => match o, p with
  | .nx ρ', p => k ρ' p
  | .rt _, p => p
  | .bk _, p => p
  | .ct _, p => p
  | .ex _ _, p => p)
theorem isNone_ne {d : D} (h : d ≠ .none) : isNoneD d = false := by cases d <;> first | rfl | exact absurd rfl h
/-- if c: x = e (no else): the value of x behind it -/
theorem q_ifAsg {b : Bool} {i : Nat} {d' : D} (hi : ρ[i]? = some (.fr d')) (h : ET K tt ρ b) (h1 : b = true → EV K te ρ d) (q : ST K Ex u (ρ.set i (.fr (if b = true then d else d'))) P) : ST K Ex (tSeq (tIfS tt (tAsg te (gName i)) tNext) u) ρ P := by
  refine st_seq (st_if h (fun hb => st_asg (h1 hb) ?_) fun hb => st_next ?_)
  · rw [if_pos hb] at q
    exact q
  · rw [if_neg (by rw [hb]; exact Bool.false_ne_true)] at q
    have e : ρ.set i (.fr d') = ρ := by
      refine List.ext_getElem? fun k => ?_
      by_cases z : i = k
      · subst z
        rw [List.getElem?_set_self (List.getElem?_eq_some_iff.mp hi).1, hi]
      · rw [List.getElem?_set_ne z]
    rw [e] at q
    exact q
theorem q_for {wi : TI} {g : TG} {n : Nat} {item : Nat → D} (hi : EI K wi ρ n item) (I : Nat → List Sl → Prop) (h0 : I 0 ρ)
    (hs : ∀ i ρ1, i < n → I i ρ1 → ∃ ρ2 ts, GT K g ρ1 (item i) ρ2 ts ∧ ST K Ex t ρ2 (loopP (I (i + 1)) (seqP K Ex u P)))
    (hd : ∀ ρ1, I n ρ1 → ST K Ex u ρ1 P) : ST K Ex (tSeq (tFor wi g t) u) ρ P := st_seq (st_for hi I h0 hs hd)
theorem q_while {I : Nat → List Sl → Prop} (m : Nat) (h0 : I m ρ)
    (hs : ∀ m ρ1, I m ρ1 → ∃ b, ET K tt ρ1 b ∧ (b = true → ST K Ex t ρ1 (loopP (fun ρ3 => ∃ m', m' < m ∧ I m' ρ3) (seqP K Ex u P))) ∧ (b = false → ST K Ex u ρ1 P)) : ST K Ex (tSeq (tWhile tt t) u) ρ P := st_seq (st_while m h0 hs)
theorem q_frz {i : Nat} (hi : ρ[i]? = some (.ow d)) (h : ST K Ex t (ρ.set i (.fr d)) P) : ST K Ex t ρ P := st_frz hi h
/-- what a def answers, told by a word about the answer -/
def PQ (K : PySem.W.Frag) (Pre : List D → Prop) (Post : List D → D → Prop) : Sp := fun vs H Q _ => ∃ G ds, GH G H ∧ DqA K G vs ds ∧ Pre ds ∧ ∀ d v G' H', Post ds d → Ext G H G' H' → Dq K G' v d → Q v H'
theorem q_asgQ {Pre : List D → Prop} {Post : List D → D → Prop} {Ey : XK} {t : TA} {ds : List D} {i : Nat} (h : EA K t ρ ds) (hp : Pre ds) (q : ∀ d, Post ds d → ST K Ex u (ρ.set i (.fr d)) P) : ST K Ex (tSeq (tAsg (tCall (PQ K Pre Post) [] Ey t) (gName i)) u) ρ P :=
  st_seq fun G0 H0 G H σ D E f => h G0 H0 G H σ _ E fun vs G1 H1 e1 h1 => by
    rw [List.append_nil]
    exact ⟨G1, ds, e1.gh, h1, hp, fun d v G2 H2 hd x hv => f.nx _ _ G2 H2 (q d hd) (((E.go e1).go x).setF i hv)⟩
/-! tests -/
def truD : D → Bool
  | .none => false
  | .bool b => b
  | .int i => i != 0
  | .str s => (s.length : Int) != 0
  | .list ds => !ds.isEmpty
  | .tuple ds => !ds.isEmpty
  | .dict _ => false
theorem et_tr (h : EV K ta ρ d) (nd : isDicD d = false) (hz : ∀ s, d = .str s → s.length ≤ sizeLine) : ET K (tTr K ta) ρ (truD d) := fun G0 H0 G H σ Q E q => h G0 H0 G H σ _ E fun v G1 H1 e1 h1 => by
  refine ⟨truD d, ?_, q G1 H1 e1⟩
  cases h1 with
  | non => exact rfl
  | bl b => exact rfl
  | int i => exact rfl
  | str x => exact ⟨hz x rfl, rfl⟩
  | @lst a xs ds ha hr =>
    refine .inl ⟨xs, SqL.of (e1.gh.lst ha), ?_⟩
    have := hr.length
    cases xs <;> cases ds <;> first | rfl | cases this
  | @tup a xs ds ha hr =>
    refine .inr (.inl ⟨xs, e1.gh.t ha, ?_⟩)
    have := hr.length
    cases xs <;> cases ds <;> first | rfl | cases this
  | dK _ _ => cases nd
  | dT _ _ => cases nd
  | scr _ => cases nd
  | sta _ _ => cases nd
  | opq _ => cases nd
  | raw _ => cases nd
theorem et_trB {b : Bool} (h : EV K ta ρ (.bool b)) : ET K (tTr K ta) ρ b := et_tr h rfl (fun _ z => nomatch z)
theorem et_trO {n : Nat} {ds : List D} (hi : ρ[n]? = some (.ow (.list ds))) : ET K (tTr K (tVar n)) ρ (!ds.isEmpty) := fun G0 H0 G H σ Q E q => by
  obtain ⟨l, vs, h1, h2, h3⟩ := own_look E hi
  refine ⟨_, h1, _, .inl ⟨vs, SqL.of h2, rfl⟩, ?_⟩
  have e : (!vs.isEmpty) = (!ds.isEmpty) := by
    have := h3.length
    cases vs <;> cases ds <;> first | rfl | cases this
  rw [e]
  exact q G H (.refl E.gh)
/-! texts -/
theorem map_str_dq {G : Hp} : ∀ {ys : List Str} {vs : List V}, DqA K G vs (ys.map PyData.str) → vs = ys.map V.str
  | [], _, h => by cases h; rfl
  | y :: ys, _, h => by
    cases h with
    | cons a b =>
      cases a
      rw [List.map_cons, map_str_dq b]
theorem ev_joinL {a : Str} {ys : List Str} (h1 : EV K ta ρ (.str a)) (h2 : EV K tb ρ (.list (ys.map PyData.str))) (hz : (ys.map (·.length)).sum + ys.length * a.length ≤ 16777216) : EV K (tM1 (rJoinU K) ta tb) ρ (.str (Txt.join a ys)) := fun G0 H0 G H σ Q E q =>
  h1 G0 H0 G H σ _ E fun v G1 H1 e1 hv => by
    cases hv
    refine ⟨⟨a, rfl⟩, h2 G0 H0 G1 H1 σ _ (E.go e1) fun u G2 H2 e2 hu => ?_⟩
    cases hu with
    | @lst p xs _ ha hr =>
      have e := map_str_dq hr
      subst e
      exact ⟨a, p, ys, rfl, rfl, .inl (SqL.of (e2.gh.lst ha)), hz, q _ G2 H2 (e1.trans e2) (.str _)⟩
theorem ev_sindex {a b : Str} {i : Nat} {rest : List Nat} (h1 : EV K ta ρ (.str a)) (h2 : EV K tb ρ (.str b)) (ho : Builtin.Str.occurrences a b 0 a.length 1 = i :: rest) : EV K (tM1 rSIx ta tb) ρ (.int (i : Nat)) := fun G0 H0 G H σ Q E q =>
  h1 G0 H0 G H σ _ E fun v G1 H1 e1 hv => by
    cases hv
    refine ⟨⟨a, rfl⟩, h2 G0 H0 G1 H1 σ _ (E.go e1) fun u G2 H2 e2 hu => ?_⟩
    cases hu
    exact ⟨a, b, i, rest, rfl, rfl, ho, q _ G2 H2 (e1.trans e2) (.int _)⟩
/-! items -/
theorem atI_nn {α : Type} {ds : List α} {i : Int} (z : α) (h0 : 0 ≤ i) (h1 : i < ds.length) : atI ds i = some (ds.getD i.toNat z) := by
  obtain ⟨k, rfl⟩ : ∃ k : Nat, i = (k : Nat) := ⟨i.toNat, by omega⟩
  have hk : k < ds.length := by omega
  refine atI_nat ?_
  rw [List.getD_eq_getElem?_getD]
  simp [hk]
theorem atI_ints {ns : List Int} {i : Int} (h0 : 0 ≤ i) (h1 : i < ns.length) : atI (ns.map PyData.int) i = some (.int (ns.getD i.toNat 0)) := by
  obtain ⟨k, rfl⟩ : ∃ k : Nat, i = (k : Nat) := ⟨i.toNat, by omega⟩
  have hk : k < ns.length := by omega
  refine atI_nat ?_
  rw [List.getElem?_map, List.getD_eq_getElem?_getD]
  simp [hk]
theorem atI_strs {ys : List Str} {i : Int} (h0 : 0 ≤ i) (h1 : i < ys.length) : atI (ys.map PyData.str) i = some (.str (ys.getD i.toNat Str.empty)) := by
  obtain ⟨k, rfl⟩ : ∃ k : Nat, i = (k : Nat) := ⟨i.toNat, by omega⟩
  have hk : k < ys.length := by omega
  refine atI_nat ?_
  rw [List.getElem?_map, List.getD_eq_getElem?_getD]
  simp [hk]
theorem ixN_nn {n : Nat} {i : Int} (h0 : 0 ≤ i) (h1 : i < n) : ixN n i = some i.toNat := by
  unfold ixN
  rw [if_pos h0, if_pos h1]
end
/-! tuple(..), list(..) -/
def rTupU (K : PySem.W.Frag) : List V → Hp → VK → Prop := fun xs H Q => ∃ p ys, xs = [.ref p] ∧ ((SqL K H p ys ∧ ∀ l, H l = none → Q (.ref l) (upd H l (.tup ys))) ∨ (SqT K H p ys ∧ Q (.ref p) H))
theorem call_tupleU {X : Cx} : CallR X (.type "tuple") (rTupU X.K) := call_tuple_of
def rListU (K : PySem.W.Frag) : List V → Hp → VK → Prop := fun xs H Q => ∃ p ys, xs = [.ref p] ∧ (SqL K H p ys ∨ SqT K H p ys) ∧ ∀ l, H l = none → Q (.ref l) (upd H l (.lst ys))
theorem call_listU {X : Cx} : CallR X (.type "list") (rListU X.K) := call_list_of
theorem cd_tupL {K : PySem.W.Frag} {ds : List D} : CD K (rTupU K) [.list ds] (.tuple ds) := fun xs G H Q g hx q => by
  cases hx with
  | cons a b =>
    cases b
    cases a with
    | @lst a xs _ ha hr =>
      refine ⟨a, xs, rfl, .inl ⟨SqL.of (g.lst ha), fun l hl => ?_⟩⟩
      exact q _ _ _ (.new g hl) (.tup (SqT.of upd_same) (hr.mono (Ext.new g hl).g))
theorem cd_tupT {K : PySem.W.Frag} {ds : List D} : CD K (rTupU K) [.tuple ds] (.tuple ds) := fun xs G H Q g hx q => by
  cases hx with
  | cons a b =>
    cases b
    cases a with
    | @tup a xs _ ha hr => exact ⟨a, xs, rfl, .inr ⟨g.t ha, q _ G H (.refl g) (.tup ha hr)⟩⟩
theorem cn_listL {K : PySem.W.Frag} {ds : List D} : CN K (rListU K) [.list ds] (.list ds) := fun xs G H Q g hx q => by
  cases hx with
  | cons a b =>
    cases b
    cases a with
    | @lst a xs _ ha hr => exact ⟨a, xs, rfl, .inl (SqL.of (g.lst ha)), fun l hl => q l G _ (.fresh g hl) hl (g.none hl) (.lst upd_same hr)⟩
theorem cn_listT {K : PySem.W.Frag} {ds : List D} : CN K (rListU K) [.tuple ds] (.list ds) := fun xs G H Q g hx q => by
  cases hx with
  | cons a b =>
    cases b
    cases a with
    | @tup a xs _ ha hr => exact ⟨a, xs, rfl, .inr (g.t ha), fun l hl => q l G _ (.fresh g hl) hl (g.none hl) (.lst upd_same hr)⟩
/-! the first place where p holds, below n -/
def firstP (p : Nat → Bool) (n : Nat) : Option Nat := (List.range n).find? p
theorem firstP_some {p : Nat → Bool} {n i : Nat} (hi : i < n) (h0 : ∀ j, j < i → p j = false) (h1 : p i = true) : firstP p n = some i := by
  unfold firstP
  rw [List.find?_range_eq_some]
  exact ⟨h1, by simpa using hi, fun j hj => by rw [h0 j hj]; rfl⟩
theorem firstP_none {p : Nat → Bool} {n : Nat} (h0 : ∀ j, j < n → p j = false) : firstP p n = none := by
  unfold firstP
  rw [List.find?_eq_none]
  intro x hx
  rw [h0 x (by simpa using hx)]
  exact Bool.false_ne_true
theorem len_app (a b : Str) : (a ++ b).length = a.length + b.length := by
  show (a.cps ++ b.cps).size = a.cps.size + b.cps.size
  rw [Array.size_append]
theorem len_cut (z : Str) (lo hi : Option Int) : (cutS z lo hi).length ≤ z.length := cutS_length z lo hi
theorem len_rep (z : Str) (k : Int) : (repS z k).length = k.toNat * z.length := by
  unfold repS Str.length
  rw [List.size_toArray]
  have : ∀ m : Nat, ((List.replicate m z.cps.toList).flatten).length = m * z.cps.toList.length := fun m => by
    induction m with
    | zero => simp
    | succ m ih => rw [List.replicate_succ, List.flatten_cons, List.length_append, ih, Nat.succ_mul]; omega
  rw [this, Array.length_toList]
theorem len_one (c : Nat) : (⟨#[c]⟩ : Str).length = 1 := rfl
section
variable {P : Program} {w : World} {K : PySem.W.Frag} {mg : Str → Option Value} {base : Heap}
theorem fn_pq {x qual : Str} {params : Arguments} {body : List Stmt} {scope : Scope} {f : Addr} {fd : FuncData} {N ps : List Str} {k : Nat} {Pre : List D → Prop} {Post : List D → D → Prop} (F : FunD K x qual params body scope [] [] f fd) (S : FnScope N ps scope)
    (len : ∀ ds, Pre ds → ds.length = ps.length)
    (hb : ∀ (cdv : Value) (A : Around) (outer : List PySem.Env) (s : Shared) (H : Hp) (E : XK), Room k (A.deeper (envOfC qual scope s.heap.objs.size f cdv)) →
      ∃ t, PSs (cxOf CX0 P w K mg base N qual scope f cdv A outer s H E) body t ∧ ∀ ds, Pre ds → DL.ST K E0 t (start0 N.length ds) (fun o => ∃ d, o = .rt d ∧ Post ds d)) : FnOk P w K mg base CX0 (k + 1) f fd ps (PQ K Pre Post) := by
  refine F.ok S (fun vs H Q E h => ?_) (fun cdv A outer s H vs Q E hr h => ?_)
  · obtain ⟨G, ds, g, ha, hR, q⟩ := h
    exact ha.length.trans (len ds hR)
  · obtain ⟨t, h1, h2⟩ := hb cdv A outer s H E hr
    obtain ⟨G, ds, g, ha, hR, q⟩ := h
    exact ⟨t, h1, h2 ds hR G H G H _ _ (en_start g ha) ⟨(fun _ _ _ _ ⟨_, p, _⟩ _ => nomatch p), (fun d' v G' H' ⟨d, p, hp⟩ x hv => by cases p; exact q _ v G' H' hp x hv), (fun _ _ _ _ ⟨_, p, _⟩ _ => nomatch p), (fun _ _ _ _ ⟨_, p, _⟩ _ => nomatch p), (fun _ _ _ _ _ _ ⟨_, p, _⟩ => nomatch p)⟩⟩
end
end DL

set_option maxHeartbeats 1000000
/-! DL10: dicts by data. dkD: keys are ints and texts; dtD: keys are tuples of such. -/
namespace DL
open PySem PySem.Spec PyProof.Rows L2
section
variable {κ : Type} [DecidableEq κ]
def getG (kvs : List (κ × D)) (k : κ) : Option D := (kvs.find? fun kv => decide (kv.1 = k)).map (·.2)
def hasG (kvs : List (κ × D)) (k : κ) : Bool := (getG kvs k).isSome
def putG (kvs : List (κ × D)) (k : κ) (d : D) : List (κ × D) := if (kvs.any fun kv => decide (kv.1 = k)) = true then kvs.map (fun kv => if kv.1 = k then (kv.1, d) else kv) else kvs ++ [(k, d)]
end
def dkD (kvs : List (Key × D)) : D := .dict (kvs.map fun p => (kD p.1, p.2))
def dtD (kvs : List (List Key × D)) : D := .dict ((.none, .none) :: kvs.map fun p => (.tuple (p.1.map kD), p.2))
inductive DqV {κ : Type} (K : PySem.W.Frag) (G : Hp) : List (κ × V) → List (κ × D) → Prop
  | nil : DqV K G [] []
  | cons {k : κ} {v : V} {d : D} {es : List (κ × V)} {kvs : List (κ × D)} : Dq K G v d → DqV K G es kvs → DqV K G ((k, v) :: es) ((k, d) :: kvs)
theorem kD_inj : ∀ {a b : Key}, kD a = kD b → a = b
  | .inl i, .inl j, h => by cases h; rfl
  | .inr i, .inr j, h => by cases h; rfl
  | .inl i, .inr j, h => by cases h
  | .inr i, .inl j, h => by cases h
theorem kDs_inj : ∀ {a b : List Key}, a.map kD = b.map kD → a = b
  | [], [], _ => rfl
  | [], _ :: _, h => by cases h
  | _ :: _, [], h => by cases h
  | x :: a, y :: b, h => by
    rw [List.map_cons, List.map_cons] at h
    injection h with h1 h2
    rw [kD_inj h1, kDs_inj h2]
theorem kD_bool {k : Key} {b : Bool} (h : kD k = .bool b) : False := by cases k <;> cases h
theorem kD_none {k : Key} (h : kD k = .none) : False := by cases k <;> cases h
section
variable {K : PySem.W.Frag} {G : Hp}
theorem DqK.v : ∀ {kvs : List (Key × D)} {es : List (Key × V)} {ls : List (D × D)}, DqK K G es ls → ls = kvs.map (fun p => (kD p.1, p.2)) → DqV K G es kvs
  | [], _, _, h, e => by
    subst e
    cases h
    exact .nil
  | (k, d) :: kvs, _, _, h, e => by
    cases h with
    | nil => cases e
    | cons a b =>
      rw [List.map_cons] at e
      injection e with e1 e2
      injection e1 with e3 e4
      have := kD_inj e3
      subst this
      dsimp only at e4
      subst e4
      exact .cons a (DqK.v b e2)
theorem DqT.v : ∀ {kvs : List (List Key × D)} {es : List (List Key × V)} {ls : List (D × D)}, DqT K G es ls → ls = kvs.map (fun p => (PyData.tuple (p.1.map kD), p.2)) → DqV K G es kvs
  | [], _, _, h, e => by
    subst e
    cases h
    exact .nil
  | (k, d) :: kvs, _, _, h, e => by
    cases h with
    | nil => cases e
    | cons a b =>
      rw [List.map_cons] at e
      injection e with e1 e2
      injection e1 with e3 e4
      injection e3 with e3
      have := kDs_inj e3
      subst this
      dsimp only at e4
      subst e4
      exact .cons a (DqT.v b e2)
theorem DqV.k : ∀ {kvs : List (Key × D)} {es : List (Key × V)}, DqV K G es kvs → DqK K G es (kvs.map fun p => (kD p.1, p.2))
  | [], _, h => by cases h; exact .nil
  | _ :: kvs, _, h => by
    cases h with
    | cons a b => exact .cons a (DqV.k b)
theorem DqV.t : ∀ {kvs : List (List Key × D)} {es : List (List Key × V)}, DqV K G es kvs → DqT K G es (kvs.map fun p => (PyData.tuple (p.1.map kD), p.2))
  | [], _, h => by cases h; exact .nil
  | _ :: kvs, _, h => by
    cases h with
    | cons a b => exact .cons a (DqV.t b)
theorem DqV.mono {κ : Type} {A B : Hp} (x : Sub A B) : ∀ {es : List (κ × V)} {kvs : List (κ × D)}, DqV K A es kvs → DqV K B es kvs
  | _, _, .nil => .nil
  | _, _, .cons a b => .cons (a.mono x) (DqV.mono x b)
theorem DqV.length {κ : Type} : ∀ {es : List (κ × V)} {kvs : List (κ × D)}, DqV K G es kvs → es.length = kvs.length
  | _, _, .nil => rfl
  | _, _, .cons _ b => congrArg Nat.succ (DqV.length b)
theorem DqV.keys {κ : Type} : ∀ {es : List (κ × V)} {kvs : List (κ × D)}, DqV K G es kvs → es.map (·.1) = kvs.map (·.1)
  | _, _, .nil => rfl
  | _, _, .cons _ b => congrArg _ (DqV.keys b)
theorem DqV.get {κ : Type} [DecidableEq κ] {k : κ} : ∀ {es : List (κ × V)} {kvs : List (κ × D)}, DqV K G es kvs → (valV es k = none ∧ getG kvs k = none) ∨ ∃ v d, valV es k = some v ∧ getG kvs k = some d ∧ Dq K G v d
  | _, _, .nil => .inl ⟨rfl, rfl⟩
  | _, _, @DqV.cons _ _ _ k' v d es kvs a b => by
    by_cases e : k' = k
    · refine .inr ⟨v, d, valV_pos e, ?_, a⟩
      unfold getG
      rw [List.find?_cons_of_pos (by exact decide_eq_true e)]
      rfl
    · rw [valV_neg (p := (k', v)) e]
      have : getG ((k', d) :: kvs) k = getG kvs k := by
        unfold getG
        rw [List.find?_cons_of_neg (by simpa using e)]
      rw [this]
      exact DqV.get b
theorem DqV.any {κ : Type} [DecidableEq κ] {k : κ} : ∀ {es : List (κ × V)} {kvs : List (κ × D)}, DqV K G es kvs → (es.any fun kv => decide (kv.1 = k)) = kvs.any fun kv => decide (kv.1 = k)
  | _, _, .nil => rfl
  | _, _, .cons _ b => by rw [List.any_cons, List.any_cons, DqV.any b]
theorem DqV.map {κ : Type} [DecidableEq κ] {k : κ} {v : V} {d : D} (x : Dq K G v d) : ∀ {es : List (κ × V)} {kvs : List (κ × D)}, DqV K G es kvs → DqV K G (es.map fun kv => if kv.1 = k then (kv.1, v) else kv) (kvs.map fun kv => if kv.1 = k then (kv.1, d) else kv)
  | _, _, .nil => .nil
  | _, _, @DqV.cons _ _ _ k' v' d' es kvs a b => by
    rw [List.map_cons, List.map_cons]
    by_cases e : k' = k
    · rw [if_pos e, if_pos e]
      exact .cons x (DqV.map x b)
    · rw [if_neg e, if_neg e]
      exact .cons a (DqV.map x b)
theorem DqV.snoc {κ : Type} {k : κ} {v : V} {d : D} (x : Dq K G v d) : ∀ {es : List (κ × V)} {kvs : List (κ × D)}, DqV K G es kvs → DqV K G (es ++ [(k, v)]) (kvs ++ [(k, d)])
  | _, _, .nil => .cons x .nil
  | _, _, .cons a b => .cons a (DqV.snoc x b)
theorem DqV.put {κ : Type} [DecidableEq κ] {k : κ} {v : V} {d : D} {es : List (κ × V)} {kvs : List (κ × D)} (h : DqV K G es kvs) (x : Dq K G v d) : DqV K G (putK es k v) (putG kvs k d) := by
  unfold putK putG
  rw [h.any]
  split
  · exact h.map x
  · exact h.snoc x
theorem putG_len {κ : Type} [DecidableEq κ] (kvs : List (κ × D)) (k : κ) (d : D) : (putG kvs k d).length ≤ kvs.length + 1 := by
  unfold putG
  split
  · rw [List.length_map]; omega
  · rw [List.length_append]; exact Nat.le_refl _
theorem dq_dk {v : V} {kvs : List (Key × D)} (h : Dq K G v (dkD kvs)) : ∃ a es, v = .ref a ∧ Rd G a (.dK es) ∧ DqV K G es kvs := by
  unfold dkD at h
  generalize e : (kvs.map fun p => (kD p.1, p.2)) = ls at h
  cases h with
  | sta _ _ =>
    cases kvs with
    | nil => cases e
    | cons p kvs =>
      rw [List.map_cons] at e
      injection e with e1 e2
      injection e1 with e3 _
      exact (kD_bool e3).elim
  | opq _ =>
    cases kvs with
    | nil => cases e
    | cons p kvs =>
      rw [List.map_cons] at e
      injection e with e1 e2
      injection e1 with e3 _
      exact (kD_bool e3).elim
  | raw _ =>
    cases kvs with
    | nil => cases e
    | cons p kvs =>
      rw [List.map_cons] at e
      injection e with e1 e2
      injection e1 with e3 _
      exact (kD_bool e3).elim
  | dK a b => exact ⟨_, _, rfl, a, DqK.v b e.symm⟩
  | scr a =>
    cases kvs with
    | nil => cases e
    | cons p kvs =>
      rw [List.map_cons] at e
      injection e with e1 e2
      injection e1 with e3 _
      exact (kD_none e3).elim
  | dT a b =>
    cases kvs with
    | nil => cases e
    | cons p kvs =>
      rw [List.map_cons] at e
      injection e with e1 e2
      injection e1 with e3 _
      exact (kD_none e3).elim
theorem dq_dt {v : V} {kvs : List (List Key × D)} (h : Dq K G v (dtD kvs)) : ∃ a es, v = .ref a ∧ Rd G a (.dT es) ∧ DqV K G es kvs := by
  unfold dtD at h
  generalize e : ((PyData.none, PyData.none) :: kvs.map fun p => (PyData.tuple (p.1.map kD), p.2)) = ls at h
  cases h with
  | dK a b =>
    cases b with
    | nil => cases e
    | cons a b =>
      injection e with e1 e2
      injection e1 with e3 _
      exact (kD_none e3.symm).elim
  | sta _ _ =>
    injection e with e1 e2
    injection e1 with e3 _
    cases e3
  | opq _ =>
    injection e with e1 e2
    injection e1 with e3 _
    cases e3
  | raw _ =>
    injection e with e1 e2
    injection e1 with e3 _
    cases e3
  | scr a =>
    injection e with e1 e2
    injection e1 with _ e3
    cases e3
  | dT a b =>
    injection e with e1 e2
    exact ⟨_, _, rfl, a, DqT.v b e2.symm⟩
theorem own_dk {H : Hp} {l : Addr} {kvs : List (Key × D)} (h : OwnC K G H l (dkD kvs)) : ∃ es, H l = some (.dK es) ∧ DqV K G es kvs := by
  unfold dkD at h
  generalize e : (kvs.map fun p => (kD p.1, p.2)) = ls at h
  cases h with
  | dK a b => exact ⟨_, a, DqK.v b e.symm⟩
  | dT a b =>
    cases kvs with
    | nil => cases e
    | cons p kvs =>
      rw [List.map_cons] at e
      injection e with e1 e2
      injection e1 with e3 _
      exact (kD_none e3).elim
theorem own_dt {H : Hp} {l : Addr} {kvs : List (List Key × D)} (h : OwnC K G H l (dtD kvs)) : ∃ es, H l = some (.dT es) ∧ DqV K G es kvs := by
  unfold dtD at h
  generalize e : ((PyData.none, PyData.none) :: kvs.map fun p => (PyData.tuple (p.1.map kD), p.2)) = ls at h
  cases h with
  | dK a b =>
    cases b with
    | nil => cases e
    | cons a b =>
      injection e with e1 e2
      injection e1 with e3 _
      exact (kD_none e3.symm).elim
  | dT a b =>
    injection e with e1 e2
    exact ⟨_, a, DqT.v b e2.symm⟩
theorem key_dq {v : V} : ∀ {k : Key}, Dq K G v (kD k) → v = kV k
  | .inl i, h => by cases h; rfl
  | .inr z, h => by cases h; rfl
theorem keys_dq : ∀ {ks : List Key} {vs : List V}, DqA K G vs (ks.map kD) → vs = ks.map kV
  | [], _, h => by cases h; rfl
  | k :: ks, _, h => by
    cases h with
    | cons a b => rw [key_dq a, keys_dq b]; rfl
theorem dq_keys : ∀ ks : List Key, DqA K G (ks.map kV) (ks.map kD)
  | [] => .nil
  | .inl i :: ks => .cons (.int i) (dq_keys ks)
  | .inr z :: ks => .cons (.str z) (dq_keys ks)
end
section
variable {K : PySem.W.Frag} {Ex : XK} {ρ : List Sl} {ta tb te : TE} {tt : TT} {t u : TS} {d : D} {P : Oc → Prop}
theorem en_dnewK : EVN K tDNewK ρ (dkD []) := fun G0 H0 G H σ Q E q p hp => q p G _ (.fresh E.gh hp) hp (E.gh.none hp) (.dK upd_same .nil)
theorem en_dnewT : EVN K tDNewT ρ (dtD []) := fun G0 H0 G H σ Q E q p hp => q p G _ (.fresh E.gh hp) hp (E.gh.none hp) (.dT upd_same .nil)
/-- a tuple of keys, laid anew -/
def EVT (K : PySem.W.Frag) (te : TE) (ρ : List Sl) (ks : List Key) : Prop := ∀ (G0 H0 G H : Hp) (σ : L2.St) (Q : VK), En K G0 H0 G H σ ρ → (∀ p G' H', Ext G H G' H' → G' p = some (.tup (ks.map kV)) → Q (.ref p) H') → te σ H Q
theorem evt_tup {t : TA} {ks : List Key} {ds : List D} (h : EA K t ρ ds) (e : ds = ks.map kD) (hl : ks.length ≤ sizeLine) : EVT K (tTup t) ρ ks := fun G0 H0 G H σ Q E q =>
  h G0 H0 G H σ _ E fun vs G1 H1 e1 h1 => by
    subst e
    have e2 := keys_dq h1
    subst e2
    exact ⟨by rw [List.length_map]; exact hl, fun p hp => q p _ _ (e1.trans (.new e1.gh hp)) upd_same⟩
theorem evt_ite {b : Bool} {k1 k2 : List Key} (h : ET K tt ρ b) (h1 : b = true → EVT K ta ρ k1) (h2 : b = false → EVT K tb ρ k2) : EVT K (tIf tt ta tb) ρ (if b = true then k1 else k2) := fun G0 H0 G H σ Q E q =>
  h G0 H0 G H σ _ E fun G1 H1 e1 => by
    cases b with
    | true => exact h1 rfl G0 H0 G1 H1 σ _ (E.go e1) fun p G2 H2 e2 hp => q p G2 H2 (e1.trans e2) hp
    | false => exact h2 rfl G0 H0 G1 H1 σ _ (E.go e1) fun p G2 H2 e2 hp => q p G2 H2 (e1.trans e2) hp
theorem GH.tup {A B : Hp} (x : GH A B) {a : Addr} {xs : List V} (h : A a = some (.tup xs)) : B a = some (.tup xs) := by
  rcases x a _ h with h | ⟨d, _⟩ | d
  · exact h.1
  · cases d
  · exact d.elim
theorem st_dputK {n : Nat} {kvs : List (Key × D)} {k : Key} {dk : D} (hi : ρ[n]? = some (.ow (dkD kvs))) (hk : EV K tb ρ dk) (ek : dk = kD k) (h : EV K te ρ d) (hz : kvs.length < 16000000) (q : P (.nx (ρ.set n (.ow (dkD (putG kvs k d)))))) :
    ST K Ex (sDPut (tVar n) tb te) ρ P := fun G0 H0 G H σ D E f =>
  h G0 H0 G H σ _ E fun v G1 H1 e1 hv => by
    obtain ⟨l, h1, _, h0, h4⟩ := (E.go e1).ow n _ hi
    subst ek
    refine ⟨_, h1, hk G0 H0 G1 H1 σ _ (E.go e1) fun y G2 H2 e2 hy => ?_⟩
    obtain ⟨es, h5, h6⟩ := own_dk h4
    have e := key_dq hy
    subst e
    refine ⟨l, _, rfl, DPut.k (e2.at h0 h5) (by rw [h6.length, sizeLine_eq]; omega), f.nx _ _ _ _ q (((E.go e1).go e2).write hi h1 ?_)⟩
    exact .dK upd_same (((h6.mono e2.g).put (hv.mono e2.g)).k)
theorem st_dputT {n : Nat} {kvs : List (List Key × D)} {k : List Key} (hi : ρ[n]? = some (.ow (dtD kvs))) (hk : EVT K tb ρ k) (h : EV K te ρ d) (hz : kvs.length < 16000000) (q : P (.nx (ρ.set n (.ow (dtD (putG kvs k d)))))) :
    ST K Ex (sDPut (tVar n) tb te) ρ P := fun G0 H0 G H σ D E f =>
  h G0 H0 G H σ _ E fun v G1 H1 e1 hv => by
    obtain ⟨l, h1, _, h0, h4⟩ := (E.go e1).ow n _ hi
    refine ⟨_, h1, hk G0 H0 G1 H1 σ _ (E.go e1) fun y G2 H2 e2 hy => ?_⟩
    obtain ⟨es, h5, h6⟩ := own_dt h4
    refine ⟨l, _, rfl, DPut.t (e2.at h0 h5) (e2.gh.tup hy) (by rw [h6.length, sizeLine_eq]; omega), f.nx _ _ _ _ q (((E.go e1).go e2).write hi h1 ?_)⟩
    exact .dT upd_same (((h6.mono e2.g).put (hv.mono e2.g)).t)
/-- x in d, a frozen one -/
theorem dget_k {G H : Hp} (g : GH G H) {a : Addr} {es : List (Key × V)} {kvs : List (Key × D)} {k : Key} (h : Rd G a (.dK es)) (r : DqV K G es kvs) : (getG kvs k = none ∧ DGet H a (kV k) none) ∨ ∃ v d, getG kvs k = some d ∧ DGet H a (kV k) (some v) ∧ Dq K G v d := by
  rcases r.get (k := k) with ⟨h1, h2⟩ | ⟨v, d, h1, h2, h3⟩
  · exact .inl ⟨h2, .inl ⟨es, k, g.rd h, rfl, h1.symm⟩⟩
  · exact .inr ⟨v, d, h2, .inl ⟨es, k, g.rd h, rfl, h1.symm⟩, h3⟩
theorem ev_inD {kvs : List (Key × D)} {k : Key} {dk : D} (hk : EV K ta ρ dk) (ek : dk = kD k) (h : EV K tb ρ (dkD kvs)) : EV K (tDIn ta tb) ρ (.bool (hasG kvs k)) := fun G0 H0 G H σ Q E q =>
  hk G0 H0 G H σ _ E fun y G1 H1 e1 hy => h G0 H0 G1 H1 σ _ (E.go e1) fun x G2 H2 e2 hx => by
    subst ek
    obtain ⟨a, es, rfl, h1, h2⟩ := dq_dk hx
    have e := key_dq hy
    subst e
    unfold hasG at q
    rcases dget_k e2.gh h1 h2 (k := k) with ⟨h3, h4⟩ | ⟨v, d, h3, h4, h5⟩
    · exact ⟨a, _, rfl, h4, q _ G2 H2 (e1.trans e2) (by rw [h3]; exact .bl _)⟩
    · exact ⟨a, _, rfl, h4, q _ G2 H2 (e1.trans e2) (by rw [h3]; exact .bl _)⟩
theorem ev_ninD {kvs : List (Key × D)} {k : Key} {dk : D} (hk : EV K ta ρ dk) (ek : dk = kD k) (h : EV K tb ρ (dkD kvs)) : EV K (tDNotIn ta tb) ρ (.bool (!hasG kvs k)) := fun G0 H0 G H σ Q E q =>
  hk G0 H0 G H σ _ E fun y G1 H1 e1 hy => h G0 H0 G1 H1 σ _ (E.go e1) fun x G2 H2 e2 hx => by
    subst ek
    obtain ⟨a, es, rfl, h1, h2⟩ := dq_dk hx
    have e := key_dq hy
    subst e
    unfold hasG at q
    rcases dget_k e2.gh h1 h2 (k := k) with ⟨h3, h4⟩ | ⟨v, d, h3, h4, h5⟩
    · exact ⟨a, _, rfl, h4, q _ G2 H2 (e1.trans e2) (by rw [h3]; exact .bl _)⟩
    · exact ⟨a, _, rfl, h4, q _ G2 H2 (e1.trans e2) (by rw [h3]; exact .bl _)⟩
/-- d[x], a frozen one -/
theorem ev_getD {kvs : List (Key × D)} {k : Key} {dk : D} (h : EV K ta ρ (dkD kvs)) (hk : EV K tb ρ dk) (ek : dk = kD k) (e : getG kvs k = some d) : EV K (tDGet ta tb) ρ d := fun G0 H0 G H σ Q E q =>
  h G0 H0 G H σ _ E fun x G1 H1 e1 hx => hk G0 H0 G1 H1 σ _ (E.go e1) fun y G2 H2 e2 hy => by
    subst ek
    obtain ⟨a, es, rfl, h1, h2⟩ := dq_dk (hx.mono e2.g)
    have ez := key_dq hy
    subst ez
    rcases dget_k e2.gh h1 h2 (k := k) with ⟨h3, h4⟩ | ⟨v, d', h3, h4, h5⟩
    · rw [e] at h3; cases h3
    · rw [e] at h3
      cases h3
      exact ⟨a, v, rfl, h4, q _ G2 H2 (e1.trans e2) h5⟩
/-- d.get(x, z), a frozen one -/
theorem ev_get2 {kvs : List (Key × D)} {k : Key} {dk z : D} {tz : TE} (h : EV K ta ρ (dkD kvs)) (hk : EV K tb ρ dk) (ek : dk = kD k) (hz : EV K tz ρ z) : EV K (tDGet2 ta tb tz) ρ ((getG kvs k).getD z) := fun G0 H0 G H σ Q E q =>
  h G0 H0 G H σ _ E fun x G1 H1 e1 hx => by
    obtain ⟨a, es, rfl, h1, h2⟩ := dq_dk hx
    refine ⟨a, rfl, .inl ⟨es, e1.gh.rd h1⟩, hk G0 H0 G1 H1 σ _ (E.go e1) fun y G2 H2 e2 hy => hz G0 H0 G2 H2 σ _ ((E.go e1).go e2) fun w G3 H3 e3 hw => ?_⟩
    subst ek
    have ez := key_dq hy
    subst ez
    have h1' := (e2.trans e3).g.rd h1
    rcases dget_k e3.gh h1' (h2.mono (e2.trans e3).g) (k := k) with ⟨h3, h4⟩ | ⟨v, d', h3, h4, h5⟩
    · exact ⟨_, h4, q _ G3 H3 ((e1.trans e2).trans e3) (by rw [h3]; exact hw)⟩
    · exact ⟨_, h4, q _ G3 H3 ((e1.trans e2).trans e3) (by rw [h3]; exact h5)⟩
/-- what a dict comprehension gives -/
def dcD : Nat → (Nat → Bool) → (Nat → Key) → (Nat → D) → List (Key × D)
  | 0, _, _, _ => []
  | n + 1, b, k, f => if b n = true then putG (dcD n b k f) (k n) (f n) else dcD n b k f
theorem dcD_len (b : Nat → Bool) (k : Nat → Key) (f : Nat → D) : ∀ n, (dcD n b k f).length ≤ n
  | 0 => Nat.le_refl _
  | n + 1 => by
    unfold dcD
    have := dcD_len b k f n
    split
    · exact Nat.le_trans (putG_len _ _ _) (Nat.succ_le_succ this)
    · omega
end
end DL

set_option maxHeartbeats 1000000
/-! DL11: the order of texts and of pairs of texts; sorted. -/
namespace DL
open PySem PySem.Spec PyProof.Rows L2
/-! ### orders -/
def ltS (a b : Str) : Bool := decide (a.cps.toList < b.cps.toList)
theorem str_ext {a b : Str} (h : a.cps.toList = b.cps.toList) : a = b := by
  cases a
  cases b
  exact congrArg Str.mk (Array.toList_inj.mp h)
theorem ltS_irr (a : Str) : ltS a a = false := decide_eq_false (List.lt_irrefl _)
theorem ltS_tr {a b c : Str} (h : ltS a b = true) (k : ltS b c = true) : ltS a c = true := decide_eq_true (List.lt_trans (of_decide_eq_true h) (of_decide_eq_true k))
theorem ltS_as {a b : Str} (h : ltS a b = true) : ltS b a = false := decide_eq_false (List.lt_asymm (of_decide_eq_true h))
theorem ltS_eq {a b : Str} (h : ltS a b = false) (k : ltS b a = false) : a = b := by
  refine str_ext (List.le_antisymm ?_ ?_)
  · exact List.not_lt.mp (of_decide_eq_false k)
  · exact List.not_lt.mp (of_decide_eq_false h)
/-- of pairs: by the first, then by the second -/
def ltQ (p q : Str × Str) : Bool := if p.1 = q.1 then ltS p.2 q.2 else ltS p.1 q.1
theorem ltQ_irr (a : Str × Str) : ltQ a a = false := by
  unfold ltQ
  rw [if_pos rfl, ltS_irr]
theorem ltQ_tr {a b c : Str × Str} (h : ltQ a b = true) (k : ltQ b c = true) : ltQ a c = true := by
  unfold ltQ at *
  by_cases e : a.1 = b.1
  · rw [if_pos e] at h
    by_cases f : b.1 = c.1
    · rw [if_pos f] at k
      rw [if_pos (e.trans f)]
      exact ltS_tr h k
    · rw [if_neg f] at k
      rw [if_neg (fun z => f (e.symm.trans z)), e]
      exact k
  · rw [if_neg e] at h
    by_cases f : b.1 = c.1
    · rw [if_neg (fun z => e (z.trans f.symm)), ← f]
      exact h
    · rw [if_neg f] at k
      have := ltS_tr h k
      rw [if_neg (fun z => by rw [z, ltS_irr] at this; cases this)]
      exact this
theorem ltQ_eq {a b : Str × Str} (h : ltQ a b = false) (k : ltQ b a = false) : a = b := by
  unfold ltQ at *
  by_cases e : a.1 = b.1
  · rw [if_pos e] at h
    rw [if_pos e.symm] at k
    exact Prod.ext e (ltS_eq h k)
  · rw [if_neg e] at h
    rw [if_neg (fun z => e z.symm)] at k
    exact absurd (ltS_eq h k) e
theorem ltQ_as {a b : Str × Str} (h : ltQ a b = true) : ltQ b a = false := by
  cases q : ltQ b a with
  | false => rfl
  | true =>
    have := ltQ_tr h q
    rw [ltQ_irr] at this
    cases this
section
variable {α : Type} {lt : α → α → Bool}
/-- a strict total order -/
structure Sto (lt : α → α → Bool) : Prop where
  irr : ∀ a, lt a a = false
  tr : ∀ {a b c}, lt a b = true → lt b c = true → lt a c = true
  eq : ∀ {a b}, lt a b = false → lt b a = false → a = b
theorem Sto.as (O : Sto lt) {a b : α} (h : lt a b = true) : lt b a = false := by
  cases q : lt b a with
  | false => rfl
  | true =>
    have := O.tr h q
    rw [O.irr] at this
    cases this
theorem Sto.tr' (O : Sto lt) {x y z : α} (h : lt y x = false) (k : lt z y = false) : lt z x = false := by
  cases q : lt z x with
  | false => rfl
  | true =>
    cases a : lt x y with
    | true =>
      have := O.tr q a
      rw [k] at this
      cases this
    | false =>
      have e := O.eq a h
      subst e
      rw [q] at k
      cases k
theorem Sto.swo_of {β : Type} (O : Sto lt) (f : β → α) : SrtO.Swo fun x y => lt (f x) (f y) := ⟨fun _ _ h => O.as h, fun _ _ _ h k => O.tr' h k⟩
theorem Sto.swo (O : Sto lt) : SrtO.Swo lt := ⟨fun _ _ h => O.as h, fun _ _ _ h k => O.tr' h k⟩
def srt (lt : α → α → Bool) (l : List α) : List α := l.mergeSort fun x y => !lt y x
theorem srt_perm (l : List α) : (srt lt l).Perm l := List.mergeSort_perm _ _
theorem srt_pw (O : Sto lt) (l : List α) : (srt lt l).Pairwise fun x y => lt y x = false := by
  have := List.pairwise_mergeSort (le := fun x y => !lt y x) (fun a b c h k => by
    rw [Bool.not_eq_true'] at *
    exact O.tr' h k) (fun a b => by
    cases q : lt b a with
    | false => rfl
    | true =>
      rw [O.as q]
      rfl) l
  exact this.imp fun h => by simpa using h
theorem srt_uniq (O : Sto lt) {l m : List α} (hp : l.Perm m) (hs : l.Pairwise fun x y => lt y x = false) : l = srt lt m := by
  refine List.Perm.eq_of_pairwise (le := fun x y => lt y x = false) (fun a b _ _ h k => O.eq k h) hs (srt_pw O m) (hp.trans (srt_perm m).symm)
theorem srt_len (l : List α) : (srt lt l).length = l.length := (srt_perm l).length_eq
end
theorem stoS : Sto ltS := ⟨ltS_irr, ltS_tr, ltS_eq⟩
theorem stoQ : Sto ltQ := ⟨ltQ_irr, ltQ_tr, ltQ_eq⟩
end DL

set_option maxHeartbeats 1000000
/-! DL12: sorted(..) by data; comparisons of pairs of texts; a dict comprehension; words for the walk. -/
namespace DL
open PySem PySem.Spec PyProof.Rows L2
/-! ### sorted of a list of texts -/
theorem rising_pw : ∀ (l : List Str) (p : Str), risingS p l = true → (p :: l).Pairwise fun x y => ltS y x = false
  | [], p, _ => List.pairwise_singleton _ _
  | x :: r, p, h => by
    have h : (!ltCps x.cps.toList p.cps.toList && risingS x r) = true := h
    rw [Bool.and_eq_true] at h
    have ih := rising_pw r x h.2
    have h1 : ltS x p = false := by
      have := h.1
      rw [ltCps_eq] at this
      simpa [ltS] using this
    refine List.pairwise_cons.mpr ⟨fun y hy => ?_, ih⟩
    rcases List.mem_cons.mp hy with rfl | hy
    · exact h1
    · exact stoS.tr' h1 ((List.pairwise_cons.mp ih).1 y hy)
theorem sortedS_pw : ∀ {l : List Str}, sortedS l = true → l.Pairwise fun x y => ltS y x = false
  | [], _ => List.Pairwise.nil
  | x :: r, h => rising_pw r x h
section
variable {K : PySem.W.Frag}
theorem cn_sortS {zs : List Str} (hl : zs.length < 64) : CN K (rSortedS K) [.list (zs.map PyData.str)] (.list ((srt ltS zs).map PyData.str)) := fun xs G H Q g hx q => by
  cases hx with
  | cons a b =>
    cases b
    cases a with
    | @lst a xs _ ha hr =>
      have e := map_str_dq hr
      subst e
      refine ⟨a, zs, rfl, SqL.of (g.lst ha), hl, fun ys p hp hs hn => ?_⟩
      have e := srt_uniq stoS hp (sortedS_pw hs)
      subst e
      refine q p G _ (.fresh g hn) hn (g.none hn) (.lst upd_same ?_)
      clear hs hp hr ha
      induction (srt ltS zs) with
      | nil => exact .nil
      | cons z l ih => exact .cons (.str z) ih
/-! ### pairs of texts in the heap -/
/-- v is the pair (x, y) -/
def IsPS (h : Heap) (v : Value) (p : Str × Str) : Prop := ∃ a o t u n, v = .ref a ∧ h.get? a = some o ∧ o.cls = .type "tuple" ∧ o.data = .seq #[.str p.1 t, .str p.2 u] n
theorem IsPS.keeps {h h' : Heap} {v : Value} {p : Str × Str} (x : IsPS h v p) (k : ∀ b o, h.get? b = some o → o.cls = .type "tuple" → h'.get? b = some o) : IsPS h' v p := by
  obtain ⟨a, o, t, u, n, e, ho, hc, hd⟩ := x
  exact ⟨a, o, t, u, n, e, k a o ho hc, hc, hd⟩
section
variable {prog : Program} {w : World} {A : Around} {s : Shared}
theorem ps_cmp {vs : List Value} {k : Value → Str × Str} (hp : ∀ v ∈ vs, IsPS s.heap v (k v)) : SrtO.Cmp prog w A s (tuples' true) (fun p => p.1 ∈ vs) (SrtO.lt2 fun v u => ltQ (k v) (k u)) := by
  intro p q hm hm'
  have h1 := hp _ hm
  have h2 := hp _ hm'
  show wpAny (model prog w) A (keyLt' (tuples' true) p.1 q.1) (fun r s' => s' = s ∧ r = ltQ (k p.1) (k q.1)) (fun _ _ => False) s
  generalize k p.1 = x at h1 ⊢
  generalize k q.1 = y at h2 ⊢
  obtain ⟨a, o, t, u, n, e, ho, _, hd⟩ := h1
  obtain ⟨a', o', t', u', n', e', ho', _, hd'⟩ := h2
  rw [e, e']
  unfold ltQ
  refine PySem.W.kat_lt ho hd ho' hd' ?_
  show PySem.W.KatLex prog w A true (decide (2 < 2)) _ [(.str x.1 t, .str y.1 t'), (.str x.2 u, .str y.2 u')] 0 s
  refine PySem.W.kat_cons (wpAny_eqBool_str ?_)
  refine PySem.W.kat_go (fun e1 => ?_) (fun e1 => ?_)
  · rw [if_pos (of_decide_eq_true e1)]
    refine PySem.W.kat_yes (PySem.W.kat_cons (wpAny_eqBool_str ?_))
    refine PySem.W.kat_go (fun e2 => ?_) (fun e2 => ?_)
    · rw [of_decide_eq_true e2, ltS_irr]
      exact PySem.W.kat_yes (PySem.W.kat_nil ⟨rfl, rfl⟩)
    · exact PySem.W.kat_no (oneLt_any_str ⟨rfl, rfl⟩)
  · rw [if_neg (of_decide_eq_false e1)]
    exact PySem.W.kat_no (oneLt_any_str ⟨rfl, rfl⟩)
theorem ps_firsts {h : Heap} : ∀ {vs : List Value} {k : Value → Str × Str}, (∀ v ∈ vs, IsPS h v (k v)) → ∃ fs : List Value, PySem.W.KatTups h vs fs ∧ fs.length = vs.length ∧ ∀ f ∈ fs, ∃ x t, f = Value.str x t
  | [], _, _ => ⟨[], PySem.W.KatTups.nil, rfl, fun _ hm => by simp at hm⟩
  | v :: vs, k, hp => by
    obtain ⟨fs, h1, h2, h3⟩ := ps_firsts (vs := vs) (k := k) fun v' hm => hp v' (List.mem_cons_of_mem _ hm)
    obtain ⟨a, o, t, u, n, e, ho, hc, hd⟩ := hp v (List.mem_cons_self ..)
    generalize k v = p at hd
    subst e
    refine ⟨.str p.1 t :: fs, PySem.W.KatTups.cons ho hc hd rfl h1, congrArg Nat.succ h2, fun f hm => ?_⟩
    rcases List.mem_cons.mp hm with rfl | hm
    · exact ⟨_, _, rfl⟩
    · exact h3 f hm
theorem ps_sortable {a : Addr} {vs : List Value} {k : Value → Str × Str} (h0 : 0 < vs.length) (hp : ∀ v ∈ vs, IsPS s.heap v (k v)) (ha : ∀ o, s.heap.get? a = some o → o.cls ≠ .type "tuple") : SrtO.SortableO prog w A s a vs fun v u => ltQ (k v) (k u) := by
  intro h' keep
  have hp' : ∀ v ∈ vs, IsPS h' v (k v) := fun v hm => (hp v hm).keeps fun b o e c => keep b o (fun z => by subst z; exact ha o e c) e
  obtain ⟨fs, h1, h2, h3⟩ := ps_firsts hp'
  refine ⟨tuples' true, fun Q E hq => ?_, ps_cmp hp'⟩
  refine PySem.W.kat_kind (T := .type "str") h1 (by omega) (fun f hm => ?_) (by rfl) ?_
  · obtain ⟨x, t, rfl⟩ := h3 f hm
    exact PySem.W.Looks.now
  · have e : (Value.type "str" != Value.type "tuple") = true := by first | decide +kernel | rfl | decide
    rw [e]
    exact hq
end
/-- what the heap holds at a pair of texts -/
def psAt (H : Hp) (v : Value) : Str × Str := match v with
  | .ref b => (match H b with
    | some (.tup [.str x, .str y]) => (x, y)
    | _ => (Str.empty, Str.empty))
  | _ => (Str.empty, Str.empty)
def keyQ (p : Str × Str) : List Key := [.inr p.1, .inr p.2]
/-- the addresses bs hold the pairs qs -/
def AtQ (H : Hp) (bs : List Addr) (qs : List (Str × Str)) : Prop := Paired (fun b q => H b = some (.tup [.str q.1, .str q.2])) bs qs
/-- sorted(d), d a dict whose keys are pairs of texts -/
def rSortDT (K : PySem.W.Frag) : List V → Hp → VK → Prop := fun xs H Q => ∃ (d : Addr) (kvs : List (List Key × V)) (qs : List (Str × Str)), xs = [.ref d] ∧ Rd H d (.dT kvs) ∧ kvs.map (·.1) = qs.map keyQ ∧
  ∀ p bs, AtQ H bs (srt ltQ qs) → H p = none → Q (.ref p) (upd H p (.lst (bs.map V.ref)))
end
theorem paired_map {α β : Type} {R : α → β → Prop} {f : α → β} : ∀ {l : List α}, (∀ a ∈ l, R a (f a)) → Paired R l (l.map f)
  | [], _ => Paired.nil
  | a :: l, h => Paired.cons (h a (List.mem_cons_self ..)) (paired_map fun b hb => h b (List.mem_cons_of_mem _ hb))
theorem call_sortedDT {X : Cx} (hc : X.calm = true) : CallR X (.builtin "sorted") (rSortDT X.K) := by
  intro pins s σ H xs us Q I r h
  obtain ⟨d, kvs, qs, rfl, hd, hks, q⟩ := h
  obtain ⟨u, rfl, rx⟩ := r.one
  cases rx
  obtain ⟨z, hs, ks, pr, o, es, ep, ho, hx, hdt, he, hn⟩ := (show ObjOk X.prog X.w H s.heap d (.dT kvs) from hd.ok I.hok)
  have l1 : es.size = ks.length := size_of_entries he
  have l2 : kvs.length = ks.length := Paired.length pr
  refine Calls.call_function_entry PyProof.Rows.kind_sorted PyProof.Rows.plain_sorted PyProof.Rows.entry_sorted (PyProof.Rows.args_sorted1 _) ?_
  unfold Builtin.«sorted»
  refine wpAny_bind (m := checkCount "sorted" 1 1 _) (wpAny_pure ?_)
  refine wpAny_bind (PySem.W.kdu_collect (A := X.A.in1) (kdl_raw hs hx hdt) (I.ok.hd hc) ho (by omega) fun h' tk acc hk it => ?_)
  have ea : acc.toList = ks.map fun x => Value.ref x.2.1 := by
    have hl : acc.toList.length = ks.length := by rw [Array.length_toList, it.1]; exact l1
    apply List.ext_getElem?
    intro j
    rw [List.getElem?_map]
    cases hj : acc.toList[j]? with
    | none => rw [List.getElem?_eq_none (by have := List.getElem?_eq_none_iff.mp hj; omega)] <;> rfl
    | some v =>
      obtain ⟨en, hen, hv⟩ := it.2 j v (by rw [← Array.getElem?_toList]; exact hj)
      have qe := entry_at he j
      rw [hen] at qe
      cases hb : ks[j]? with
      | none =>
        rw [hb] at qe
        exact nomatch (show some en = none from qe)
      | some b =>
        rw [hb] at qe
        have e2 : en = entryOfKey (tupleKind (mixKind X.prog X.w)) b := Option.some.inj qe
        rw [hv, e2] <;> rfl
  have hal : acc.toList.length ≤ sizeLine := by rw [ea, List.length_map]; omega
  have I1 : Inv X pins σ H { s with heap := h', toks := tk } := I.kept hk
  -- the pairs
  have hps : ∀ x ∈ ks, ∃ p : Str × Str, H x.2.1 = some (.tup [.str p.1, .str p.2]) := by
    intro x hx'
    have kk : ∀ {l : List (List Key × V)} {m : List (List Key × Addr × Value)} {ns : List (Str × Str)}, KT H l m → l.map (·.1) = ns.map keyQ → ∀ x ∈ m, ∃ p : Str × Str, H x.2.1 = some (.tup [.str p.1, .str p.2]) := by
      intro l m ns r
      induction r generalizing ns with
      | nil => intro _ x hx; cases hx
      | @cons a b l m h t ih =>
        intro e x hx
        cases ns with
        | nil => cases e
        | cons n ns =>
          rw [List.map_cons, List.map_cons] at e
          injection e with e1 e2
          rcases List.mem_cons.mp hx with rfl | hx
          · refine ⟨n, ?_⟩
            rw [h.2.1, e1]
            rfl
          · exact ih e2 x hx
    exact kk pr hks x hx'
  have hkv : ks.map (fun x => psAt H (.ref x.2.1)) = qs := by
    have kk : ∀ {l : List (List Key × V)} {m : List (List Key × Addr × Value)} {ns : List (Str × Str)}, KT H l m → l.map (·.1) = ns.map keyQ → m.map (fun x => psAt H (.ref x.2.1)) = ns := by
      intro l m ns r
      induction r generalizing ns with
      | nil => intro e; cases ns with
        | nil => rfl
        | cons => cases e
      | @cons a b l m h t ih =>
        intro e
        cases ns with
        | nil => cases e
        | cons n ns =>
          rw [List.map_cons, List.map_cons] at e
          injection e with e1 e2
          rw [List.map_cons, ih e2]
          congr 1
          have := h.2.1
          rw [e1] at this
          unfold psAt
          dsimp only
          rw [this]
          rfl
    exact kk pr hks
  have hmem : ∀ v ∈ acc.toList, ∃ b p, v = Value.ref b ∧ H b = some (.tup [.str p.1, .str p.2]) ∧ psAt H v = p := fun v hv => by
    rw [ea] at hv
    obtain ⟨x, hx', rfl⟩ := List.mem_map.mp hv
    obtain ⟨p, hp⟩ := hps x hx'
    exact ⟨_, p, rfl, hp, by unfold psAt; dsimp only; rw [hp]⟩
  have hoL : (h'.push (seqObj "list" acc.toList.toArray 0)).get? h'.objs.size = some (seqObj "list" acc.toList.toArray 0) := Heap.get?_push_size _ rfl
  have hP : ∀ v ∈ acc.toList, IsPS (h'.push (seqObj "list" acc.toList.toArray 0)) v (psAt H v) := fun v hv => by
    obtain ⟨b, p, rfl, hb, hp⟩ := hmem v hv
    rw [hp]
    obtain ⟨_, its2, r2, o2, ho2, hc2, n2, hd2⟩ := I1.hok _ _ hb
    obtain ⟨u1, u2, rfl, ri, rj⟩ := vals2 r2
    obtain ⟨t1, rfl⟩ := ri
    obtain ⟨t2, rfl⟩ := rj
    exact ⟨b, o2, t1, t2, n2, rfl, Heap.get?_push_of_some _ ho2, hc2, hd2⟩
  refine wpAny_bind (wpAny_newList ?_ hal)
  show wpAny _ _ _ _ _ { s with heap := h'.push (seqObj "list" acc.toList.toArray 0), toks := tk }
  refine wpAny_bind (wpAny_holding (wpAny_call_entry PyProof.Rows.slot_list_sort ⟨_, hoL, rfl⟩ PyProof.Rows.entry_list_sort
    (SrtO.list_sort_ord (stoQ.swo_of (psAt H)) (s := { s with heap := h'.push (seqObj "list" acc.toList.toArray 0), toks := tk }) hoL hal (fun h2 => ps_sortable (by omega) hP fun o e => ?_) fun out hs hb => ⟨_, rfl, ?_⟩)
    (PyProof.Rows.args_list_sort _)))
  · have e' := e.symm.trans hoL
    cases e'
    intro c
    exact absurd (Value.type.inj c) (by decide)
  · have hm2 : ∀ v ∈ out, ∃ b p, v = Value.ref b ∧ H b = some (.tup [.str p.1, .str p.2]) ∧ psAt H v = p := fun v hv => hmem v (hb.perm.mem_iff.mp hv)
    have eo : out = (out.map fun v => match v with | .ref a => a | _ => 0).map Value.ref := by
      rw [List.map_map]
      refine (List.map_id out).symm.trans (List.map_congr_left fun v hv => ?_)
      obtain ⟨b, p, rfl, _⟩ := hm2 v hv
      rfl
    generalize eb : (out.map fun v => match v with | .ref a => a | _ => 0) = bs at eo
    obtain ⟨e', he'⟩ := PyProof.Rows.sortedHeap_at (vs := acc.toList) (out := out.toArray) hoL
    have ho' : out.length ≤ sizeLine := by rw [hb.perm.length_eq]; exact hal
    have hlen : (bs.map V.ref).length ≤ sizeLine := by
      have := congrArg List.length eo
      rw [List.length_map] at this ⊢
      omega
    have eq : srt ltQ qs = out.map (psAt H) := by
      refine (srt_uniq stoQ ?_ ?_).symm
      · rw [← hkv]
        have := hb.perm.map (psAt H)
        rw [ea, List.map_map] at this
        exact this
      · exact List.pairwise_map.mpr hs
    refine wpAny_pure ⟨_, rfl, .ref h'.objs.size, upd H h'.objs.size (.lst (bs.map V.ref)), I1.laid (t' := tk) (fun b u e => ?_) (Nat.le_refl _)
      (show ObjOk X.prog X.w _ _ _ (.lst (bs.map V.ref)) from ⟨hlen, out, e', by rw [eo]; exact vals_refs bs, he'⟩), rfl, q _ bs ?_ (I1.hok.fresh (Nat.le_refl _))⟩
    · have hb : b < h'.objs.size := Heap.lt_size e
      rw [PyProof.Rows.sortedHeap_old (Nat.ne_of_lt hb) (by rw [size_push']; exact Nat.lt_succ_of_lt hb)]
      exact Heap.get?_push_of_some _ e
    · rw [eq, eo, List.map_map]
      refine paired_map fun b hb' => ?_
      have : Value.ref b ∈ out := by rw [eo]; exact List.mem_map.mpr ⟨b, hb', rfl⟩
      obtain ⟨b', p, e1, e2, e3⟩ := hm2 _ this
      cases e1
      show H b = some (.tup [.str (psAt H (.ref b)).1, .str (psAt H (.ref b)).2])
      rw [e3]
      exact e2
end DL

set_option maxHeartbeats 1000000
/-! DL13: sorted(dict), comparisons of pairs of texts, dict comprehensions, str(int), xs[::-1]. -/
namespace DL
open PySem PySem.Spec PyProof.Rows L2
def pqD (p : Str × Str) : D := .tuple [.str p.1, .str p.2]
section
variable {K : PySem.W.Frag}
theorem atQ_dq {G H : Hp} (g : ∀ b xs, H b = some (.tup xs) → G b = some (.tup xs)) : ∀ {bs : List Addr} {qs : List (Str × Str)}, AtQ H bs qs → DqA K G (bs.map V.ref) (qs.map pqD)
  | _, _, .nil => .nil
  | _, _, .cons h t => .cons (.tup (SqT.of (g _ _ h)) (.cons (.str _) (.cons (.str _) .nil))) (atQ_dq g t)
/-- the tuples that stand are frozen too -/
def tupG (G H : Hp) : Hp := fun a => match G a with
  | some o => some o
  | none => (match H a with
    | some (.tup xs) => some (.tup xs)
    | _ => none)
theorem tupG_old {G H : Hp} {a : Addr} {o : HO} (h : G a = some o) : tupG G H a = some o := by
  unfold tupG
  rw [h]
theorem tupG_tup {G H : Hp} (g : GH G H) {a : Addr} {xs : List V} (h : H a = some (.tup xs)) : tupG G H a = some (.tup xs) := by
  unfold tupG
  cases e : G a with
  | none => dsimp only; rw [h]
  | some o =>
    dsimp only
    rcases g a o e with ⟨q, _⟩ | ⟨_, _, q⟩ | q
    · rw [h] at q
      exact q.symm
    · rw [h] at q
      cases q
    · obtain ⟨_, ys, q⟩ := q.mk
      rw [h] at q
      cases q
theorem tupG_none {G H : Hp} {a : Addr} (h : H a = none) (g : GH G H) : tupG G H a = none := by
  unfold tupG
  rw [g.none h]
  dsimp only
  rw [h]
theorem Ext.tups {G H : Hp} (g : GH G H) : Ext G H (tupG G H) H := by
  refine ⟨fun a o h => tupG_old h, fun a o h => .inl h, fun a u r => ?_, fun a o h t n => ?_⟩
  · unfold tupG at r
    cases e : G a with
    | some o =>
      rw [e] at r
      cases r
      exact g a _ e
    | none =>
      rw [e] at r
      dsimp only at r
      cases q : H a with
      | none => rw [q] at r; cases r
      | some o =>
        rw [q] at r
        cases o <;> first | (cases r; exact .of q) | (cases r; done)
  · unfold tupG
    rw [n]
    dsimp only
    rw [h]
    cases o <;> first | rfl | cases t
theorem cn_sortDT {kvs : List (List Key × D)} {qs : List (Str × Str)} (e : kvs.map (·.1) = qs.map keyQ) : CN K (rSortDT K) [dtD kvs] (.list ((srt ltQ qs).map pqD)) := fun xs G H Q g hx q => by
  cases hx with
  | cons a b =>
    cases b
    obtain ⟨d, es, rfl, h1, h2⟩ := dq_dt a
    refine ⟨d, es, qs, rfl, g.rd h1, by rw [h2.keys, e], fun p bs hb hp => ?_⟩
    have x := Ext.tups g
    exact q p _ _ (x.trans (.fresh x.gh hp)) hp (tupG_none hp g) (.lst upd_same (atQ_dq (fun b xs h => tupG_tup g h) hb))
/-! ### pairs of texts are compared -/
def rLtQ (K : PySem.W.Frag) : R2 := fun x y H Q => ∃ (a b : Addr) (p q : Str × Str), x = .ref a ∧ y = .ref b ∧ SqT K H a [.str p.1, .str p.2] ∧ SqT K H b [.str q.1, .str q.2] ∧ Q (.bl (ltQ p q)) H
def rGeQ (K : PySem.W.Frag) : R2 := fun x y H Q => ∃ (a b : Addr) (p q : Str × Str), x = .ref a ∧ y = .ref b ∧ SqT K H a [.str p.1, .str p.2] ∧ SqT K H b [.str q.1, .str q.2] ∧ Q (.bl (!ltQ p q)) H
theorem lex2 {e r : Nat → Bool} {z : Bool} : Ob.lexAt e r z 0 2 = if e 0 = true then (if e 1 = true then z else r 1) else r 0 := rfl
end
section
variable {X : Cx}
theorem eq_ss {A : Around} {s : Shared} (a b : Str) (t u : Tok) : SeqAt.EqAt A s (.str a t) (.str b u) (decide (a = b)) := by
  have z : (a == b) = decide (a = b) := by
    by_cases q : a = b
    · rw [decide_eq_true q]; exact beq_iff_eq.mpr q
    · rw [decide_eq_false q]; exact beq_eq_false_iff_ne.mpr q
  rw [← z]
  exact SeqAt.EqAt.str_str _ _ _ _
theorem op_ltQ (hu : X.A.units < cLine) : OpR X (compareOp .Lt) (rLtQ X.K) := by
  intro pins s σ H x y v u Q I rx ry h
  obtain ⟨a, b, p, q, rfl, rfl, ha, hb, h⟩ := h
  cases rx
  cases ry
  obtain ⟨its, r1, p1, _⟩ := I.tuple ha
  obtain ⟨its2, r2, p2, _⟩ := I.tuple hb
  obtain ⟨u1, u2, rfl, i1, i2⟩ := vals2 r1
  obtain ⟨t1, rfl⟩ := i1
  obtain ⟨t2, rfl⟩ := i2
  obtain ⟨w1, w2, rfl, j1, j2⟩ := vals2 r2
  obtain ⟨z1, rfl⟩ := j1
  obtain ⟨z2, rfl⟩ := j2
  have R := Ob.RcOp.tuples_lt (A := X.A) (s := s) (e := fun j => if j = 0 then decide (p.1 = q.1) else decide (p.2 = q.2)) (r := fun j => if j = 0 then ltS p.1 q.1 else ltS p.2 q.2) p1 p2 hu (fun j h1 h2 => by
    match j, h1 with
    | 0, _ => exact eq_ss _ _ _ _
    | 1, _ => exact eq_ss _ _ _ _) (fun j h1 h2 _ => by
    match j, h1 with
    | 0, _ => exact fun _ _ _ _ h => lt_str h
    | 1, _ => exact fun _ _ _ _ h => lt_str h)
  have e : Ob.lexAt (fun j => if j = 0 then decide (p.1 = q.1) else decide (p.2 = q.2)) (fun j => if j = 0 then ltS p.1 q.1 else ltS p.2 q.2) (decide (2 < 2)) 0 2 = ltQ p q := by
    rw [lex2]
    unfold ltQ
    by_cases c : p.1 = q.1
    · rw [if_pos c, if_pos (by simpa using c)]
      by_cases f : p.2 = q.2
      · rw [if_pos (by simpa using f), f, ltS_irr]
        rfl
      · rw [if_neg (by simpa using f)]
        rfl
    · rw [if_neg c, if_neg (by simpa using c)]
      rfl
  have R' := R X.prog X.w X.xe (EP X pins σ Q) ⟨.bl (ltQ p q), H, I, congrArg Value.bool e, h⟩
  exact R'
theorem op_geQ (hu : X.A.units < cLine) : OpR X (compareOp .GtE) (rGeQ X.K) := by
  intro pins s σ H x y v u Q I rx ry h
  obtain ⟨a, b, p, q, rfl, rfl, ha, hb, h⟩ := h
  cases rx
  cases ry
  obtain ⟨its, r1, p1, _⟩ := I.tuple ha
  obtain ⟨its2, r2, p2, _⟩ := I.tuple hb
  obtain ⟨u1, u2, rfl, i1, i2⟩ := vals2 r1
  obtain ⟨t1, rfl⟩ := i1
  obtain ⟨t2, rfl⟩ := i2
  obtain ⟨w1, w2, rfl, j1, j2⟩ := vals2 r2
  obtain ⟨z1, rfl⟩ := j1
  obtain ⟨z2, rfl⟩ := j2
  have R := Ob.RcOp.tuples_ge (A := X.A) (s := s) (e := fun j => if j = 0 then decide (p.1 = q.1) else decide (p.2 = q.2)) (r := fun j => if j = 0 then !ltS p.1 q.1 else !ltS p.2 q.2) p1 p2 hu (fun j h1 h2 => by
    match j, h1 with
    | 0, _ => exact eq_ss _ _ _ _
    | 1, _ => exact eq_ss _ _ _ _) (fun j h1 h2 _ => by
    match j, h1 with
    | 0, _ => exact fun _ _ _ _ h => P.ge_str h
    | 1, _ => exact fun _ _ _ _ h => P.ge_str h)
  have e : Ob.lexAt (fun j => if j = 0 then decide (p.1 = q.1) else decide (p.2 = q.2)) (fun j => if j = 0 then !ltS p.1 q.1 else !ltS p.2 q.2) (decide (2 ≥ 2)) 0 2 = !ltQ p q := by
    rw [lex2]
    unfold ltQ
    by_cases c : p.1 = q.1
    · rw [if_pos c, if_pos (by simpa using c)]
      by_cases f : p.2 = q.2
      · rw [if_pos (by simpa using f), f, ltS_irr]
        rfl
      · rw [if_neg (by simpa using f)]
        rfl
    · rw [if_neg c, if_neg (by simpa using c)]
      rfl
  exact R X.prog X.w X.xe (EP X pins σ Q) ⟨.bl (!ltQ p q), H, I, congrArg Value.bool e, h⟩
end
/-- one rule or another -/
def rOr (r r' : R2) : R2 := fun x y H Q => r x y H Q ∨ r' x y H Q
section
variable {K : PySem.W.Frag} {Ex : XK} {ρ : List Sl} {ta tb te tk tv : TE} {tt : TT} {t u : TS} {d d1 d2 : D} {P : Oc → Prop} {r r' : R2}
theorem od_orL (h : OD K r d1 d2 d) : OD K (rOr r r') d1 d2 d := fun x y G H Q g hx hy q => .inl (h x y G H Q g hx hy q)
theorem od_orR (h : OD K r' d1 d2 d) : OD K (rOr r r') d1 d2 d := fun x y G H Q g hx hy q => .inr (h x y G H Q g hx hy q)
theorem ps_sq {G H : Hp} (g : GH G H) {x : V} {a b : Str} (h : Dq K G x (.tuple [.str a, .str b])) : ∃ l, x = .ref l ∧ SqT K H l [.str a, .str b] := by
  cases h with
  | @tup l xs _ ha hr =>
    cases hr with
    | cons h1 h2 => cases h2 with
      | cons h2 h3 =>
        cases h1
        cases h2
        cases h3
        exact ⟨l, rfl, g.t ha⟩
theorem od_ltQ {a b c e : Str} : OD K (rLtQ K) (.tuple [.str a, .str b]) (.tuple [.str c, .str e]) (.bool (ltQ (a, b) (c, e))) := fun x y G H Q g hx hy q => by
  obtain ⟨l, rfl, h1⟩ := ps_sq g hx
  obtain ⟨m, rfl, h2⟩ := ps_sq g hy
  exact ⟨l, m, (a, b), (c, e), rfl, rfl, h1, h2, q _ G H (.refl g) (.bl _)⟩
theorem od_geQ {a b c e : Str} : OD K (rGeQ K) (.tuple [.str a, .str b]) (.tuple [.str c, .str e]) (.bool (!ltQ (a, b) (c, e))) := fun x y G H Q g hx hy q => by
  obtain ⟨l, rfl, h1⟩ := ps_sq g hx
  obtain ⟨m, rfl, h2⟩ := ps_sq g hy
  exact ⟨l, m, (a, b), (c, e), rfl, rfl, h1, h2, q _ G H (.refl g) (.bl _)⟩
/-- xs[::-1] -/
theorem en_revL {ds : List D} (h : EV K te ρ (.list ds)) : EVN K (tRevL K te) ρ (.list ds.reverse) := fun G0 H0 G H σ Q E q =>
  h G0 H0 G H σ _ E fun v G1 H1 e1 hv => by
    cases hv with
    | @lst a xs _ ha hr =>
      refine ⟨a, xs, rfl, SqL.of (e1.gh.lst ha), fun p hp => ?_⟩
      refine q p G1 _ (e1.trans (.fresh e1.gh hp)) ?_ (e1.gh.none hp) (.lst upd_same hr.rev)
      exact e1.gone hp
/-- str(i) -/
def strI (i : Int) : Str := (toString i : String)
def rStrI : List V → Hp → VK → Prop := fun xs H Q => ∃ i, xs = [.int i] ∧ i.natAbs.log2 < 1920 ∧ Q (.str (toString i)) H
theorem call_strI {X : Cx} : CallR X (.type "str") rStrI := call_str_int
theorem cd_strI {i : Int} (h : i.natAbs.log2 < 1920) : CD K rStrI [.int i] (.str (strI i)) := fun xs G H Q g hx q => by
  cases hx with
  | cons a b =>
    cases b
    cases a
    exact ⟨i, rfl, h, q _ G H (.refl g) (.str _)⟩
/-- a dict comprehension -/
theorem dc_it {J : It} {n : Nat} {Gd : Hp → Prop} {Y : Nat → Hp → V → Hp → Prop} (w : Walk J n Gd Y) {g : TG} {vs : List Nat} {σ : L2.St} {H1 : Hp} {D : Addr} {Qd : Hp → Prop} (Pv : Nat → Hp → Prop) (h0 : Pv 0 (upd H1 D (.dK []))) (hG : ∀ i H, i ≤ n → Pv i H → Gd H)
    (hs : ∀ i x H H', i < n → Pv i H → Y i H x H' → g x (wipe σ vs) H' fun σ2 H2 => wipe σ2 vs = wipe σ vs ∧ tt σ2 H2 fun b H3 =>
      if b = true then tk σ2 H3 fun y H4 => tv σ2 H4 fun z H5 => ∃ kvs k, y = kV k ∧ H5 D = some (.dK kvs) ∧ kvs.length < sizeLine ∧ Pv (i + 1) (upd H5 D (.dK (putK kvs k z))) else Pv (i + 1) H3) (hd : ∀ H, Pv n H → Qd H) :
    ∃ W : Nat → Nat → Hp → Prop, (∃ m, W 0 m (upd H1 D (.dK []))) ∧ ∀ i m H, W i m H →
      (J.stop i H ∧ Qd H) ∨ (J.go i H ∧ ∃ Nx : Hp → Prop, (∀ H', Nx H' → ∃ m', m' < m ∧ W (i + 1) m' H') ∧ ∀ x H', J.yld i H x H' → g x (wipe σ vs) H' fun σ2 H2 => wipe σ2 vs = wipe σ vs ∧ tt σ2 H2 fun b H3 =>
        if b = true then tk σ2 H3 fun y H4 => tv σ2 H4 fun z H5 => ∃ kvs k, y = kV k ∧ H5 D = some (.dK kvs) ∧ kvs.length < sizeLine ∧ Nx (upd H5 D (.dK (putK kvs k z))) else Nx H3) := by
  refine ⟨fun i m H => m = n - i ∧ i ≤ n ∧ Pv i H, ⟨n, rfl, Nat.zero_le _, h0⟩, ?_⟩
  rintro i m H ⟨rfl, hi, p⟩
  by_cases hlt : i < n
  · exact .inr ⟨w.goes i H hlt (hG i H hi p), Pv (i + 1), fun H' p' => ⟨n - (i + 1), by omega, rfl, hlt, p'⟩, fun x H' y => hs i x H H' hlt p (w.yields i H x H' hlt (hG i H hi p) y)⟩
  · have e : i = n := by omega
    subst e
    exact .inl ⟨w.stops H (hG _ H hi p), hd H p⟩
theorem en_dc {wi : TI} {g : TG} {vs : List Nat} {n : Nat} {item : Nat → D} {b : Nat → Bool} {k : Nat → Key} {f : Nat → D} (hi : EI K wi ρ n item) (hn : n ≤ 16000000)
    (hs : ∀ i, i < n → ∃ ρ2 ts, GT K g (wipeS ρ vs) (item i) ρ2 ts ∧ (∀ t ∈ ts, t ∈ vs) ∧ ET K tt ρ2 (b i) ∧ (b i = true → EV K tk ρ2 (kD (k i)) ∧ EV K tv ρ2 (f i))) :
    EVN K (tDc wi g tt tk tv vs) ρ (dkD (dcD n b k f)) := fun G0 H0 G H σ Q E q =>
  hi G0 H0 G H σ _ E fun J G1 H1 Gd Y x w hG hY Dl hD => by
    have E1 := E.go x
    have hH : H Dl = none := by
      exact x.gone hD
    have hG1 : G1 Dl = none := x.gh.none hD
    refine dc_it w (fun i H' => ∃ G' es, Ext G1 H1 G' H' ∧ G' Dl = none ∧ H' Dl = some (.dK es) ∧ DqV K G' es (dcD i b k f)) ⟨G1, [], .fresh x.gh hD, hG1, upd_same, .nil⟩ (fun i H' _ ⟨G', vl, e, _⟩ => hG G' H' e.gg e.gh) (fun i y H' H3 hlt ⟨G', es, e, n1, h1, r1⟩ hy => ?_)
      (fun H' ⟨G', es, e, n1, h1, r1⟩ => q Dl G' H' (x.trans e) hH n1 (.dK h1 r1.k))
    obtain ⟨G3, x3, hdq⟩ := hY i G' H' y H3 hlt e.gg e.gh hy
    obtain ⟨ρ2, ts, hg, hts, ht, he⟩ := hs i hlt
    have E3 : En K G0 H0 G3 H3 (L2.wipe σ vs) (wipeS ρ vs) := ((E1.go e).go x3).wipe vs
    have n3 : G3 Dl = none := x3.own _ _ h1 rfl n1
    refine hg G0 H0 G3 H3 _ y _ E3 hdq fun σ2 E2 hl hk => ⟨wipe_eq (by rw [hl, wipe_length]) hk hts, ?_⟩
    refine ht G0 H0 G3 H3 σ2 _ E2 fun G4 H4 x4 => ?_
    have h4 : H4 Dl = some (.dK es) := x4.at n3 (x3.at n1 h1)
    have n4 : G4 Dl = none := x4.own _ _ (x3.at n1 h1) rfl n3
    have r4 : DqV K G4 es (dcD i b k f) := (r1.mono x3.g).mono x4.g
    have e4 : Ext G1 H1 G4 H4 := (e.trans x3).trans x4
    cases hb : b i with
    | false =>
      rw [if_neg Bool.false_ne_true]
      refine ⟨G4, es, e4, n4, h4, ?_⟩
      unfold dcD
      rw [if_neg (by rw [hb]; exact Bool.false_ne_true)]
      exact r4
    | true =>
      rw [if_pos rfl]
      refine (he hb).1 G0 H0 G4 H4 σ2 _ (E2.go x4) fun u G5 H5 x5 hu => (he hb).2 G0 H0 G5 H5 σ2 _ ((E2.go x4).go x5) fun z G6 H6 x6 hz => ?_
      have x56 := x5.trans x6
      have h5 := x56.at n4 h4
      have n5 := x56.own _ _ h4 rfl n4
      have hlen := dcD_len b k f i
      have hl2 := r4.length
      refine ⟨es, k i, key_dq hu, h5, by rw [hl2, sizeLine_eq]; omega, G6, putK es (k i) z, ?_, n5, upd_same, ?_⟩
      · have e5 := e4.trans x56
        refine ⟨e5.gg, fun a o ha => ?_, fun a o ha => ?_, e5.own⟩
        · rw [upd_ne (ne_of_none ha hD)]; exact e5.hh a o ha
        · have ne : a ≠ Dl := ne_of_none ha n5
          exact (e5.gh a o ha).eq (upd_ne ne)
      · have hb' : dcD (i + 1) b k f = putG (dcD i b k f) (k i) (f i) := by
          show (if b i = true then putG (dcD i b k f) (k i) (f i) else dcD i b k f) = _
          rw [if_pos hb]
        rw [hb']
        exact (r4.mono x56.g).put hz
end
end DL

set_option maxHeartbeats 1000000
/-! DL14: x = {k: v for ..} of a local name. -/
namespace DL
open PySem PySem.Spec PyProof.Rows L2
section
variable {X : Cx}
theorem ps_setDc {i : Nat} {y : Str} {py : Pos} {kx vx tg iter : Expr} {ifs : List Expr} {scope : Scope} {own : List (Str × Nat)} {pos spos : Pos} {wi : TI} {g : TG} {tt : TT} {tk tv : TE} (hc : X.calm = true) (hN : X.N.Nodup) (hy : X.N[i]? = some y) (hyl : X.env.scope.names.lookup y = some .local)
    (hsw : swapsWith (.DictComp kx vx [⟨tg, iter, ifs, 0⟩] scope pos) (some (.Name y py)) spos.line X.env = pure true) (hi : PI X tg iter wi) (ok : BlkOk X.N X.env.scope scope own)
    (hg : ∀ (s : Shared) (H : Hp) (C : Addr) (cl : List (Str × Addr)) (fp : List Addr), PG (X.blk s H scope (compEnvC scope cl C X.env) fp) tg g) (ht : ∀ (s : Shared) (H : Hp) (C : Addr) (cl : List (Str × Addr)) (fp : List Addr), PTs (X.blk s H scope (compEnvC scope cl C X.env) fp) ifs tt) (hk : ∀ (s : Shared) (H : Hp) (C : Addr) (cl : List (Str × Addr)) (fp : List Addr), PE (X.blk s H scope (compEnvC scope cl C X.env) fp) kx tk)
    (he : ∀ (s : Shared) (H : Hp) (C : Addr) (cl : List (Str × Addr)) (fp : List Addr), PE (X.blk s H scope (compEnvC scope cl C X.env) fp) vx tv) (hs : ∀ x, foldedSetIterable iter X.env x = pure x := by intro _; rfl) :
    PS X (.Assign [.Name y py] (.DictComp kx vx [⟨tg, iter, ifs, 0⟩] scope pos) spos) (tAsg (tDc wi g tt tk tv (own.map (·.2))) (gName i)) := by
  refine ⟨fun pins s σ H D I h0 => ?_⟩
  rw [exec_Assign_Name_used _ _ _ _ hsw]
  refine wpAny_bind (wpAny_standAt (wpAny_bind ?_))
  show wpAny _ X.A (do let _ ← comprehension (.DictComp kx vx [⟨tg, iter, ifs, 0⟩] scope pos) scope X.env (firstIterPos [⟨tg, iter, ifs, 0⟩] pos) newDict false (eval iter X.env) (some (assign (.Name y py) X.env))) _ _ s
  have h1 : tDc wi g tt tk tv (own.map (·.2)) σ H (fun x H1 => gName i x σ H1 D.nx) := h0
  refine wpAny_bind (thn (dc_core (Qf := fun _ s' => SP X pins D .next s') hc hN I hi ok hg ht hk he hs h1 fun L C s' m H' I' q hn ff => ?_) fun _ s' hq => wpAny_pure (wpAny_pure hq))
  show wpAny _ _ (assign (.Name y py) X.env (.ref L)) _ _ _
  refine wpAny_assign_Name (store_ok2 (v := V.ref L) I' hN hy (.inl hyl) rfl (fun s2 I2 ⟨a, sb, ha⟩ => ?_) (.inr hyl))
  obtain ⟨g0, g1, g2, g3, g4, g5⟩ := ff
  have hCa : C ≠ a := by
    rcases ha with z | z
    · rw [z]
      exact g1
    · exact fun e => g4 y a z e.symm
  exact ⟨m, hn.sameBut sb hCa, fun h3 sb3 => ⟨_, H', I2.turned (t' := s2.toks) (fun b o hb e => (sb3.2 b hb).trans e) g0 g1 g3 g4 g5, q⟩⟩
theorem sw_trueD {kx vx : Expr} {gs : List Comprehension} {scope : Scope} {pos py : Pos} {y : Str} {l : Nat} {env : Env} (h1 : env.scope.kind = .function) (h2 : env.scope.names.lookup y = some .local) (h3 : (py.line == pos.line) = true)
    (h4 : (scope.names.any fun (n, k) => n == y && (k == .local || k == .cell)) = false) : swapsWith (.DictComp kx vx gs scope pos) (some (.Name y py)) l env = pure true := by
  have k1 : env.kindOf y = some .local := h2
  have k2 : env.blockKind = .function := by
    unfold Env.blockKind
    rw [h1]
    rfl
  unfold swapsWith
  simp only [k2, k1, h4, Expr.pos, h3]
  rfl
end
section
variable {K : PySem.W.Frag} {ρ : List Sl} {ta tb : TE}
theorem ev_inDS {kvs : List (Key × D)} {x : Str} (hk : EV K ta ρ (.str x)) (h : EV K tb ρ (dkD kvs)) : EV K (tDIn ta tb) ρ (.bool (hasG kvs (.inr x))) := ev_inD hk rfl h
theorem ev_ninDS {kvs : List (Key × D)} {x : Str} (hk : EV K ta ρ (.str x)) (h : EV K tb ρ (dkD kvs)) : EV K (tDNotIn ta tb) ρ (.bool (!hasG kvs (.inr x))) := ev_ninD hk rfl h
/-- the first place below n at which f tells a word -/
def firstO {α : Type} (f : Nat → Option α) : Nat → Option (Nat × α)
  | 0 => none
  | n + 1 => match firstO f n with
    | some r => some r
    | none => (f n).map fun w => (n, w)
theorem firstO_none {α : Type} {f : Nat → Option α} : ∀ {n : Nat}, (∀ j, j < n → f j = none) → firstO f n = none
  | 0, _ => rfl
  | n + 1, h => by
    unfold firstO
    rw [firstO_none fun j hj => h j (by omega), h n (by omega)]
    rfl
theorem firstO_some {α : Type} {f : Nat → Option α} {i : Nat} {w : α} : ∀ {n : Nat}, i < n → (∀ j, j < i → f j = none) → f i = some w → firstO f n = some (i, w)
  | 0, h, _, _ => by omega
  | n + 1, h, h0, h1 => by
    unfold firstO
    by_cases e : i = n
    · subst e
      rw [firstO_none h0, h1]
      rfl
    · rw [firstO_some (n := n) (by omega) h0 h1]
theorem firstO_at {α : Type} {f : Nat → Option α} {i : Nat} {w : α} : ∀ {n : Nat}, firstO f n = some (i, w) → i < n ∧ f i = some w ∧ ∀ j, j < i → f j = none
  | 0, h => by cases h
  | n + 1, h => by
    unfold firstO at h
    cases q : firstO f n with
    | some r =>
      rw [q] at h
      dsimp only at h
      subst_vars
      injection h with h
      subst h
      obtain ⟨a, b, c⟩ := firstO_at q
      exact ⟨by omega, b, c⟩
    | none =>
      rw [q] at h
      dsimp only at h
      have nn : ∀ {m : Nat}, firstO f m = none → ∀ j, j < m → f j = none := by
        intro m
        induction m with
        | zero => intro _ j hj; omega
        | succ m ih =>
          intro hm j hj
          unfold firstO at hm
          cases q2 : firstO f m with
          | some r => rw [q2] at hm; cases hm
          | none =>
            rw [q2] at hm
            dsimp only at hm
            by_cases e : j = m
            · subst e
              cases q3 : f j with
              | none => rfl
              | some w => rw [q3] at hm; cases hm
            · exact ih q2 j (by omega)
      cases q3 : f n with
      | none => rw [q3] at h; cases h
      | some w' =>
        rw [q3] at h
        injection h with h
        injection h with h1 h2
        subst h1 h2
        exact ⟨by omega, q3, nn q⟩
theorem firstO_nn {α : Type} {f : Nat → Option α} : ∀ {n : Nat}, firstO f n = none → ∀ j, j < n → f j = none
  | 0, _, j, hj => by omega
  | n + 1, h, j, hj => by
    cases q : f j with
    | none => rfl
    | some w =>
      exfalso
      cases q2 : firstO f n with
      | some r =>
        unfold firstO at h
        rw [q2] at h
        cases h
      | none =>
        unfold firstO at h
        rw [q2] at h
        dsimp only at h
        by_cases e : j = n
        · subst e
          rw [q] at h
          cases h
        · have := firstO_nn q2 j (by omega)
          rw [q] at this
          cases this
end
end DL

set_option maxHeartbeats 1000000
/-! DL15: a dict of owned lists. -/
namespace DL
open PySem PySem.Spec PyProof.Rows L2
def getL : List (Key × List D) → Key → Option (List D)
  | [], _ => none
  | (k', ds) :: r, k => if k' = k then some ds else getL r k
def appL : List (Key × List D) → Key → D → List (Key × List D)
  | [], _, _ => []
  | (k', ds) :: r, k, d => if k' = k then (k', ds ++ [d]) :: r else (k', ds) :: appL r k d
section
variable {K : PySem.W.Frag} {G H : Hp}
theorem NeL.get {k : Key} {ds : List D} : ∀ {es : List (Key × V)} {as : List Addr} {kls : List (Key × List D)}, NeL K G H es as kls → getL kls k = some ds → ∃ a vs, valV es k = some (.ref a) ∧ a ∈ as ∧ H a = some (.lst vs) ∧ DqA K G vs ds
  | _, _, _, .nil, e => by cases e
  | _, _, _, @NeL.cons _ _ _ k' a vs ds' es as kls h r t, e => by
    unfold getL at e
    by_cases q : k' = k
    · rw [if_pos q] at e
      cases e
      exact ⟨a, vs, valV_pos q, List.mem_cons_self .., h, r⟩
    · rw [if_neg q] at e
      obtain ⟨b, us, h1, h2, h3, h4⟩ := NeL.get t e
      exact ⟨b, us, by rw [valV_neg (p := (k', V.ref a)) q]; exact h1, List.mem_cons_of_mem _ h2, h3, h4⟩
theorem NeL.keep {a : Addr} {o : HO} : ∀ {es : List (Key × V)} {as : List Addr} {kls : List (Key × List D)}, NeL K G H es as kls → a ∉ as → NeL K G (upd H a o) es as kls
  | _, _, _, .nil, _ => .nil
  | _, _, _, .cons h r t, n => .cons (by rw [upd_ne fun z => n (by rw [z]; exact List.mem_cons_self ..)]; exact h) r (NeL.keep t fun z => n (List.mem_cons_of_mem _ z))
theorem NeL.upd {k : Key} {ds : List D} {v : V} {d : D} (hv : Dq K G v d) : ∀ {es : List (Key × V)} {as : List Addr} {kls : List (Key × List D)} {a : Addr} {vs : List V}, NeL K G H es as kls → as.Nodup → getL kls k = some ds → valV es k = some (.ref a) → H a = some (.lst vs) → NeL K G (upd H a (.lst (vs ++ [v]))) es as (appL kls k d)
  | _, _, _, _, _, .nil, _, e, _, _ => by cases e
  | _, _, _, a, vs, @NeL.cons _ _ _ k' b us ds' es as kls h r t, nd, e, ev, ha => by
    unfold getL at e
    unfold appL
    obtain ⟨n1, n2⟩ := List.nodup_cons.mp nd
    by_cases q : k' = k
    · rw [valV_pos (p := (k', V.ref b)) q] at ev
      injection ev with ev
      injection ev with ev
      have ev : b = a := ev
      subst ev
      rw [if_pos q]
      rw [h] at ha
      cases ha
      exact .cons upd_same (r.append (.one hv)) (t.keep n1)
    · rw [if_neg q] at e
      rw [valV_neg (p := (k', V.ref b)) q] at ev
      rw [if_neg q]
      have ne : b ≠ a := by
        rintro rfl
        obtain ⟨c, ws, h1, h2, _⟩ := NeL.get t e
        rw [ev] at h1
        cases h1
        exact n1 h2
      exact .cons (by rw [upd_ne ne]; exact h) r (NeL.upd hv t n2 e ev ha)
end
section
variable {K : PySem.W.Frag} {G0 H0 G H : Hp} {σ : L2.St} {ρ : List Sl} {Ex : XK} {ta tb te : TE} {d : D} {P : Oc → Prop}
theorem En.look (E : En K G0 H0 G H σ ρ) {n : Nat} {kls : List (Key × List D)} (hi : ρ[n]? = some (.ne kls)) : ∃ l as es, σ[n]? = some (some (.ref l)) ∧ H l = some (.dK es) ∧ NeL K G H es as kls ∧ (l :: as).Nodup ∧ ∀ a ∈ l :: as, H0 a = none ∧ G a = none ∧ ∀ (j : Nat) (e : D), ρ[j]? = some (Sl.ow e) → σ[j]? ≠ some (some (V.ref a)) := by
  obtain ⟨l, as, h1, ⟨⟨es, h2, h3⟩, h4⟩, h5⟩ := E.ne n kls hi
  exact ⟨l, as, es, h1, h2, h3, h4, h5⟩
/-- one list of it is changed -/
theorem En.writeN (E : En K G0 H0 G H σ ρ) {n : Nat} {kls lls : List (Key × List D)} {l a : Addr} {as : List Addr} {es : List (Key × V)} {o : HO} (hi : ρ[n]? = some (.ne kls)) (hl : σ[n]? = some (some (.ref l))) (hd : H l = some (.dK es)) (nd : (l :: as).Nodup) (ha : a ∈ as)
    (hf : ∀ a ∈ l :: as, H0 a = none ∧ G a = none ∧ ∀ (j : Nat) (e : D), ρ[j]? = some (Sl.ow e) → σ[j]? ≠ some (some (V.ref a))) (h : NeL K G (upd H a o) es as lls) : En K G0 H0 G (upd H a o) σ (ρ.set n (.ne lls)) := by
  obtain ⟨f1, f2, f3⟩ := hf a (List.mem_cons_of_mem _ ha)
  have hla : l ≠ a := fun z => (List.nodup_cons.mp nd).1 (by rw [z]; exact ha)
  have hil : n < ρ.length := (List.getElem?_eq_some_iff.mp hi).1
  have ghn : GH G (upd H a o) := fun b u r => by
    have ne : b ≠ a := by
      rintro rfl
      rw [f2] at r
      cases r
    exact (E.gh b u r).eq (upd_ne ne)
  have old : ∀ {j : Nat} {e : D}, (ρ.set n (.ne lls))[j]? = some (Sl.ow e) → ρ[j]? = some (Sl.ow e) := fun {j e} z => by
    rcases set_get? z with ⟨_, _, x⟩ | ⟨_, z⟩
    · cases x
    · exact z
  refine ⟨by rw [List.length_set, E.len], ⟨E.ext.gg, fun b u e => by rw [upd_ne (ne_of_none e f1)]; exact E.ext.hh b u e, ghn, E.ext.own⟩, fun j e q => ?_, fun j e q => ?_, fun j b dd fl q => ?_, fun j k e e' b q q' => E.dis j k e e' b (old q) (old q'), fun j ks q => ?_, fun j k x y q q' => ?_⟩
  · rcases set_get? q with ⟨_, _, x⟩ | ⟨_, q⟩
    · cases x
    · exact E.fr j e q
  · obtain ⟨b, a1, a2, a3, a4⟩ := E.ow j e (old q)
    have hb : b ≠ a := fun z => f3 j e (old q) (by rw [← z]; exact a1)
    exact ⟨b, a1, a2, a3, a4.ext (Sub.refl G) (upd_ne hb)⟩
  · rcases set_get? q with ⟨_, _, x⟩ | ⟨_, q⟩
    · cases x
    · exact E.ex j b dd fl q
  · rcases set_get? q with ⟨rfl, _, x⟩ | ⟨nj, q⟩
    · cases x
      exact ⟨l, as, hl, ⟨⟨es, by rw [upd_ne hla]; exact hd, h⟩, nd⟩, fun b hb => ⟨(hf b hb).1, (hf b hb).2.1, fun k e z => (hf b hb).2.2 k e (old z)⟩⟩
    · exact absurd (E.ned j n ks kls q hi) nj
  · have hx : ∀ {j : Nat} {x : List (Key × List D)}, (ρ.set n (.ne lls))[j]? = some (Sl.ne x) → j = n := fun {j x} z => by
      rcases set_get? z with ⟨e, _, _⟩ | ⟨_, z⟩
      · exact e
      · exact E.ned j n x kls z hi
    rw [hx q, hx q']
/-- d[k].append(e) -/
theorem st_nappend {n : Nat} {kls : List (Key × List D)} {k : Key} {dk : D} {ds : List D} (hi : ρ[n]? = some (.ne kls)) (hk : EV K tb ρ dk) (ek : dk = kD k) (hg : getL kls k = some ds) (h : EV K te ρ d) (hz : ds.length < 16000000) (q : P (.nx (ρ.set n (.ne (appL kls k d))))) :
    ST K Ex (tDrop (tBM K "list" rAppend (tDGet (tVar n) tb) (tCons te tNil))) ρ P := fun G0 H0 G H σ D E f => by
  obtain ⟨l, _, h1, _⟩ := E.ne n kls hi
  subst ek
  refine ⟨_, h1, hk G0 H0 G H σ _ E fun y G1 H1 e1 hy => ?_⟩
  obtain ⟨l', as, es, g1, g2, g3, g4, g5⟩ := (E.go e1).look hi
  rw [h1] at g1
  cases g1
  obtain ⟨a, vs, b1, b2, b3, b4⟩ := g3.get hg
  have ey := key_dq hy
  subst ey
  refine ⟨l, .ref a, rfl, .inl ⟨es, k, .inl g2, rfl, b1.symm⟩, .inl ⟨rfl, vs, SqL.of b3⟩, h G0 H0 G1 H1 σ _ (E.go e1) fun v G2 H2 e2 hv => ?_⟩
  have E2 := (E.go e1).go e2
  obtain ⟨l2, as2, es2, c1, c2, c3, c4, c5⟩ := E2.look hi
  rw [h1] at c1
  cases c1
  have d2 := e2.at (g5 _ (List.mem_cons_self ..)).2.1 g2
  rw [c2] at d2
  cases d2
  have d3 := g3.det c3
  subst d3
  have d4 := e2.at (g5 _ (List.mem_cons_of_mem _ b2)).2.1 b3
  exact ⟨a, vs, v, rfl, rfl, d4, by rw [b4.length, sizeLine_eq]; omega, f.nx _ _ _ _ q (E2.writeN hi h1 c2 c4 b2 c5 (NeL.upd hv c3 (List.nodup_cons.mp c4).2 hg b1 d4))⟩
/-- what it is when it is frozen -/
def neD (kls : List (Key × List D)) : D := dkD (kls.map fun p => (p.1, .list p.2))
theorem NeL.frz {G' : Hp} (g : Sub G G') : ∀ {es : List (Key × V)} {as : List Addr} {kls : List (Key × List D)}, NeL K G H es as kls → (∀ a ∈ as, G' a = H a) → DqV K G' es (kls.map fun p => (p.1, .list p.2))
  | _, _, _, .nil, _ => .nil
  | _, _, _, .cons h r t, e => .cons (.lst ((e _ (List.mem_cons_self ..)).trans h) (r.mono g)) (NeL.frz g t fun a ha => e a (List.mem_cons_of_mem _ ha))
theorem En.freezeN (E : En K G0 H0 G H σ ρ) {n : Nat} {kls : List (Key × List D)} (hi : ρ[n]? = some (.ne kls)) : ∃ G', En K G0 H0 G' H σ (ρ.set n (.fr (neD kls))) ∧ ∀ l, σ[n]? = some (some (.ref l)) → G' l = H l := by
  obtain ⟨l, as, es, h1, h2, h3, h4, h5⟩ := E.look hi
  let G' : Hp := fun a => if a ∈ l :: as then H a else G a
  have gin : ∀ a ∈ l :: as, G' a = H a := fun a ha => if_pos ha
  have gout : ∀ a, a ∉ l :: as → G' a = G a := fun a ha => if_neg ha
  have gg : ∀ a u, G a = some u → G' a = some u := fun a u e => by
    rw [gout a fun z => by rw [(h5 a z).2.1] at e; cases e]
    exact e
  have gh' : GH G' H := fun a u r => by
    by_cases ha : a ∈ l :: as
    · rw [gin a ha] at r
      exact .of r ((show NeC K G H l as kls from ⟨⟨es, h2, h3⟩, h4⟩).there2 ha r)
    · rw [gout a ha] at r
      exact E.gh a u r
  have hil : n < ρ.length := (List.getElem?_eq_some_iff.mp hi).1
  have old : ∀ {j : Nat} {e : D}, (ρ.set n (.fr (neD kls)))[j]? = some (Sl.ow e) → ρ[j]? = some (Sl.ow e) := fun {j e} z => by
    rcases set_get? z with ⟨_, _, x⟩ | ⟨_, z⟩
    · cases x
    · exact z
  have non : ∀ {j : Nat} {x : List (Key × List D)}, (ρ.set n (.fr (neD kls)))[j]? = some (Sl.ne x) → False := fun {j x} z => by
    rcases set_get? z with ⟨_, _, x⟩ | ⟨nj, z⟩
    · cases x
    · exact nj (E.ned j n x kls z hi)
  refine ⟨G', ⟨by rw [List.length_set, E.len], ⟨fun a u e => gg a u (E.ext.gg a u e), E.ext.hh, gh', fun a u e t z => ?_⟩, fun j e q => ?_, fun j e q => ?_, fun j b dd fl q => ?_, fun j k e e' b q q' => E.dis j k e e' b (old q) (old q'), fun j ks q => (non q).elim, fun j k x y q q' => (non q).elim⟩, fun m hm => gin m (by rw [h1] at hm; injection hm with hm; injection hm with hm; injection hm with hm; rw [← hm]; exact List.mem_cons_self ..)⟩
  · rw [gout a fun m => by rw [(h5 a m).1] at e; cases e]
    exact E.ext.own a u e t z
  · rcases set_get? q with ⟨rfl, _, x⟩ | ⟨_, q⟩
    · cases x
      exact ⟨_, h1, .dK (.inl ((gin l (List.mem_cons_self ..)).trans h2)) (DqV.k (h3.frz (Sub.of gg) fun a ha => gin a (List.mem_cons_of_mem _ ha)))⟩
    · obtain ⟨v, a1, a2⟩ := E.fr j e q
      exact ⟨v, a1, a2.mono (Sub.of gg)⟩
  · obtain ⟨b, a1, a2, a3, a4⟩ := E.ow j e (old q)
    have hb : b ∉ l :: as := fun m => (h5 b m).2.2 j e (old q) a1
    exact ⟨b, a1, a2, by rw [gout b hb]; exact a3, a4.ext (Sub.of gg) rfl⟩
  · rcases set_get? q with ⟨_, _, x⟩ | ⟨_, q⟩
    · cases x
    · obtain ⟨a1, fs, a2, a3⟩ := E.ex j b dd fl q
      exact ⟨a1, fs, gg _ _ a2, a3.mono (Sub.of gg)⟩
theorem q_frzN {t : TS} {n : Nat} {kls : List (Key × List D)} (hi : ρ[n]? = some (.ne kls)) (h : ST K Ex t (ρ.set n (.fr (neD kls))) P) : ST K Ex t ρ P := fun G0 H0 G H σ D E f => by
  obtain ⟨G', E', _⟩ := E.freezeN hi
  exact h G0 H0 G' H σ D E' f
/-! ### laying one -/
theorem NeL.ext {G' H' : Hp} (x : Ext G H G' H') {es : List (Key × V)} {as : List Addr} {kls : List (Key × List D)} (h : NeL K G H es as kls) (hG : ∀ a ∈ as, G a = none) : NeL K G' H' es as kls := h.go x.g fun a ha => by
  obtain ⟨vs, e⟩ := h.there a ha
  exact (x.at (hG a ha) e).trans e.symm
theorem NeL.none {k : Key} : ∀ {es : List (Key × V)} {as : List Addr} {kls : List (Key × List D)}, NeL K G H es as kls → getL kls k = none → valV es k = none
  | _, _, _, .nil, _ => rfl
  | _, _, _, @NeL.cons _ _ _ k' a vs ds es as kls h r t, e => by
    unfold getL at e
    by_cases q : k' = k
    · rw [if_pos q] at e
      cases e
    · rw [if_neg q] at e
      rw [valV_neg (p := (k', V.ref a)) q]
      exact NeL.none t e
theorem NeL.snoc {k : Key} {a : Addr} {vs : List V} {ds : List D} (h : H a = some (.lst vs)) (r : DqA K G vs ds) : ∀ {es : List (Key × V)} {as : List Addr} {kls : List (Key × List D)}, NeL K G H es as kls → NeL K G H (es ++ [(k, .ref a)]) (as ++ [a]) (kls ++ [(k, ds)])
  | _, _, _, .nil => .cons h r .nil
  | _, _, _, .cons h' r' t => .cons h' r' (NeL.snoc h r t)
/-- a new dict of owned lists -/
def EVL (K : PySem.W.Frag) (te : TE) (ρ : List Sl) (kls : List (Key × List D)) : Prop := ∀ (G0 H0 G H : Hp) (σ : L2.St) (Q : VK), En K G0 H0 G H σ ρ → (∀ l as G' H', Ext G H G' H' → (∀ a ∈ l :: as, H a = none ∧ G' a = none) → NeC K G' H' l as kls → Q (.ref l) H') → te σ H Q
def klD (k : Nat → Key) (f : Nat → List D) (n : Nat) : List (Key × List D) := (List.range n).map fun i => (k i, f i)
/-- EI at one state -/
def EIp (K : PySem.W.Frag) (wi : TI) (σ : L2.St) (G H : Hp) (n : Nat) (item : Nat → D) : Prop := ∀ (R : It → Hp → Prop),
  (∀ J G' H' Gd Y, Ext G H G' H' → Walk J n Gd Y → (∀ G2 H2, Ext G' H' G2 H2 → Gd H2) →
    (∀ i G2 H2 x H3, i < n → Ext G' H' G2 H2 → Y i H2 x H3 → ∃ G3, Ext G2 H2 G3 H3 ∧ Dq K G3 x (item i)) → R J H') → wi σ H R
theorem el_dc0 {wi : TI} {g : TG} {tt : TT} {tk tv : TE} {vs : List Nat} {n : Nat} {item : Nat → D} {k : Nat → Key} {f : Nat → List D} (E : En K G0 H0 G H σ ρ) (hi : EIp K wi σ G H n item) (hn : n ≤ 16000000) (hd : ∀ i, i < n → getL (klD k f i) (k i) = none)
    (hs : ∀ i, i < n → ∃ ρ2 ts, GT K g (wipeS ρ vs) (item i) ρ2 ts ∧ (∀ t ∈ ts, t ∈ vs) ∧ ET K tt ρ2 true ∧ EV K tk ρ2 (kD (k i)) ∧ EVN K tv ρ2 (.list (f i)))
    {Q : VK} (q : ∀ l as G' H', Ext G H G' H' → (∀ a ∈ l :: as, H a = none ∧ G' a = none) → NeC K G' H' l as (klD k f n) → Q (.ref l) H') : tDc wi g tt tk tv vs σ H Q :=
  hi _ fun J G1 H1 Gd Y x w hG hY Dl hD => by
    have E1 := E.go x
    refine dc_it w (fun i H' => ∃ G' es as, Ext G1 H1 G' H' ∧ G' Dl = none ∧ H' Dl = some (.dK es) ∧ NeL K G' H' es as (klD k f i) ∧ (Dl :: as).Nodup ∧ ∀ a ∈ as, H a = none ∧ G' a = none) ⟨G1, [], [], .fresh x.gh hD, x.gh.none hD, upd_same, .nil, List.nodup_cons.mpr ⟨fun h => (by cases h), List.nodup_nil⟩, fun a ha => (by cases ha)⟩ (fun i H' _ ⟨G', es, as, e, _⟩ => hG G' H' e) (fun i y H' H3 hlt ⟨G', es, as, e, n1, h1, r1, d1, f1⟩ hy => ?_)
      (fun H' ⟨G', es, as, e, n1, h1, r1, d1, f1⟩ => q Dl as G' H' (x.trans e) (fun a ha => (List.mem_cons.mp ha).elim (fun z => by rw [z]; exact ⟨x.gone hD, n1⟩) fun m => f1 a m) ⟨⟨es, h1, r1⟩, d1⟩)
    obtain ⟨G3, x3, hdq⟩ := hY i G' H' y H3 hlt e hy
    obtain ⟨ρ2, ts, hg, hts, ht, hk, hv⟩ := hs i hlt
    have E3 : En K G0 H0 G3 H3 (L2.wipe σ vs) (wipeS ρ vs) := ((E1.go e).go x3).wipe vs
    refine hg G0 H0 G3 H3 _ y _ E3 hdq fun σ2 E2 hl2 hk2 => ⟨wipe_eq (by rw [hl2, wipe_length]) hk2 hts, ?_⟩
    refine ht G0 H0 G3 H3 σ2 _ E2 fun G4 H4 x4 => ?_
    rw [if_pos rfl]
    refine hk G0 H0 G4 H4 σ2 _ (E2.go x4) fun u G5 H5 x5 hu => hv G0 H0 G5 H5 σ2 _ ((E2.go x4).go x5) fun p G6 H6 x6 hp5 hp6 ho => ?_
    have xx := ((x3.trans x4).trans x5).trans x6
    have eD := xx.at n1 h1
    have nD := xx.own _ _ h1 rfl n1
    have r6 := r1.ext xx fun a ha => (f1 a ha).2
    have e6 := e.trans xx
    cases ho with
    | @lst us _ hq hr =>
      have hpD : p ≠ Dl := fun z => by
        have := ((x3.trans x4).trans x5).at n1 h1
        rw [← z, hp5] at this
        cases this
      have hpa : p ∉ as := fun m => by
        obtain ⟨ws, hw⟩ := r1.there p m
        have := ((x3.trans x4).trans x5).at (f1 p m).2 hw
        rw [hp5] at this
        cases this
      have hpH : H p = none := x.gone (e.gone (((x3.trans x4).trans x5).gone hp5))
      have hput : putK es (k i) (.ref p) = es ++ [(k i, .ref p)] := putK_new _ (r1.none (hd i hlt))
      have hlen : es.length = i := by
        have : ∀ {es : List (Key × V)} {as : List Addr} {kls : List (Key × List D)}, NeL K G' H' es as kls → es.length = kls.length := by
          intro es as kls z
          induction z with
          | nil => rfl
          | cons _ _ _ ih => exact congrArg Nat.succ ih
        rw [this r1]
        unfold klD
        rw [List.length_map, List.length_range]
      obtain ⟨d2, d3⟩ := List.nodup_cons.mp d1
      have dup : Dl ∉ as ++ [p] := fun m => (List.mem_append.mp m).elim d2 fun z => hpD (List.mem_singleton.mp z).symm
      refine ⟨es, k i, key_dq hu, eD, by rw [hlen, sizeLine_eq]; omega, G6, es ++ [(k i, .ref p)], as ++ [p], ?_, nD, by rw [hput]; exact upd_same, ?_, ?_, fun a ha => ?_⟩
      · refine ⟨e6.gg, fun a o z => ?_, fun a o z => ?_, e6.own⟩
        · rw [upd_ne (ne_of_none z hD)]
          exact e6.hh a o z
        · exact (e6.gh a o z).eq (upd_ne (ne_of_none z nD))
      · have hkl : klD k f (i + 1) = klD k f i ++ [(k i, f i)] := by
          unfold klD
          rw [List.range_succ, List.map_append]
          rfl
        rw [hkl]
        exact (r6.snoc hq hr).keep dup
      · refine List.nodup_cons.mpr ⟨dup, List.nodup_append.mpr ⟨d3, List.nodup_cons.mpr ⟨fun h => (by cases h), List.nodup_nil⟩, fun a ha c hc z => ?_⟩⟩
        rw [List.mem_singleton.mp hc] at z
        subst z
        exact hpa ha
      · rcases List.mem_append.mp ha with ha | ha
        · obtain ⟨ws, hw⟩ := r1.there a ha
          exact ⟨(f1 a ha).1, xx.own _ _ hw rfl (f1 a ha).2⟩
        · rw [List.mem_singleton.mp ha]
          exact ⟨hpH, hp6⟩
theorem el_dc {wi : TI} {g : TG} {tt : TT} {tk tv : TE} {vs : List Nat} {n : Nat} {item : Nat → D} {k : Nat → Key} {f : Nat → List D} (hi : EI K wi ρ n item) (hn : n ≤ 16000000) (hd : ∀ i, i < n → getL (klD k f i) (k i) = none)
    (hs : ∀ i, i < n → ∃ ρ2 ts, GT K g (wipeS ρ vs) (item i) ρ2 ts ∧ (∀ t ∈ ts, t ∈ vs) ∧ ET K tt ρ2 true ∧ EV K tk ρ2 (kD (k i)) ∧ EVN K tv ρ2 (.list (f i))) :
    EVL K (tDc wi g tt tk tv vs) ρ (klD k f n) := fun G0 H0 G H σ Q E q => el_dc0 E (fun R z => hi G0 H0 G H σ R E fun J G' H' Gd Y x w hG hY => z J G' H' Gd Y x w (fun G2 H2 e => hG G2 H2 e.gg e.gh) fun i G2 H2 x' H3 l e y => hY i G2 H2 x' H3 l e.gg e.gh y) hn hd hs q
theorem En.setL {G' H' : Hp} (E : En K G0 H0 G H σ ρ) {n : Nat} {l : Addr} {as : List Addr} {kls : List (Key × List D)} (hno : ∀ (j : Nat) (x : List (Key × List D)), j ≠ n → ρ[j]? ≠ some (.ne x)) (x : Ext G H G' H') (hf : ∀ a ∈ l :: as, H a = none ∧ G' a = none) (h : NeC K G' H' l as kls) :
    En K G0 H0 G' H' (σ.set n (some (.ref l))) (ρ.set n (.ne kls)) := by
  have E1 := E.go x
  refine ⟨by rw [List.length_set, List.length_set, E.len], E1.ext, fun j e q => ?_, fun j e q => ?_, fun j b dd fl q => ?_, fun j k e e' b q q' r r' => ?_, fun j ks q => ?_, fun j k y z q q' => ?_⟩
  · rcases set_get? q with ⟨_, _, z⟩ | ⟨nj, q⟩
    · cases z
    · rw [List.getElem?_set_ne (Ne.symm nj)]
      exact E1.fr j e q
  · rcases set_get? q with ⟨_, _, z⟩ | ⟨nj, q⟩
    · cases z
    · rw [List.getElem?_set_ne (Ne.symm nj)]
      exact E1.ow j e q
  · rcases set_get? q with ⟨_, _, z⟩ | ⟨nj, q⟩
    · cases z
    · rw [List.getElem?_set_ne (Ne.symm nj)]
      exact E1.ex j b dd fl q
  · rcases set_get? q with ⟨_, _, z⟩ | ⟨nj, q⟩
    · cases z
    · rcases set_get? q' with ⟨_, _, z⟩ | ⟨nk, q'⟩
      · cases z
      · rw [List.getElem?_set_ne (Ne.symm nj)] at r
        rw [List.getElem?_set_ne (Ne.symm nk)] at r'
        exact E1.dis j k e e' b q q' r r'
  · rcases set_get? q with ⟨rfl, hi, z⟩ | ⟨nj, q⟩
    · cases z
      refine ⟨l, as, by rw [List.getElem?_set_self (by rw [E.len]; exact hi)], h, fun a ha => ⟨?_, (hf a ha).2, fun k e z => ?_⟩⟩
      · exact E.ext.gone (hf a ha).1
      · rcases set_get? z with ⟨_, _, y⟩ | ⟨nk, z⟩
        · cases y
        · rw [List.getElem?_set_ne (Ne.symm nk)]
          intro y
          obtain ⟨b, b1, _, _, b4⟩ := E.ow k e z
          rw [b1] at y
          injection y with y
          injection y with y
          injection y with y
          obtain ⟨o, ho, _⟩ := b4.there
          rw [y, (hf a ha).1] at ho
          cases ho
    · exact absurd q (hno j ks nj)
  · have only : ∀ {j : Nat} {y : List (Key × List D)}, (ρ.set n (Sl.ne kls))[j]? = some (Sl.ne y) → j = n := fun {j y} q => by
      rcases set_get? q with ⟨e, _, _⟩ | ⟨nj, q⟩
      · exact e
      · exact absurd q (hno j y nj)
    rw [only q, only q']
theorem st_asgL {n : Nat} {kls : List (Key × List D)} (h : EVL K te ρ kls) (hno : ∀ (j : Nat) (x : List (Key × List D)), j ≠ n → ρ[j]? ≠ some (.ne x)) (q : P (.nx (ρ.set n (.ne kls)))) : ST K Ex (tAsg te (gName n)) ρ P := fun G0 H0 G H σ D E f =>
  h G0 H0 G H σ _ E fun l as G' H' x hf c => f.nx _ _ G' H' q (E.setL hno x hf c)
theorem el_new : EVL K tDNewK ρ [] := fun G0 H0 G H σ Q E q p hp => q p [] G _ (.fresh E.gh hp) (fun a ha => by
  rw [List.mem_singleton.mp ha]
  exact ⟨hp, E.gh.none hp⟩) ⟨⟨[], upd_same, .nil⟩, List.nodup_cons.mpr ⟨fun h => (by cases h), List.nodup_nil⟩⟩
/-- a list more -/
theorem En.writeD (E : En K G0 H0 G H σ ρ) {n : Nat} {kls lls : List (Key × List D)} {l p : Addr} {as : List Addr} {es es' : List (Key × V)} (hi : ρ[n]? = some (.ne kls)) (hl : σ[n]? = some (some (.ref l))) (nd : (l :: as).Nodup)
    (hf : ∀ a ∈ l :: as, H0 a = none ∧ G a = none ∧ ∀ (j : Nat) (e : D), ρ[j]? = some (Sl.ow e) → σ[j]? ≠ some (some (V.ref a))) (hp : p ∉ l :: as) (fp : H0 p = none ∧ G p = none ∧ ∀ (j : Nat) (e : D), ρ[j]? = some (Sl.ow e) → σ[j]? ≠ some (some (V.ref p)))
    (h : NeL K G (upd H l (.dK es')) es' (as ++ [p]) lls) : En K G0 H0 G (upd H l (.dK es')) σ (ρ.set n (.ne lls)) := by
  obtain ⟨f1, f2, f3⟩ := hf l (List.mem_cons_self ..)
  have ghn : GH G (upd H l (.dK es')) := fun b u r => by
    have ne : b ≠ l := by
      rintro rfl
      rw [f2] at r
      cases r
    exact (E.gh b u r).eq (upd_ne ne)
  have old : ∀ {j : Nat} {e : D}, (ρ.set n (.ne lls))[j]? = some (Sl.ow e) → ρ[j]? = some (Sl.ow e) := fun {j e} z => by
    rcases set_get? z with ⟨_, _, x⟩ | ⟨_, z⟩
    · cases x
    · exact z
  refine ⟨by rw [List.length_set, E.len], ⟨E.ext.gg, fun b u e => by rw [upd_ne (ne_of_none e f1)]; exact E.ext.hh b u e, ghn, E.ext.own⟩, fun j e q => ?_, fun j e q => ?_, fun j b dd fl q => ?_, fun j k e e' b q q' => E.dis j k e e' b (old q) (old q'), fun j ks q => ?_, fun j k x y q q' => ?_⟩
  · rcases set_get? q with ⟨_, _, x⟩ | ⟨_, q⟩
    · cases x
    · exact E.fr j e q
  · obtain ⟨b, a1, a2, a3, a4⟩ := E.ow j e (old q)
    have hb : b ≠ l := fun z => f3 j e (old q) (by rw [← z]; exact a1)
    exact ⟨b, a1, a2, a3, a4.ext (Sub.refl G) (upd_ne hb)⟩
  · rcases set_get? q with ⟨_, _, x⟩ | ⟨_, q⟩
    · cases x
    · exact E.ex j b dd fl q
  · rcases set_get? q with ⟨rfl, _, x⟩ | ⟨nj, q⟩
    · cases x
      obtain ⟨d1, d2⟩ := List.nodup_cons.mp nd
      have hpl : p ≠ l := fun z => hp (by rw [z]; exact List.mem_cons_self ..)
      refine ⟨l, as ++ [p], hl, ⟨⟨es', upd_same, h⟩, List.nodup_cons.mpr ⟨fun m => (List.mem_append.mp m).elim d1 fun z => hpl (List.mem_singleton.mp z).symm, List.nodup_append.mpr ⟨d2, List.nodup_cons.mpr ⟨fun h => (by cases h), List.nodup_nil⟩, fun a ha c hc z => ?_⟩⟩⟩, fun b hb => ?_⟩
      · rw [List.mem_singleton.mp hc] at z
        subst z
        exact hp (List.mem_cons_of_mem _ ha)
      · have hb2 : b ∈ l :: as ∨ b = p := by
          rcases List.mem_cons.mp hb with e | m
          · exact .inl (by rw [e]; exact List.mem_cons_self ..)
          · rcases List.mem_append.mp m with m | m
            · exact .inl (List.mem_cons_of_mem _ m)
            · exact .inr (List.mem_singleton.mp m)
        rcases hb2 with m | rfl
        · exact ⟨(hf b m).1, (hf b m).2.1, fun k e z => (hf b m).2.2 k e (old z)⟩
        · exact ⟨fp.1, fp.2.1, fun k e z => fp.2.2 k e (old z)⟩
    · exact absurd (E.ned j n ks kls q hi) nj
  · have hx : ∀ {j : Nat} {x : List (Key × List D)}, (ρ.set n (.ne lls))[j]? = some (Sl.ne x) → j = n := fun {j x} z => by
      rcases set_get? z with ⟨e, _, _⟩ | ⟨_, z⟩
      · exact e
      · exact E.ned j n x kls z hi
    rw [hx q, hx q']
theorem NeL.len : ∀ {es : List (Key × V)} {as : List Addr} {kls : List (Key × List D)}, NeL K G H es as kls → es.length = kls.length
  | _, _, _, .nil => rfl
  | _, _, _, .cons _ _ t => congrArg Nat.succ (NeL.len t)
/-- d[k] = a fresh list, k new -/
theorem st_nput {n : Nat} {kls : List (Key × List D)} {k : Key} {dk : D} {ds : List D} (hi : ρ[n]? = some (.ne kls)) (hk : EV K tb ρ dk) (ek : dk = kD k) (hg : getL kls k = none) (h : EVN K te ρ (.list ds)) (hz : kls.length < 16000000) (q : P (.nx (ρ.set n (.ne (kls ++ [(k, ds)]))))) :
    ST K Ex (sDPut (tVar n) tb te) ρ P := fun G0 H0 G H σ D E f =>
  h G0 H0 G H σ _ E fun p G1 H1 e1 hpH hpG ho => by
    cases ho with
    | @lst us _ hp hr =>
      obtain ⟨l, as, es, a1, a2, a3, a4, a5⟩ := E.look hi
      refine ⟨_, a1, hk G0 H0 G1 H1 σ _ (E.go e1) fun y G2 H2 e2 hy => ?_⟩
      subst ek
      have ey := key_dq hy
      subst ey
      have E2 := (E.go e1).go e2
      have xx := e1.trans e2
      have d2 := xx.at (a5 _ (List.mem_cons_self ..)).2.1 a2
      have d3 := a3.ext xx fun a ha => (a5 a (List.mem_cons_of_mem _ ha)).2.1
      have np : p ∉ l :: as := fun m => by
        obtain ⟨o, ho, _⟩ := (show NeC K G H l as kls from ⟨⟨es, a2, a3⟩, a4⟩).there p m
        rw [hpH] at ho
        cases ho
      have hput : putK es k (.ref p) = es ++ [(k, .ref p)] := putK_new _ (a3.none hg)
      have hH0 : H0 p = none := by
        exact E.ext.gone hpH
      have f5 : ∀ a ∈ l :: as, H0 a = none ∧ G2 a = none ∧ ∀ (j : Nat) (e : DL.D), ρ[j]? = some (Sl.ow e) → σ[j]? ≠ some (some (V.ref a)) := fun a ha => by
        obtain ⟨o, ho, ht⟩ := (show NeC K G H l as kls from ⟨⟨es, a2, a3⟩, a4⟩).there a ha
        exact ⟨(a5 a ha).1, xx.own _ _ ho ht (a5 a ha).2.1, (a5 a ha).2.2⟩
      have lp : l ∉ as ++ [p] := fun m => (List.mem_append.mp m).elim (List.nodup_cons.mp a4).1 fun z => np (by rw [← List.mem_singleton.mp z]; exact List.mem_cons_self ..)
      refine ⟨l, _, rfl, DPut.k d2 (by rw [a3.len, sizeLine_eq]; omega), f.nx _ _ G2 _ q ?_⟩
      rw [hput]
      refine E2.writeD (es := es) hi a1 a4 f5 np ⟨hH0, e2.own _ _ hp rfl hpG, fun j e z y => ?_⟩ ((d3.snoc (e2.at hpG hp) (hr.mono e2.g)).keep lp)
      obtain ⟨b, b1, _, _, b4⟩ := E.ow j e z
      rw [b1] at y
      injection y with y
      injection y with y
      injection y with y
      obtain ⟨o, ho, _⟩ := b4.there
      rw [y, hpH] at ho
      cases ho
end
end DL

set_option maxHeartbeats 1000000
/-! DL16: d.items() of a local dict of lists, locked; list.pop(); such a dict returned. -/
namespace DL
open PySem PySem.Spec PyProof.Rows L2
section
variable {K : PySem.W.Frag} {G0 H0 G H : Hp} {σ : L2.St} {ρ : List Sl} {Ex : XK} {ta tb te : TE} {tt : TT} {tu : TS} {d : D} {P : Oc → Prop}
theorem dq_kV {G : Hp} : ∀ k : Key, Dq K G (kV k) (kD k)
  | .inl i => .int i
  | .inr z => .str z
theorem En.lock (E : En K G0 H0 G H σ ρ) {l : Addr} {u : HO} {od : Obj} (h0 : H0 l = none) (hG : G l = some u) (hu : isDic u = true) (hno : ∀ (j : Nat) (x : List (Key × List D)), ρ[j]? ≠ some (.ne x)) : En K G0 H0 G (upd H l (.frz od u)) σ ρ := by
  refine ⟨E.len, ⟨E.ext.gg, fun a o e => by rw [upd_ne (ne_of_none e h0)]; exact E.ext.hh a o e, fun a o e => ?_, E.ext.own⟩, E.fr, fun j e q => ?_, E.ex, E.dis, fun j x q => absurd q (hno j x), fun i j x y q => absurd q (hno i x)⟩
  · by_cases ha : a = l
    · subst ha
      rw [hG] at e
      cases e
      exact .inr (.inl ⟨hu, od, upd_same⟩)
    · exact (E.gh a o e).eq (upd_ne ha)
  · obtain ⟨b, a1, a2, a3, a4⟩ := E.ow j e q
    have hb : b ≠ l := fun z => by
      rw [z, hG] at a3
      cases a3
    exact ⟨b, a1, a2, a3, a4.ext (Sub.refl G) (upd_ne hb)⟩
/-- a new dict of lists is frozen -/
theorem nec_frz {G' H' : Hp} {l : Addr} {as : List Addr} {kls : List (Key × List D)} (x : Ext G H G' H') (hf : ∀ a ∈ l :: as, H a = none ∧ G' a = none) (c : NeC K G' H' l as kls) : ∃ G'', Ext G H G'' H' ∧ Dq K G'' (.ref l) (neD kls) := by
  obtain ⟨⟨es, h2, h3⟩, h4⟩ := c
  let G2 : Hp := fun a => if a ∈ l :: as then H' a else G' a
  have gin : ∀ a ∈ l :: as, G2 a = H' a := fun a ha => if_pos ha
  have gout : ∀ a, a ∉ l :: as → G2 a = G' a := fun a ha => if_neg ha
  have gg : ∀ a u, G' a = some u → G2 a = some u := fun a u e => by
    rw [gout a fun z => by rw [(hf a z).2] at e; cases e]
    exact e
  refine ⟨G2, ⟨fun a u e => gg a u (x.gg a u e), x.hh, fun a u r => ?_, fun a u e t n => ?_⟩, .dK (.inl ((gin l (List.mem_cons_self ..)).trans h2)) (DqV.k (h3.frz (Sub.of gg) fun a ha => gin a (List.mem_cons_of_mem _ ha)))⟩
  · by_cases ha : a ∈ l :: as
    · rw [gin a ha] at r
      exact .of r ((show NeC K G' H' l as kls from ⟨⟨es, h2, h3⟩, h4⟩).there2 ha r)
    · rw [gout a ha] at r
      exact x.gh a u r
  · rw [gout a fun m => by rw [(hf a m).1] at e; cases e]
    exact x.own a u e t n
theorem ev_L {kls : List (Key × List D)} (h : EVL K te ρ kls) : EV K te ρ (neD kls) := fun G0 H0 G H σ Q E q => h G0 H0 G H σ Q E fun l as G' H' x hf c => by
  obtain ⟨G'', x', hd⟩ := nec_frz x hf c
  exact q _ _ _ x' hd
theorem DqV.at {κ : Type} {z : κ × D} : ∀ {es : List (κ × V)} {kvs : List (κ × D)} {i : Nat}, DqV K G es kvs → i < kvs.length → ∃ k v, es[i]? = some (k, v) ∧ k = (kvs.getD i z).1 ∧ Dq K G v (kvs.getD i z).2
  | _, _, _, .nil, h => absurd h (Nat.not_lt_zero _)
  | _, _, 0, .cons a b, h => ⟨_, _, rfl, rfl, a⟩
  | _, _, i + 1, .cons a b, h => by
    obtain ⟨k, v, h1, h2, h3⟩ := DqV.at (z := z) (i := i) b (by simpa using h)
    exact ⟨k, v, by rw [List.getElem?_cons_succ]; exact h1, by rw [List.getD_cons_succ]; exact h2, by rw [List.getD_cons_succ]; exact h3⟩
theorem DqA.snoc_inv : ∀ {ds : List D} {us : List V} {d : D}, DqA K G us (ds ++ [d]) → ∃ vs v, us = vs ++ [v] ∧ DqA K G vs ds ∧ Dq K G v d
  | [], _, _, h => by
    cases h with
    | cons a b =>
      cases b
      exact ⟨[], _, rfl, .nil, a⟩
  | _ :: ds, _, d, h => by
    cases h with
    | cons a b =>
      obtain ⟨vs, v, rfl, r1, r2⟩ := DqA.snoc_inv (ds := ds) b
      exact ⟨_ :: vs, v, rfl, .cons a r1, r2⟩
def itemK (kls : List (Key × List D)) (i : Nat) : D := .tuple [kD (kls.getD i (.inl 0, [])).1, .list (kls.getD i (.inl 0, [])).2]
/-- return {k: <fresh list> for a, b in t.items()}, t a dict of lists of one's own -/
theorem st_retI {n : Nat} {kls : List (Key × List D)} {g : TG} {tk tv : TE} {vs : List Nat} {k : Nat → Key} {f : Nat → List D} (hi : ρ[n]? = some (.ne kls)) (hn : kls.length ≤ 16000000) (hd : ∀ i, i < kls.length → getL (klD k f i) (k i) = none)
    (hs : ∀ i, i < kls.length → ∃ ρ2 ts, GT K g (wipeS (ρ.set n (.fr (neD kls))) vs) (itemK kls i) ρ2 ts ∧ (∀ t ∈ ts, t ∈ vs) ∧ ET K tt ρ2 true ∧ EV K tk ρ2 (kD (k i)) ∧ EVN K tv ρ2 (.list (f i)))
    (q : P (.rt (neD (klD k f kls.length)))) : ST K Ex (tRet (tLockE (tDc (iItems (tVar n)) g tt tk tv vs))) ρ P := fun G0 H0 G H σ D E fin => by
  obtain ⟨l, as, es, h1, h2, h3, h4, h5⟩ := E.look hi
  obtain ⟨G', E', hGH⟩ := E.freezeN hi
  have hG : G' l = some (.dK es) := (hGH l h1).trans h2
  have h0 : H0 l = none := (h5 l (List.mem_cons_self ..)).1
  have hno : ∀ (j : Nat) (x : List (Key × List DL.D)), (ρ.set n (.fr (neD kls)))[j]? ≠ some (.ne x) := fun j x z => by
    rcases set_get? z with ⟨_, _, y⟩ | ⟨nj, z⟩
    · cases y
    · exact nj (E.ned j n x kls z hi)
  have hil : n < ρ.length := (List.getElem?_eq_some_iff.mp hi).1
  have hv : DqV K G' es (kls.map fun p => (p.1, PyData.list p.2)) := by
    obtain ⟨v, a1, a2⟩ := E'.fr n (neD kls) (by rw [List.getElem?_set_self hil])
    rw [h1] at a1
    injection a1 with a1
    injection a1 with a1
    obtain ⟨a, es', b1, b2, b3⟩ := dq_dk a2
    rw [← a1] at b1
    injection b1 with b1
    subst b1
    rcases b2 with b2 | ⟨o, b2⟩
    · rw [hG] at b2
      cases b2
      exact b3
    · rw [hG] at b2
      cases b2
  have hle : es.length = kls.length := by rw [hv.length, List.length_map]
  refine ⟨l, .dK es, h2, trivial, fun od => ?_⟩
  have EL := E'.lock (od := od) h0 hG rfl hno
  refine el_dc0 (item := itemK kls) (n := kls.length) EL (fun R z => ?_) hn hd hs fun l2 as2 G2 H2 x hf c => ?_
  · refine ⟨_, h1, l, od, es, rfl, upd_same, z (Iti l od es) G' _ _ _ (.refl EL.gh) (hle ▸ walk_items) (fun G2 H2 e => e.atF hG rfl upd_same) fun i G2 H2 y H3 hlt e hy => ?_⟩
    obtain ⟨T, x, w, rfl, hT, rfl, y1, y2⟩ := hy
    obtain ⟨k', v', b1, b2, b3⟩ := hv.at (z := (Sum.inl 0, PyData.list [])) (i := i) (by rw [List.length_map]; exact hlt)
    dsimp only at y1 y2
    rw [b1] at y1 y2
    cases y1
    cases y2
    have xx := Ext.new (o := .tup [kV k', v']) e.gh hT
    have hget : (kls.map fun p => (p.1, PyData.list p.2)).getD i (Sum.inl 0, PyData.list []) = ((kls.getD i (.inl 0, [])).1, PyData.list (kls.getD i (.inl 0, [])).2) := by
      rw [List.getD_eq_getElem?_getD, List.getD_eq_getElem?_getD, List.getElem?_map, List.getElem?_eq_getElem hlt]
      rfl
    rw [hget] at b2 b3
    refine ⟨_, xx, .tup (SqT.of upd_same) (.cons ?_ (.cons ((b3.mono (Sub.of e.gg)).mono xx.g) .nil))⟩
    rw [b2]
    exact dq_kV _
  · have hfl : H2 l = some (.frz od (.dK es)) := x.atF hG rfl upd_same
    obtain ⟨G3, x3, hd3⟩ := nec_frz x hf c
    refine ⟨hfl, fin.rt _ _ G3 _ q ⟨fun a o e => x3.gg a o (E'.ext.gg a o e), fun a o e => ?_, fun a o e => ?_, fun a o e t nn => ?_⟩ hd3⟩
    · have ne : a ≠ l := ne_of_none e h0
      rw [upd_ne ne]
      rcases E'.ext.hh a o e with q | q
      · exact (x3.hh a o (by rw [upd_ne ne]; exact q)).imp id (E'.ext.mark e)
      · exact .inr q
    · by_cases ha : a = l
      · subst ha
        rw [x3.gg _ _ hG] at e
        cases e
        exact .of upd_same
      · exact (x3.gh a o e).eq (upd_ne ha)
    · have ne : a ≠ l := ne_of_none e h0
      exact x3.own a o (by rw [upd_ne ne]; exact E'.ext.at nn e) t (E'.ext.own a o e t nn)
/-- x = xs.pop() -/
theorem st_pop {n i : Nat} {ds : List D} (hi : ρ[n]? = some (.ow (.list (ds ++ [d])))) (hni : n ≠ i) (q : P (.nx ((ρ.set n (.ow (.list ds))).set i (.fr d)))) : ST K Ex (tAsg (tBM0 K "list" rPop (tVar n)) (gName i)) ρ P := fun G0 H0 G H σ D E f => by
  obtain ⟨l, h1, h2, h3, h4⟩ := E.ow n _ hi
  cases h4 with
  | @lst us _ hl hr =>
    obtain ⟨vs, v, rfl, r1, r2⟩ : ∃ vs v, us = vs ++ [v] ∧ DqA K G vs ds ∧ Dq K G v d := hr.snoc_inv
    refine ⟨_, h1, .inl ⟨rfl, _, SqL.of hl⟩, l, _, v, rfl, rfl, hl, by simp, ?_⟩
    refine f.nx _ _ G _ q ?_
    have E1 := E.write hi h1 (o := .lst ((vs ++ [v]).dropLast)) (d' := .list ds) (.lst upd_same (by rw [List.dropLast_concat]; exact r1))
    exact E1.setF i r2
def notNe : Sl → Bool
  | .ne _ => false
  | _ => true
theorem hno_of {n : Nat} (h : (ρ.set n .no).all notNe = true) (j : Nat) (x : List (Key × List D)) (hj : j ≠ n) : ρ[j]? ≠ some (.ne x) := fun e => by
  have : (ρ.set n Sl.no)[j]? = some (.ne x) := by rw [List.getElem?_set_ne (Ne.symm hj)]; exact e
  have := List.all_eq_true.mp h _ (List.mem_of_getElem? this)
  cases this
/-- x = a new dict of lists -/
theorem q_asgL {n : Nat} {kls : List (Key × List D)} (h : EVL K te ρ kls) (hno : (ρ.set n .no).all notNe = true) (q : ST K Ex tu (ρ.set n (.ne kls)) P) : ST K Ex (tSeq (tAsg te (gName n)) tu) ρ P := st_seq (st_asgL h (hno_of hno) q)
end
end DL

set_option maxHeartbeats 1000000
/-! DL17: lists of texts and of pairs as data, picks by remainder. -/
namespace DL
open PySem PySem.Spec PyProof.Rows L2
def pI (ps : List Int) (i : Int) : Int := ps.getD i.toNat 0
def chS (z : Str) (i : Int) : Str := ⟨#[z.cps.toList.getD i.toNat 0]⟩
def addP (qs : List (Str × Str)) (p : Str × Str) : List (Str × Str) := if p ∈ qs then qs else qs ++ [p]
def sides4 : List Str := ["E", "N", "W", "S"]
theorem mod_nat {p m : Int} {k : Nat} (hm : m = (k : Nat)) (h : 0 < k) : (p % m).toNat < k := by
  subst hm
  have h0 : 0 ≤ p % (k : Int) := Int.emod_nonneg _ (by omega)
  have h1 : p % (k : Int) < k := Int.emod_lt_of_pos _ (by omega)
  omega
theorem chS_list (z : Str) (i : Int) : (chS z i).cps.toList = [z.cps.toList.getD i.toNat 0] := rfl
theorem eqv_str (a b : Str) : PyData.eqv (.str a) (.str b) = decide (a = b) := by
  by_cases h : a = b
  · subst h
    simp [PyData.eqv]
  · simp [PyData.eqv, h]
theorem any_range {α : Type} {p : α → Bool} {z : α} (l : List α) : ((List.range l.length).any fun i => p (l.getD i z)) = l.any p := by
  have : l = (List.range l.length).map fun i => l.getD i z := by
    refine List.ext_getElem? fun i => ?_
    rw [List.getElem?_map]
    by_cases h : i < l.length
    · rw [List.getElem?_range h]
      simp [h]
    · rw [List.getElem?_eq_none (by omega), List.getElem?_eq_none (by rw [List.length_range]; omega)]
      rfl
  conv => rhs; rw [this]
  rw [List.any_map]
  rfl
theorem hasG_put {κ : Type} [DecidableEq κ] (kvs : List (κ × D)) (k j : κ) (d : D) : hasG (putG kvs k d) j = (decide (k = j) || hasG kvs j) := by
  have key : ∀ l : List (κ × D), hasG l j = l.any fun p => decide (p.1 = j) := fun l => by
    unfold hasG getG
    rw [Option.isSome_map]
    refine Bool.eq_iff_iff.mpr ?_
    rw [List.find?_isSome, List.any_eq_true]
  rw [key, key]
  unfold putG
  split
  · rename_i h
    rw [List.any_map]
    have e : (kvs.any ((fun p : κ × D => decide (p.1 = j)) ∘ fun kv => if kv.1 = k then (kv.1, d) else kv)) = kvs.any fun p => decide (p.1 = j) := by
      congr 1
      funext p
      simp only [Function.comp]
      split <;> rfl
    rw [e]
    by_cases q : k = j
    · subst q
      rw [h]
      simp
    · simp [q]
  · rw [List.any_append, Bool.or_comm]
    simp
theorem map_cut {ns : List Int} (lo hi : Option Int) : ∃ ms : List Int, cutDs (ns.map PyData.int) lo hi = ms.map PyData.int ∧ ms.length ≤ ns.length := by
  refine ⟨(ns.drop (HT.sIx ns.length 0 lo)).take (HT.sIx ns.length ns.length hi - HT.sIx ns.length 0 lo), ?_, ?_⟩
  · unfold cutDs
    rw [List.length_map, List.map_take, List.map_drop]
  · rw [List.length_take, List.length_drop]
    omega
theorem lcD_all {b : Nat → Bool} {f : Nat → D} {g : Nat → Int} (hb : ∀ i, b i = true) : ∀ {n : Nat}, (∀ i, i < n → f i = .int (g i)) → lcD n b f = ((List.range n).map g).map PyData.int
  | 0, _ => rfl
  | n + 1, h => by
    unfold lcD
    rw [if_pos (hb n), lcD_all hb (fun i hi => h i (by omega)), List.range_succ, List.map_append, List.map_append, h n (by omega)]
    rfl
theorem getD_map_int {ms : List Int} {i : Nat} (hi : i < ms.length) : (ms.map PyData.int).getD i .none = .int (ms.getD i 0) := by
  rw [List.getD_eq_getElem?_getD, List.getD_eq_getElem?_getD, List.getElem?_map]
  simp [hi]
theorem map_set {ms : List Int} {j : Nat} {v : Int} : (ms.map PyData.int).set j (.int v) = (ms.set j v).map PyData.int := (List.map_set ..).symm
theorem map_add {ms : List Int} {v : Int} : ms.map PyData.int ++ [PyData.int v] = (ms ++ [v]).map PyData.int := by rw [List.map_append]; rfl
theorem pI_get {ps : List Int} {i : Int} (h0 : 0 ≤ i) (h1 : i < ps.length) : atI (ps.map PyData.int) i = some (.int (pI ps i)) := atI_ints h0 h1
theorem ch_at {z : Str} {i : Int} (h0 : 0 ≤ i) (h1 : i < z.cps.toList.length) : atI z.cps.toList i = some (z.cps.toList.getD i.toNat 0) := atI_nn (α := Nat) 0 h0 h1
theorem ite_str {c : Bool} {a b : Str} : (if c = true then (PyData.str a) else .str b) = .str (if c = true then a else b) := by cases c <;> rfl
theorem lc_filter {p : Str → Bool} (rs : List Str) : ∀ n, n ≤ rs.length → lcD n (fun i => p (rs.getD i Str.empty)) (fun i => (rs.map PyData.str).getD i .none) = ((rs.take n).filter p).map PyData.str
  | 0, _ => rfl
  | n + 1, h => by
    unfold lcD
    rw [lc_filter rs n (by omega), List.take_succ, List.getElem?_eq_getElem (by omega), List.filter_append, List.map_append]
    have e1 : rs.getD n Str.empty = rs[n] := by rw [List.getD_eq_getElem?_getD, List.getElem?_eq_getElem (by omega)]; rfl
    have e2 : (rs.map PyData.str).getD n .none = .str rs[n] := by
      rw [List.getD_eq_getElem?_getD, List.getElem?_map, List.getElem?_eq_getElem (by omega)]
      rfl
    show (if p (rs.getD n Str.empty) = true then _ ++ [(rs.map PyData.str).getD n .none] else _) = _
    rw [e1, e2]
    show _ = _ ++ (([rs[n]] : List Str).filter p).map PyData.str
    cases q : p rs[n] with
    | true =>
      rw [if_pos rfl, List.filter_cons_of_pos q]
      rfl
    | false =>
      rw [if_neg Bool.false_ne_true, List.filter_cons_of_neg (by rw [q]; exact Bool.false_ne_true)]
      show _ = _ ++ []
      rw [List.append_nil]
theorem keyQ_inj {p q : Str × Str} (h : keyQ p = keyQ q) : p = q := by
  unfold keyQ at h
  injection h with h1 h2
  injection h2 with h2
  injection h1 with h1
  injection h2 with h2
  exact Prod.ext h1 h2
theorem putQ (qs : List (Str × Str)) (p : Str × Str) : putG (qs.map fun p => (keyQ p, PyData.bool true)) (keyQ p) (.bool true) = (addP qs p).map fun p => (keyQ p, PyData.bool true) := by
  have hany : ((qs.map fun p => (keyQ p, PyData.bool true)).any fun kv => decide (kv.1 = keyQ p)) = decide (p ∈ qs) := by
    rw [List.any_map, Bool.eq_iff_iff, List.any_eq_true, decide_eq_true_eq]
    constructor
    · rintro ⟨q, hq, e⟩
      rw [← keyQ_inj (of_decide_eq_true e)]
      exact hq
    · intro h
      exact ⟨p, h, decide_eq_true rfl⟩
  unfold putG addP
  rw [hany]
  by_cases h : p ∈ qs
  · rw [if_pos (decide_eq_true h), if_pos h, List.map_map]
    refine List.map_congr_left fun q _ => ?_
    simp only [Function.comp]
    split <;> rfl
  · rw [if_neg (by simpa using h), if_neg h, List.map_append]
    rfl
theorem addP_len (qs : List (Str × Str)) (p : Str × Str) : (addP qs p).length ≤ qs.length + 1 := by
  unfold addP
  split
  · omega
  · rw [List.length_append]
    exact Nat.le_refl _
theorem inD_str {z : Str} {ns : List Str} : inD (.str z) (ns.map PyData.str) = decide (z ∈ ns) := by
  unfold inD
  rw [List.any_map, Bool.eq_iff_iff, List.any_eq_true, decide_eq_true_eq]
  constructor
  · rintro ⟨x, hx, e⟩
    have e : PyData.eqv (.str x) (.str z) = true := e
    rw [eqv_str, decide_eq_true_eq] at e
    rw [← e]
    exact hx
  · intro h
    refine ⟨z, h, ?_⟩
    show PyData.eqv (.str z) (.str z) = true
    rw [eqv_str]
    exact decide_eq_true rfl
theorem sorted_lt {α : Type} {lt : α → α → Bool} (O : Sto lt) {l : List α} (hp : l.Pairwise fun x y => lt y x = false) (nd : l.Nodup) : l.Pairwise fun x y => lt x y = true := by
  have := hp.and nd
  refine this.imp fun {x y} h => ?_
  cases q : lt x y with
  | true => rfl
  | false => exact absurd (O.eq q h.1) h.2
theorem pw_at {α : Type} {R : α → α → Prop} {l : List α} (h : l.Pairwise R) {i : Nat} (h0 : 0 < i) (h1 : i < l.length) (z : α) : R (l.getD (i - 1) z) (l.getD i z) := by
  have := List.pairwise_iff_getElem.mp h (i - 1) i (by omega) h1 (by omega)
  rw [List.getD_eq_getElem?_getD, List.getD_eq_getElem?_getD, List.getElem?_eq_getElem h1, List.getElem?_eq_getElem (by omega : i - 1 < l.length)]
  exact this
theorem getD_str {zs : List Str} {i : Nat} (hi : i < zs.length) : (zs.map PyData.str).getD i .none = .str (zs.getD i Str.empty) := by
  rw [List.getD_eq_getElem?_getD, List.getD_eq_getElem?_getD, List.getElem?_map, List.getElem?_eq_getElem hi]
  rfl
theorem getD_mem {α : Type} {zs : List α} {i : Nat} {z : α} (hi : i < zs.length) : zs.getD i z ∈ zs := by
  rw [List.getD_eq_getElem?_getD, List.getElem?_eq_getElem hi]
  exact List.getElem_mem hi
theorem getD_map {qs : List (Str × Str)} {i : Nat} (hi : i < qs.length) : (qs.map pqD).getD i .none = pqD (qs.getD i (Str.empty, Str.empty)) := by
  rw [List.getD_eq_getElem?_getD, List.getD_eq_getElem?_getD, List.getElem?_map, List.getElem?_eq_getElem hi]
  rfl
theorem app_list (a b : Str) : (a ++ b).cps.toList = a.cps.toList ++ b.cps.toList := by
  show (a.cps ++ b.cps).toList = _
  rw [Array.toList_append]
theorem strs_flat (zs : List Str) : (zs.map PyData.str).all flatD = true := by
  rw [List.all_map]
  exact List.all_eq_true.mpr fun _ _ => rfl
theorem getD_all {α : Type} {p : α → Bool} {ds : List α} {z : α} (h : ds.all p = true) {i : Nat} (hi : i < ds.length) : p (ds.getD i z) = true := by
  rw [List.getD_eq_getElem?_getD, List.getElem?_eq_getElem hi]
  exact List.all_eq_true.mp h _ (List.getElem_mem hi)
theorem all_of {p : D → Bool} {ds : List D} (h : ∀ i, i < ds.length → p (ds.getD i .none) = true) : ds.all p = true := by
  refine List.all_eq_true.mpr fun x hx => ?_
  obtain ⟨i, hi, e⟩ := List.getElem_of_mem hx
  have := h i hi
  rw [List.getD_eq_getElem?_getD, List.getElem?_eq_getElem hi] at this
  rw [← e]
  exact this
/-! ### dicts of lists of texts -/
def mkL (keys : List Str) (f : Str → List Str) : List (Key × List D) := keys.map fun k => (.inr k, (f k).map PyData.str)
section
variable {keys : List Str} {f g : Str → List Str} {a v : Str}
theorem getL_mk : ∀ {keys : List Str}, a ∈ keys → getL (mkL keys f) (.inr a) = some ((f a).map PyData.str)
  | k :: ks, h => by
    show (if (Sum.inr k : Key) = .inr a then _ else _) = _
    by_cases e : k = a
    · subst e
      rw [if_pos rfl]
    · rw [if_neg fun z => e (Sum.inr.inj z)]
      exact getL_mk ((List.mem_cons.mp h).resolve_left (Ne.symm e))
theorem getL_mk_none : ∀ {keys : List Str}, a ∉ keys → getL (mkL keys f) (.inr a) = none
  | [], _ => rfl
  | k :: ks, h => by
    show (if (Sum.inr k : Key) = .inr a then _ else _) = _
    rw [if_neg fun z => h (by rw [Sum.inr.inj z]; exact List.mem_cons_self ..)]
    exact getL_mk_none fun z => h (List.mem_cons_of_mem _ z)
theorem mkL_congr (h : ∀ k ∈ keys, f k = g k) : mkL keys f = mkL keys g := List.map_congr_left fun k hk => by rw [h k hk]
theorem appL_mk : ∀ {keys : List Str}, keys.Nodup → appL (mkL keys f) (.inr a) (.str v) = mkL keys fun k => if k = a then f k ++ [v] else f k
  | [], _ => rfl
  | k :: ks, nd => by
    obtain ⟨n1, n2⟩ := List.nodup_cons.mp nd
    show (if (Sum.inr k : Key) = .inr a then (Sum.inr k, (f k).map PyData.str ++ [PyData.str v]) :: mkL ks f else (Sum.inr k, (f k).map PyData.str) :: appL (mkL ks f) (.inr a) (.str v)) = (Sum.inr k, (if k = a then f k ++ [v] else f k).map PyData.str) :: mkL ks _
    by_cases e : k = a
    · subst e
      rw [if_pos rfl, if_pos rfl, List.map_append]
      refine congrArg _ (mkL_congr fun j hj => ?_)
      rw [if_neg fun z => n1 (by rw [← z]; exact hj)]
    · rw [if_neg fun z => e (Sum.inr.inj z), if_neg e, appL_mk n2]
theorem getG_mk : ∀ {keys : List Str}, a ∈ keys → getG ((mkL keys f).map fun p => (p.1, PyData.list p.2)) (.inr a) = some (.list ((f a).map PyData.str))
  | k :: ks, h => by
    by_cases e : k = a
    · subst e
      unfold getG mkL
      simp
    · have ih := getG_mk ((List.mem_cons.mp h).resolve_left (Ne.symm e))
      unfold getG mkL at ih ⊢
      rw [List.map_cons, List.map_cons, List.find?_cons_of_neg (by simpa using e)]
      exact ih
theorem mkL_len : (mkL keys f).length = keys.length := List.length_map ..
theorem mkL_snoc {l : List Str} (h : f a = l) : mkL keys f ++ [(.inr a, l.map PyData.str)] = mkL (keys ++ [a]) f := by
  unfold mkL
  rw [List.map_append, ← h]
  rfl
theorem klD_mk {kf : Nat → Key} {ff : Nat → List D} (hk : ∀ i, i < keys.length → kf i = .inr (keys.getD i Str.empty)) (hf : ∀ i, i < keys.length → ff i = (g (keys.getD i Str.empty)).map PyData.str) : klD kf ff keys.length = mkL keys g := by
  unfold klD mkL
  refine List.ext_getElem (by simp) fun i h1 h2 => ?_
  have hi : i < keys.length := by simpa using h2
  rw [List.getElem_map, List.getElem_range, List.getElem_map, hk i hi, hf i hi, List.getD_eq_getElem?_getD, List.getElem?_eq_getElem hi]
  rfl
theorem klD_new {kf : Nat → Key} {ff : Nat → List D} (nd : keys.Nodup) (hk : ∀ i, i < keys.length → kf i = .inr (keys.getD i Str.empty)) {i : Nat} (hi : i < keys.length) : getL (klD kf ff i) (kf i) = none := by
  have key : ∀ n, n ≤ i → getL (klD kf ff n) (kf i) = none := by
    intro n
    have hgen : ∀ (l : List (Key × List D)) (k : Key), (∀ p ∈ l, p.1 ≠ k) → getL l k = none := by
      intro l k h
      induction l with
      | nil => rfl
      | cons p r ih =>
        obtain ⟨k', ds⟩ := p
        show (if k' = k then _ else _) = _
        rw [if_neg (h (k', ds) (List.mem_cons_self ..))]
        exact ih fun p hp => h p (List.mem_cons_of_mem _ hp)
    intro hn
    refine hgen _ _ fun p hp e => ?_
    unfold klD at hp
    obtain ⟨j, hj, rfl⟩ := List.mem_map.mp hp
    have hj : j < n := List.mem_range.mp hj
    have e : kf j = kf i := e
    rw [hk j (by omega), hk i hi] at e
    have e := Sum.inr.inj e
    rw [List.getD_eq_getElem?_getD, List.getD_eq_getElem?_getD, List.getElem?_eq_getElem hi, List.getElem?_eq_getElem (by omega : j < keys.length)] at e
    exact List.pairwise_iff_getElem.mp nd j i (by omega) hi (by omega) e
  exact key i (Nat.le_refl _)
end
section
variable {K : PySem.W.Frag} {ρ : List Sl} {Ex : XK} {ta tb te : TE} {tt : TT} {u : TS} {P : Oc → Prop} {keys : List Str} {f : Str → List Str} {a v : Str}
theorem ev_nget (h : EV K ta ρ (neD (mkL keys f))) (hk : EV K tb ρ (.str a)) (ha : a ∈ keys) : EV K (tDGet ta tb) ρ (.list ((f a).map PyData.str)) := ev_getD (k := .inr a) h hk rfl (getG_mk ha)
theorem st_napp {n : Nat} (hi : ρ[n]? = some (.ne (mkL keys f))) (hk : EV K tb ρ (.str a)) (ha : a ∈ keys) (nd : keys.Nodup) (h : EV K te ρ (.str v)) (hz : (f a).length < 16000000) (q : P (.nx (ρ.set n (.ne (mkL keys fun k => if k = a then f k ++ [v] else f k))))) :
    ST K Ex (tDrop (tBM K "list" rAppend (tDGet (tVar n) tb) (tCons te tNil))) ρ P := st_nappend (k := .inr a) hi hk rfl (getL_mk ha) h (by rw [List.length_map]; exact hz) (by rw [appL_mk nd]; exact q)
theorem q_napp {n : Nat} (hi : ρ[n]? = some (.ne (mkL keys f))) (hk : EV K tb ρ (.str a)) (ha : a ∈ keys) (nd : keys.Nodup) (h : EV K te ρ (.str v)) (hz : (f a).length < 16000000) (q : ST K Ex u (ρ.set n (.ne (mkL keys fun k => if k = a then f k ++ [v] else f k))) P) :
    ST K Ex (tSeq (tDrop (tBM K "list" rAppend (tDGet (tVar n) tb) (tCons te tNil))) u) ρ P := st_seq (st_napp hi hk ha nd h hz q)
/-- a dict that says True of each of its texts -/
def bS (ys : List Str) : List (Key × D) := ys.map fun y => (.inr y, .bool true)
theorem has_bS {ys : List Str} {y : Str} : hasG (bS ys) (.inr y) = decide (y ∈ ys) := by
  unfold hasG getG bS
  rw [Option.isSome_map, Bool.eq_iff_iff, List.find?_isSome, decide_eq_true_eq]
  constructor
  · rintro ⟨x, hx, e⟩
    obtain ⟨z, hz, rfl⟩ := List.mem_map.mp hx
    rw [← Sum.inr.inj (of_decide_eq_true e)]
    exact hz
  · exact fun h => ⟨_, List.mem_map.mpr ⟨y, h, rfl⟩, decide_eq_true rfl⟩
theorem put_bS {ys : List Str} {y : Str} (h : y ∉ ys) : putG (bS ys) (.inr y) (.bool true) = bS (ys ++ [y]) := by
  have : hasG (bS ys) (.inr y) = false := by rw [has_bS]; exact decide_eq_false h
  unfold putG
  rw [if_neg]
  · unfold bS
    rw [List.map_append]
    rfl
  · rw [List.any_eq_true]
    rintro ⟨x, hx, e⟩
    unfold bS at hx
    obtain ⟨z, hz, rfl⟩ := List.mem_map.mp hx
    exact h (by rw [← Sum.inr.inj (of_decide_eq_true e)]; exact hz)
theorem q_pop {n i : Nat} {ds : List D} {d : D} (hi : ρ[n]? = some (.ow (.list (ds ++ [d])))) (hni : n ≠ i) (q : ST K Ex u ((ρ.set n (.ow (.list ds))).set i (.fr d)) P) : ST K Ex (tSeq (tAsg (tBM0 K "list" rPop (tVar n)) (gName i)) u) ρ P := st_seq (st_pop hi hni q)
theorem st_asgIf {b : Bool} {g : TG} (h : ET K tt ρ b) (h1 : b = true → ST K Ex (tAsg ta g) ρ P) (h2 : b = false → ST K Ex (tAsg tb g) ρ P) : ST K Ex (tAsg (tIf tt ta tb) g) ρ P := fun G0 H0 G H σ D E f =>
  h G0 H0 G H σ _ E fun G' H' x => by
    cases b with
    | true => exact h1 rfl G0 H0 G' H' σ D (E.go x) f
    | false => exact h2 rfl G0 H0 G' H' σ D (E.go x) f
end
/-! ### walking lists of texts, of pairs -/
section
variable {K : PySem.W.Frag} {ρ : List Sl} {te : TE}
theorem ei_tupS {zs : List Str} (h : EV K te ρ (.tuple (zs.map PyData.str))) : EI K (iSeqU K te) ρ zs.length (fun i => .str (zs.getD i Str.empty)) := by
  have e := ei_tup h
  rw [List.length_map] at e
  exact ei_mono e fun i hi => getD_str hi
theorem ei_listS {zs : List Str} (h : EV K te ρ (.list (zs.map PyData.str))) : EI K (iSeqU K te) ρ zs.length (fun i => .str (zs.getD i Str.empty)) := by
  have e := ei_list h
  rw [List.length_map] at e
  exact ei_mono e fun i hi => getD_str hi
theorem ei_tupQ {qs : List (Str × Str)} (h : EV K te ρ (.tuple (qs.map pqD))) : EI K (iSeqU K te) ρ qs.length (fun i => pqD (qs.getD i (Str.empty, Str.empty))) := by
  have e := ei_tup h
  rw [List.length_map] at e
  exact ei_mono e fun i hi => getD_map hi
theorem ei_listQ {qs : List (Str × Str)} (h : EV K te ρ (.list (qs.map pqD))) : EI K (iSeqU K te) ρ qs.length (fun i => pqD (qs.getD i (Str.empty, Str.empty))) := by
  have e := ei_list h
  rw [List.length_map] at e
  exact ei_mono e fun i hi => getD_map hi
theorem itemK_mk {keys : List Str} {f : Str → List Str} {i : Nat} (hi : i < keys.length) : itemK (mkL keys f) i = .tuple [.str (keys.getD i Str.empty), .list ((f (keys.getD i Str.empty)).map PyData.str)] := by
  unfold itemK mkL
  rw [List.getD_eq_getElem?_getD, List.getElem?_map, List.getElem?_eq_getElem hi, List.getD_eq_getElem?_getD, List.getElem?_eq_getElem hi]
  rfl
end
/-! ### plain lists -/
theorem nodup_le {α : Type} [DecidableEq α] : ∀ {l m : List α}, l.Nodup → (∀ x ∈ l, x ∈ m) → l.length ≤ m.length
  | [], _, _, _ => Nat.zero_le _
  | a :: l, m, nd, h => by
    obtain ⟨n1, n2⟩ := List.nodup_cons.mp nd
    have ha := h a (List.mem_cons_self ..)
    have := nodup_le (l := l) (m := m.erase a) n2 fun x hx => (List.mem_erase_of_ne fun e => n1 (by rw [← e]; exact hx)).mpr (h x (List.mem_cons_of_mem _ hx))
    rw [List.length_erase_of_mem ha] at this
    have h1 : 0 < m.length := List.length_pos_of_mem ha
    rw [List.length_cons]
    omega
theorem srt_congr {α : Type} {lt : α → α → Bool} (O : Sto lt) {l m : List α} (h : l.Perm m) : srt lt l = srt lt m := srt_uniq O ((srt_perm l).trans h) (srt_pw O l)
theorem mem_srt {α : Type} {lt : α → α → Bool} {l : List α} {x : α} : x ∈ srt lt l ↔ x ∈ l := (srt_perm l).mem_iff
theorem lc_filterG {α : Type} {p : α → Bool} {h : α → D} (z : α) (rs : List α) : ∀ n, n ≤ rs.length → lcD n (fun i => p (rs.getD i z)) (fun i => h (rs.getD i z)) = ((rs.take n).filter p).map h
  | 0, _ => rfl
  | n + 1, hn => by
    unfold lcD
    rw [lc_filterG z rs n (by omega), List.take_succ, List.getElem?_eq_getElem (by omega), List.filter_append, List.map_append]
    have e1 : rs.getD n z = rs[n] := by rw [List.getD_eq_getElem?_getD, List.getElem?_eq_getElem (by omega)]; rfl
    show (if p (rs.getD n z) = true then _ ++ [h (rs.getD n z)] else _) = _
    rw [e1]
    show _ = _ ++ (([rs[n]] : List α).filter p).map h
    cases q : p rs[n] with
    | true =>
      rw [if_pos rfl, List.filter_cons_of_pos q]
      rfl
    | false =>
      rw [if_neg Bool.false_ne_true, List.filter_cons_of_neg (by rw [q]; exact Bool.false_ne_true)]
      show _ = _ ++ []
      rw [List.append_nil]
theorem lc_filterA {α : Type} {p : α → Bool} {h : α → D} (z : α) (rs : List α) : lcD rs.length (fun i => p (rs.getD i z)) (fun i => h (rs.getD i z)) = (rs.filter p).map h := by
  rw [lc_filterG z rs _ (Nat.le_refl _), List.take_length]
theorem srt_filter {α : Type} {lt : α → α → Bool} (O : Sto lt) (p : α → Bool) (l : List α) : (srt lt l).filter p = srt lt (l.filter p) := srt_uniq O ((srt_perm l).filter p) ((srt_pw O l).filter p)
end DL

set_option maxHeartbeats 1000000
/-! DL18: in, not in of an owned dict. -/
namespace DL
open PySem PySem.Spec PyProof.Rows L2
section
variable {K : PySem.W.Frag} {ρ : List Sl} {ta tb te : TE} {d : D}
theorem has_val {G : Hp} {es : List (Key × V)} {kvs : List (Key × D)} (r : DqV K G es kvs) (k : Key) : (valV es k).isSome = hasG kvs k := by
  unfold hasG
  rcases r.get (k := k) with ⟨h1, h2⟩ | ⟨v, d, h1, h2, h3⟩
  · rw [h1, h2]
    rfl
  · rw [h1, h2]
    rfl
theorem ev_inDO {n : Nat} {kvs : List (Key × D)} {k : Key} {dk : D} (hk : EV K ta ρ dk) (ek : dk = kD k) (hi : ρ[n]? = some (.ow (dkD kvs))) : EV K (tDIn ta (tVar n)) ρ (.bool (hasG kvs k)) := fun G0 H0 G H σ Q E q =>
  hk G0 H0 G H σ _ E fun y G1 H1 e1 hy => by
    subst ek
    obtain ⟨l, h1, h2, h3, h4⟩ := (E.go e1).ow n _ hi
    obtain ⟨es, h5, h6⟩ := own_dk h4
    have e := key_dq hy
    subst e
    exact ⟨_, h1, l, _, rfl, DGet.k h5, q _ G1 H1 e1 (by rw [has_val h6]; exact .bl _)⟩
theorem ev_ninDO {n : Nat} {kvs : List (Key × D)} {k : Key} {dk : D} (hk : EV K ta ρ dk) (ek : dk = kD k) (hi : ρ[n]? = some (.ow (dkD kvs))) : EV K (tDNotIn ta (tVar n)) ρ (.bool (!hasG kvs k)) := fun G0 H0 G H σ Q E q =>
  hk G0 H0 G H σ _ E fun y G1 H1 e1 hy => by
    subst ek
    obtain ⟨l, h1, h2, h3, h4⟩ := (E.go e1).ow n _ hi
    obtain ⟨es, h5, h6⟩ := own_dk h4
    have e := key_dq hy
    subst e
    exact ⟨_, h1, l, _, rfl, DGet.k h5, q _ G1 H1 e1 (by rw [has_val h6]; exact .bl _)⟩
theorem ev_inSO {n : Nat} {ys : List Str} {x : Str} (hk : EV K ta ρ (.str x)) (hi : ρ[n]? = some (.ow (dkD (bS ys)))) : EV K (tDIn ta (tVar n)) ρ (.bool (decide (x ∈ ys))) := by
  rw [← has_bS]
  exact ev_inDO hk rfl hi
theorem ev_ninSO {n : Nat} {ys : List Str} {x : Str} (hk : EV K ta ρ (.str x)) (hi : ρ[n]? = some (.ow (dkD (bS ys)))) : EV K (tDNotIn ta (tVar n)) ρ (.bool (!decide (x ∈ ys))) := by
  rw [← has_bS]
  exact ev_ninDO hk rfl hi
theorem ev_inSF {ys : List Str} {x : Str} (hk : EV K ta ρ (.str x)) (h : EV K tb ρ (dkD (bS ys))) : EV K (tDIn ta tb) ρ (.bool (decide (x ∈ ys))) := by
  rw [← has_bS]
  exact ev_inD hk rfl h
end
end DL

set_option maxHeartbeats 1000000
/-! DL19: values that are told by a predicate (EVX ..): what a def answers that changes a list it was handed. -/
namespace DL
open PySem PySem.Spec PyProof.Rows L2
section
variable (K : PySem.W.Frag)
def EVX (te : TE) (ρ : List Sl) (Pd : D → Prop) : Prop := ∀ (G0 H0 G H : Hp) (σ : L2.St) (Q : VK), En K G0 H0 G H σ ρ → (∀ d v G' H', Pd d → Ext G H G' H' → Dq K G' v d → Q v H') → te σ H Q
def EVNX (te : TE) (ρ : List Sl) (Pd : D → Prop) : Prop := ∀ (G0 H0 G H : Hp) (σ : L2.St) (Q : VK), En K G0 H0 G H σ ρ → (∀ d l G' H', Pd d → Ext G H G' H' → H l = none → G' l = none → OwnC K G' H' l d → Q (.ref l) H') → te σ H Q
def EAX (ta : TA) (ρ : List Sl) (Pl : List D → Prop) : Prop := ∀ (G0 H0 G H : Hp) (σ : L2.St) (Q : List V → Hp → Prop), En K G0 H0 G H σ ρ → (∀ ds vs G' H', Pl ds → Ext G H G' H' → DqA K G' vs ds → Q vs H') → ta σ H Q
def ETX (tt : TT) (ρ : List Sl) (Pb : Bool → Prop) : Prop := ∀ (G0 H0 G H : Hp) (σ : L2.St) (Q : Bool → Hp → Prop), En K G0 H0 G H σ ρ → (∀ b G' H', Pb b → Ext G H G' H' → Q b H') → tt σ H Q
def EIX (wi : TI) (ρ : List Sl) (Pi : Nat → (Nat → D) → Prop) : Prop := ∀ (G0 H0 G H : Hp) (σ : L2.St) (R : It → Hp → Prop), En K G0 H0 G H σ ρ →
  (∀ n item J G' H' Gd Y, Pi n item → Ext G H G' H' → Walk J n Gd Y → (∀ G2 H2, (∀ a o, G' a = some o → G2 a = some o) → GH G2 H2 → Gd H2) →
    (∀ i G2 H2 x H3, i < n → (∀ a o, G' a = some o → G2 a = some o) → GH G2 H2 → Y i H2 x H3 → ∃ G3, Ext G2 H2 G3 H3 ∧ Dq K G3 x (item i)) → R J H') → wi σ H R
end
section
variable {K : PySem.W.Frag} {ρ : List Sl} {Ex : XK} {ta tb te : TE} {tt tu : TT} {t u : TS} {d : D} {P : Oc → Prop} {Pd Pa Pc : D → Prop} {Pl Pm : List D → Prop} {Pb Pe : Bool → Prop}
theorem evx_of (h : EV K te ρ d) (p : Pd d) : EVX K te ρ Pd := fun G0 H0 G H σ Q E q => h G0 H0 G H σ Q E fun v G' H' => q d v G' H' p
theorem evx_mono (h : EVX K te ρ Pa) (k : ∀ d, Pa d → Pd d) : EVX K te ρ Pd := fun G0 H0 G H σ Q E q => h G0 H0 G H σ Q E fun d v G' H' p => q d v G' H' (k d p)
theorem evx_N (h : EVNX K te ρ Pd) : EVX K te ρ Pd := fun G0 H0 G H σ Q E q => h G0 H0 G H σ Q E fun d l G' H' p x hH hG ho => by
  obtain ⟨G'', x', hd⟩ := own_frz x hH hG ho
  exact q d _ _ _ p x' hd
theorem evnx_of (h : EVN K te ρ d) (p : Pd d) : EVNX K te ρ Pd := fun G0 H0 G H σ Q E q => h G0 H0 G H σ Q E fun l G' H' => q d l G' H' p
theorem eax_of {t : TA} {ds : List D} (h : EA K t ρ ds) (p : Pl ds) : EAX K t ρ Pl := fun G0 H0 G H σ Q E q => h G0 H0 G H σ Q E fun vs G' H' => q ds vs G' H' p
theorem etx_of {b : Bool} (h : ET K tt ρ b) (p : Pb b) : ETX K tt ρ Pb := fun G0 H0 G H σ Q E q => h G0 H0 G H σ Q E fun G' H' => q b G' H' p
theorem eax_nil (p : Pl []) : EAX K tNil ρ Pl := eax_of ea_nil p
theorem eax_cons {tr : TA} (h : EVX K ta ρ Pa) (hr : EAX K tr ρ Pl) (k : ∀ d ds, Pa d → Pl ds → Pm (d :: ds)) : EAX K (tCons ta tr) ρ Pm := fun G0 H0 G H σ Q E q =>
  h G0 H0 G H σ _ E fun d x G1 H1 p e1 h1 => hr G0 H0 G1 H1 σ _ (E.go e1) fun ds xs G2 H2 p2 e2 h2 => q _ _ G2 H2 (k d ds p p2) (e1.trans e2) (.cons (h1.mono e2.g) h2)
theorem eax_one (h : EVX K ta ρ Pa) (k : ∀ d, Pa d → Pm [d]) : EAX K (tCons ta tNil) ρ Pm := eax_cons (Pl := fun ds => ds = []) h (eax_nil rfl) fun d ds p e => e ▸ k d p
theorem evx_op {r : R2} (ha : EVX K ta ρ Pa) (hb : EVX K tb ρ Pc) (ho : ∀ a b, Pa a → Pc b → ∃ d, OD K r a b d ∧ Pd d) : EVX K (tOp r ta tb) ρ Pd := fun G0 H0 G H σ Q E q =>
  ha G0 H0 G H σ _ E fun a x G1 H1 p1 e1 h1 => hb G0 H0 G1 H1 σ _ (E.go e1) fun b y G2 H2 p2 e2 h2 => by
    obtain ⟨d, hd, pd⟩ := ho a b p1 p2
    exact hd x y G2 H2 Q e2.gh (h1.mono e2.g) h2 fun v G3 H3 e3 h3 => q d v G3 H3 pd ((e1.trans e2).trans e3) h3
theorem evnx_op {r : R2} (ha : EVX K ta ρ Pa) (hb : EVX K tb ρ Pc) (ho : ∀ a b, Pa a → Pc b → ∃ d, ON K r a b d ∧ Pd d) : EVNX K (tOp r ta tb) ρ Pd := fun G0 H0 G H σ Q E q =>
  ha G0 H0 G H σ _ E fun a x G1 H1 p1 e1 h1 => hb G0 H0 G1 H1 σ _ (E.go e1) fun b y G2 H2 p2 e2 h2 => by
    obtain ⟨d, hd, pd⟩ := ho a b p1 p2
    exact hd x y G2 H2 Q e2.gh (h1.mono e2.g) h2 fun l G3 H3 e3 hH hG h3 => q d l G3 H3 pd ((e1.trans e2).trans e3) (e1.gone (e2.gone hH)) hG h3
theorem evx_cb {r : List V → Hp → VK → Prop} {t : TA} (h : EAX K t ρ Pl) (hc : ∀ ds, Pl ds → ∃ d, CD K r ds d ∧ Pd d) : EVX K (tCB r t) ρ Pd := fun G0 H0 G H σ Q E q =>
  h G0 H0 G H σ _ E fun ds xs G1 H1 p e1 h1 => by
    obtain ⟨d, hd, pd⟩ := hc ds p
    exact hd xs G1 H1 Q e1.gh h1 fun v G2 H2 e2 h2 => q d v G2 H2 pd (e1.trans e2) h2
theorem evnx_cb {r : List V → Hp → VK → Prop} {t : TA} (h : EAX K t ρ Pl) (hc : ∀ ds, Pl ds → ∃ d, CN K r ds d ∧ Pd d) : EVNX K (tCB r t) ρ Pd := fun G0 H0 G H σ Q E q =>
  h G0 H0 G H σ _ E fun ds xs G1 H1 p e1 h1 => by
    obtain ⟨d, hd, pd⟩ := hc ds p
    exact hd xs G1 H1 Q e1.gh h1 fun l G2 H2 e2 hH hG h2 => q d l G2 H2 pd (e1.trans e2) (e1.gone hH) hG h2
theorem evx_tup {t : TA} (h : EAX K t ρ Pl) (hl : ∀ ds, Pl ds → ds.length ≤ sizeLine ∧ Pd (.tuple ds)) : EVX K (tTup t) ρ Pd := fun G0 H0 G H σ Q E q =>
  h G0 H0 G H σ _ E fun ds xs G1 H1 p e1 h1 => ⟨by rw [h1.length]; exact (hl ds p).1, fun a hp => by
    have x := Ext.new (o := .tup xs) e1.gh hp
    exact q _ _ _ _ (hl ds p).2 (e1.trans x) (.tup (SqT.of upd_same) (h1.mono x.g))⟩
theorem evnx_lst {t : TA} (h : EAX K t ρ Pl) (hl : ∀ ds, Pl ds → ds.length ≤ sizeLine ∧ Pd (.list ds)) : EVNX K (tLst t) ρ Pd := fun G0 H0 G H σ Q E q =>
  h G0 H0 G H σ _ E fun ds xs G1 H1 p e1 h1 => ⟨by rw [h1.length]; exact (hl ds p).1, fun a hp => by
    have x := Ext.fresh (o := .lst xs) e1.gh hp
    exact q _ _ _ _ (hl ds p).2 (e1.trans x) (e1.gone hp) (e1.gh.none hp) (.lst upd_same h1)⟩
/-- a call whose answer is told by the arguments | by a predicate -/
theorem evx_call {R : List D → D → Prop} {Ey : XK} {t : TA} (h : EAX K t ρ Pl) (hr : ∀ ds, Pl ds → ∃ d, R ds d ∧ Pd d) : EVX K (tCall (PF K R) [] Ey t) ρ Pd := fun G0 H0 G H σ Q E q =>
  h G0 H0 G H σ _ E fun ds vs G1 H1 p e1 h1 => by
    obtain ⟨d, hd, pd⟩ := hr ds p
    rw [List.append_nil]
    exact ⟨G1, ds, d, e1.gh, h1, hd, fun v G2 H2 x hv => q d v G2 H2 pd (e1.trans x) hv⟩
theorem evx_callQ {Pre : List D → Prop} {Post : List D → D → Prop} {Ey : XK} {t : TA} (h : EAX K t ρ Pl) (hr : ∀ ds, Pl ds → Pre ds ∧ ∀ d, Post ds d → Pd d) : EVX K (tCall (PQ K Pre Post) [] Ey t) ρ Pd := fun G0 H0 G H σ Q E q =>
  h G0 H0 G H σ _ E fun ds vs G1 H1 p e1 h1 => by
    rw [List.append_nil]
    exact ⟨G1, ds, e1.gh, h1, (hr ds p).1, fun d v G2 H2 hd x hv => q d v G2 H2 ((hr ds p).2 d hd) (e1.trans x) hv⟩
/-! tests -/
theorem etx_test (h : EVX K te ρ Pd) (k : ∀ d, Pd d → ∃ b, d = .bool b ∧ Pb b) : ETX K (tTest te) ρ Pb := fun G0 H0 G H σ Q E q =>
  h G0 H0 G H σ _ E fun d v G1 H1 p e1 h1 => by
    obtain ⟨b, rfl, pb⟩ := k d p
    cases h1
    exact ⟨b, rfl, q b G1 H1 pb e1⟩
theorem etx_not (h : ETX K tt ρ Pb) : ETX K (tNot tt) ρ (fun b => Pb (!b)) := fun G0 H0 G H σ Q E q => h G0 H0 G H σ _ E fun b G1 H1 p e1 => q (!b) G1 H1 (by show Pb (!!b); rw [Bool.not_not]; exact p) e1
theorem etx_mono (h : ETX K tt ρ Pe) (k : ∀ b, Pe b → Pb b) : ETX K tt ρ Pb := fun G0 H0 G H σ Q E q => h G0 H0 G H σ Q E fun b G1 H1 p => q b G1 H1 (k b p)
theorem etx_and (h : ETX K tt ρ Pb) (h2 : Pb true → ETX K tu ρ Pe) {Pf : Bool → Prop} (k1 : Pb false → Pf false) (k2 : ∀ b, Pb true → Pe b → Pf b) : ETX K (tAnd tt tu) ρ Pf := fun G0 H0 G H σ Q E q => h G0 H0 G H σ _ E fun a G1 H1 p e1 => by
  cases a with
  | true => exact h2 p G0 H0 G1 H1 σ Q (E.go e1) fun b G2 H2 p2 e2 => q b G2 H2 (k2 b p p2) (e1.trans e2)
  | false => exact q false G1 H1 (k1 p) e1
theorem etx_or (h : ETX K tt ρ Pb) (h2 : Pb false → ETX K tu ρ Pe) {Pf : Bool → Prop} (k1 : Pb true → Pf true) (k2 : ∀ b, Pb false → Pe b → Pf b) : ETX K (tOr tt tu) ρ Pf := fun G0 H0 G H σ Q E q => h G0 H0 G H σ _ E fun a G1 H1 p e1 => by
  cases a with
  | false => exact h2 p G0 H0 G1 H1 σ Q (E.go e1) fun b G2 H2 p2 e2 => q b G2 H2 (k2 b p p2) (e1.trans e2)
  | true => exact q true G1 H1 (k1 p) e1
theorem evx_if (h : ETX K tt ρ Pb) (h1 : Pb true → EVX K ta ρ Pd) (h2 : Pb false → EVX K tb ρ Pd) : EVX K (tIf tt ta tb) ρ Pd := fun G0 H0 G H σ Q E q => h G0 H0 G H σ _ E fun b G1 H1 p e1 => by
  cases b with
  | true => exact h1 p G0 H0 G1 H1 σ Q (E.go e1) fun d v G2 H2 p2 e2 => q d v G2 H2 p2 (e1.trans e2)
  | false => exact h2 p G0 H0 G1 H1 σ Q (E.go e1) fun d v G2 H2 p2 e2 => q d v G2 H2 p2 (e1.trans e2)
/-! statements -/
theorem st_asgV {i : Nat} (h : EVX K te ρ Pd) (q : ∀ d, Pd d → P (.nx (ρ.set i (.fr d)))) : ST K Ex (tAsg te (gName i)) ρ P := fun G0 H0 G H σ D E f =>
  h G0 H0 G H σ _ E fun d v G' H' p x hd => f.nx _ _ G' H' (q d p) ((E.go x).setF i hd)
theorem q_asgV {i : Nat} (h : EVX K te ρ Pd) (q : ∀ d, Pd d → ST K Ex u (ρ.set i (.fr d)) P) : ST K Ex (tSeq (tAsg te (gName i)) u) ρ P := st_seq (st_asgV h q)
theorem st_asgNV {i : Nat} (h : EVNX K te ρ Pd) (q : ∀ d, Pd d → P (.nx (ρ.set i (.ow d)))) : ST K Ex (tAsg te (gName i)) ρ P := fun G0 H0 G H σ D E f =>
  h G0 H0 G H σ _ E fun d l G' H' p x hH hG ho => f.nx _ _ G' H' (q d p) (E.setN i x hH hG ho)
theorem q_asgNV {i : Nat} (h : EVNX K te ρ Pd) (q : ∀ d, Pd d → ST K Ex u (ρ.set i (.ow d)) P) : ST K Ex (tSeq (tAsg te (gName i)) u) ρ P := st_seq (st_asgNV h q)
theorem st_asgGV {g : TG} (h : EVX K te ρ Pd) (q : ∀ d, Pd d → ∃ ρ' ts, GT K g ρ d ρ' ts ∧ P (.nx ρ')) : ST K Ex (tAsg te g) ρ P := fun G0 H0 G H σ D E f =>
  h G0 H0 G H σ _ E fun d v G' H' p x hd => by
    obtain ⟨ρ', ts, hg, hp⟩ := q d p
    exact hg G0 H0 G' H' σ v _ (E.go x) hd fun σ' E' _ _ => f.nx _ _ G' H' hp E'
theorem st_retV (h : EVX K te ρ Pd) (q : ∀ d, Pd d → P (.rt d)) : ST K Ex (tRet te) ρ P := fun G0 H0 G H σ D E f =>
  h G0 H0 G H σ _ E fun d v G' H' p x hd => f.rt d v G' H' (q d p) (E.go x).ext hd
theorem st_ifV (h : ETX K tt ρ Pb) (h1 : Pb true → ST K Ex t ρ P) (h2 : Pb false → ST K Ex u ρ P) : ST K Ex (tIfS tt t u) ρ P := fun G0 H0 G H σ D E f =>
  h G0 H0 G H σ _ E fun b G' H' p x => by
    cases b with
    | true => exact h1 p G0 H0 G' H' σ D (E.go x) f
    | false => exact h2 p G0 H0 G' H' σ D (E.go x) f
theorem q_ifV {v : TS} (h : ETX K tt ρ Pb) (h1 : Pb true → ST K Ex t ρ (seqP K Ex u P)) (h2 : Pb false → ST K Ex v ρ (seqP K Ex u P)) : ST K Ex (tSeq (tIfS tt t v) u) ρ P := st_seq (st_ifV h h1 h2)
theorem q_whenV (h : ETX K tt ρ Pb) (h1 : Pb true → ST K Ex t ρ (seqP K Ex u P)) (h2 : Pb false → ST K Ex u ρ P) : ST K Ex (tSeq (tIfS tt t tNext) u) ρ P := st_seq (st_ifV h h1 fun hb => st_next (h2 hb))
theorem st_dropV (h : EVX K te ρ Pd) (q : P (.nx ρ)) : ST K Ex (tDrop te) ρ P := fun G0 H0 G H σ D E f =>
  h G0 H0 G H σ _ E fun d v G' H' p x hd => f.nx _ _ G' H' q (E.go x)
theorem st_appendV {n : Nat} {ds : List D} (hi : ρ[n]? = some (.ow (.list ds))) (h : EVX K te ρ Pd) (hz : ds.length < 16000000) (q : ∀ d, Pd d → P (.nx (ρ.set n (.ow (.list (ds ++ [d])))))) :
    ST K Ex (tDrop (tBM K "list" rAppend (tVar n) (tCons te tNil))) ρ P := fun G0 H0 G H σ D E f => by
  obtain ⟨l, vs, h1, h2, h3, h0⟩ := own_lookG E hi
  refine ⟨_, h1, .inl ⟨rfl, vs, SqL.of h2⟩, h G0 H0 G H σ _ E fun d v G1 H1 p e1 hv => ?_⟩
  exact ⟨l, vs, v, rfl, rfl, e1.at h0 h2, by rw [h3.length, sizeLine_eq]; omega, f.nx _ _ _ _ (q d p) ((E.go e1).write hi h1 (.lst upd_same ((h3.mono e1.g).append (.one hv))))⟩
/-! loops -/
theorem eix_of {wi : TI} {n : Nat} {item : Nat → D} {Pi : Nat → (Nat → D) → Prop} (h : EI K wi ρ n item) (p : Pi n item) : EIX K wi ρ Pi := fun G0 H0 G H σ R E q => h G0 H0 G H σ R E fun J G' H' Gd Y => q n item J G' H' Gd Y p
theorem eix_rng1 {t : TA} (h : EAX K t ρ Pl) {Pi : Nat → (Nat → D) → Prop} (k : ∀ ds, Pl ds → ∃ n : Int, ds = [.int n] ∧ -(2 ^ 62) ≤ n ∧ n < 2 ^ 62 ∧ Pi n.toNat (fun i => .int (i : Nat))) : EIX K (iRng1 t) ρ Pi := fun G0 H0 G H σ R E q =>
  h G0 H0 G H σ _ E fun ds vs G' H' p x hd => by
    obtain ⟨n, rfl, h1, h2, pi⟩ := k ds p
    cases hd with
    | cons a b =>
      cases b
      cases a
      refine ⟨n, rfl, h1, h2, q _ _ _ G' H' _ _ pi x walk_range (fun _ _ _ _ => trivial) fun i G2 H2 y H3 _ _ g hy => ?_⟩
      obtain ⟨rfl, rfl⟩ := hy
      refine ⟨G2, .refl g, ?_⟩
      show Dq K G2 (.int (0 + (i : Nat))) (.int (i : Nat))
      rw [Int.zero_add]
      exact .int _
theorem st_forV {wi : TI} {g : TG} {Pi : Nat → (Nat → D) → Prop} (hi : EIX K wi ρ Pi)
    (hI : ∀ n item, Pi n item → ∃ I : Nat → List Sl → Prop, I 0 ρ ∧ (∀ i ρ1, i < n → I i ρ1 → ∃ ρ2 ts, GT K g ρ1 (item i) ρ2 ts ∧ ST K Ex t ρ2 (loopP (I (i + 1)) P)) ∧ ∀ ρ1, I n ρ1 → P (.nx ρ1)) : ST K Ex (tFor wi g t) ρ P := fun G0 H0 G H σ D E f =>
  hi G0 H0 G H σ _ E fun n item J G1 H1 Gd Y p x w hG hY => by
    obtain ⟨I, h0, hs, hd⟩ := hI n item p
    have E1 := E.go x
    refine for_it w (fun i σ' H' => ∃ G' ρ', En K G1 H0 G' H' σ' ρ' ∧ I i ρ') ⟨G1, ρ, E1.re, h0⟩ (fun i σ' H' _ ⟨G', ρ', E', _⟩ => hG G' H' E'.ext.gg E'.gh) (fun i y σ' H' H3 hi ⟨G', ρ', E', p⟩ hy => ?_) (fun σ' H' ⟨G', ρ', E', p⟩ => f.nx ρ' σ' G' H' (hd ρ' p) (E'.back E1.ext))
    obtain ⟨G3, x3, hdq⟩ := hY i G' H' y H3 hi E'.ext.gg E'.gh hy
    obtain ⟨ρ2, ts, hg, hb⟩ := hs i ρ' hi p
    exact hg G1 H0 G3 H3 σ' y _ (E'.go x3) hdq fun σ2 E2 _ _ => hb G1 H0 G3 H3 σ2 _ E2 ⟨fun ρ4 σ4 G4 H4 p4 E4 => ⟨G4, ρ4, E4, p4⟩,
      fun d v G4 H4 p4 x4 hd4 => f.rt d v G4 H4 p4 (E1.ext.back x4) hd4, fun ρ4 σ4 G4 H4 p4 E4 => f.nx ρ4 σ4 G4 H4 p4 (E4.back E1.ext), fun ρ4 σ4 G4 H4 p4 E4 => ⟨G4, ρ4, E4, p4⟩,
      fun C fl dd fs G4 H4 p4 x4 h1 h2 => f.ex C fl dd fs G4 H4 p4 (E1.ext.back x4) h1 h2⟩
end
end DL

set_option maxHeartbeats 1000000
/-! DL20: a list [int, list of ints, int, int] that defs change (stD), lists of ints that defs change (opD); abs, max, min; sorted lists of ints. -/
namespace DL
open PySem PySem.Spec PyProof.Rows L2
theorem GH.only {H : Hp} (h : Only H) : GH H H := GH.refl fun a u e => by
  rcases h a with z | ⟨o, xs, z⟩
  · rw [z] at e
    cases e
  · rw [z] at e
    cases e
    rfl
theorem b_abs : bootBuiltins "abs" = some (.builtin "abs") := by decide +kernel
theorem b_max : bootBuiltins "max" = some (.builtin "max") := by decide +kernel
theorem b_min : bootBuiltins "min" = some (.builtin "min") := by decide +kernel
theorem b_zip : bootBuiltins "zip" = some (.type "zip") := by decide +kernel
def rAbs : List V → Hp → VK → Prop := fun xs H Q => ∃ i, xs = [.int i] ∧ Q (.int (if i < 0 then -i else i)) H
def rMax2 : List V → Hp → VK → Prop := fun xs H Q => ∃ i j, xs = [.int i, .int j] ∧ Q (.int (if j > i then j else i)) H
def rMin2 : List V → Hp → VK → Prop := fun xs H Q => ∃ i j, xs = [.int i, .int j] ∧ Q (.int (if j < i then j else i)) H
theorem call_absI {X : Cx} : CallR X (.builtin "abs") rAbs := call_abs
theorem call_maxI {X : Cx} (hc : X.calm = true) : CallR X (.builtin "max") rMax2 := call_max2 hc
theorem call_minI {X : Cx} (hc : X.calm = true) : CallR X (.builtin "min") rMin2 := call_min2 hc
section
variable {K : PySem.W.Frag}
theorem cd_abs {i : Int} : CD K rAbs [.int i] (.int (if i < 0 then -i else i)) := fun xs G H Q g hx q => by
  cases hx with
  | cons a b => cases a; cases b; exact ⟨i, rfl, q _ G H (.refl g) (.int _)⟩
theorem cd_max {i j : Int} : CD K rMax2 [.int i, .int j] (.int (max i j)) := fun xs G H Q g hx q => by
  cases hx with
  | cons a b =>
    cases a
    cases b with
    | cons a b =>
      cases a; cases b
      have e : (if j > i then j else i) = max i j := by split <;> omega
      exact ⟨i, j, rfl, by rw [e]; exact q _ G H (.refl g) (.int _)⟩
theorem cd_min {i j : Int} : CD K rMin2 [.int i, .int j] (.int (min i j)) := fun xs G H Q g hx q => by
  cases hx with
  | cons a b =>
    cases a
    cases b with
    | cons a b =>
      cases a; cases b
      have e : (if j < i then j else i) = min i j := by split <;> omega
      exact ⟨i, j, rfl, by rw [e]; exact q _ G H (.refl g) (.int _)⟩
theorem ints_dq {G : Hp} : ∀ {ns : List Int} {vs : List V}, DqA K G vs (ns.map PyData.int) → vs = ns.map V.int
  | [], _, h => by cases h; rfl
  | n :: ns, _, h => by
    cases h with
    | cons a b => cases a; rw [ints_dq b]; rfl
theorem dq_ints {G : Hp} : ∀ ns : List Int, DqA K G (ns.map V.int) (ns.map PyData.int)
  | [] => .nil
  | n :: ns => .cons (.int n) (dq_ints ns)
end
section
variable {K : PySem.W.Frag} {ρ : List Sl} {Ex : XK} {ta tb te : TE} {tt : TT} {u : TS} {d : D} {P : Oc → Prop} {Pd : D → Prop} {Pl : List D → Prop}
/-- sorted of a list of ints -/
theorem evnx_sortI {t : TA} (h : EAX K t ρ Pl) (k : ∀ ds, Pl ds → ∃ ns : List Int, ds = [.list (ns.map PyData.int)] ∧ ns.length < 64 ∧ ∀ ms : List Int, ms.Perm ns → ms.Pairwise (· ≤ ·) → Pd (.list (ms.map PyData.int))) : EVNX K (tCB (rSorted K) t) ρ Pd := fun G0 H0 G H σ Q E q =>
  h G0 H0 G H σ _ E fun ds vs G1 H1 p e1 h1 => by
    obtain ⟨ns, rfl, hl, pd⟩ := k ds p
    cases h1 with
    | cons a b =>
      cases b
      cases a with
      | @lst a xs _ ha hr =>
        have := ints_dq hr
        subst this
        exact ⟨a, ns, rfl, SqL.of (e1.gh.lst ha), hl, fun ms p hp hw hn => q _ p G1 _ (pd ms hp hw) (e1.trans (.fresh e1.gh hn)) (e1.gone hn) (e1.gh.none hn) (.lst upd_same (dq_ints ms))⟩
/-! ### marks -/
abbrev stD : D := .dict [(.bool true, .none)]
abbrev opD (a : Addr) : D := .dict [(.bool false, .int ((a : Nat) : Int))]
abbrev rwD (a : Addr) : D := .dict [(.bool true, .int ((a : Nat) : Int))]
theorem st_inv {G : Hp} {v : V} (h : Dq K G v stD) : ∃ l r, v = .ref l ∧ G l = some (.own r) ∧ G r = some (.rng 0 0) := by
  replace h : Dq K G v (.dict [(.bool true, .none)]) := h
  generalize e : [(PyData.bool true, PyData.none)] = ls at h
  cases h with
  | dK a b =>
    cases b with
    | nil => cases e
    | cons a b =>
      injection e with e1 _
      injection e1 with e1 _
      exact (kD_bool e1.symm).elim
  | dT a b => injection e with e1 _; injection e1 with e1 _; cases e1
  | scr a => injection e with e1 _; injection e1 with e1 _; cases e1
  | sta a b => exact ⟨_, _, rfl, a, b⟩
  | opq a => injection e with e1 _; injection e1 with e1 _; cases e1
  | raw a => injection e with e1 _; injection e1 with _ e1; cases e1
theorem op_inv {G : Hp} {v : V} {l : Addr} (h : Dq K G v (opD l)) : ∃ lo, v = .ref l ∧ G l = some (.rng lo 1) := by
  replace h : Dq K G v (.dict [(.bool false, .int ((l : Nat) : Int))]) := h
  generalize e : [(PyData.bool false, PyData.int ((l : Nat) : Int))] = ls at h
  cases h with
  | dK a b =>
    cases b with
    | nil => cases e
    | cons a b =>
      injection e with e1 _
      injection e1 with e1 _
      exact (kD_bool e1.symm).elim
  | dT a b => injection e with e1 _; injection e1 with e1 _; cases e1
  | scr a => injection e with e1 _; injection e1 with e1 _; cases e1
  | sta a b => injection e with e1 _; injection e1 with e1 _; cases e1
  | opq a =>
    injection e with e1 _
    injection e1 with _ e1
    injection e1 with e1
    have e1 := Int.ofNat.inj e1
    subst e1
    exact ⟨_, rfl, a⟩
  | raw a => injection e with e1 _; injection e1 with e1 _; cases e1
theorem mk_at {G H : Hp} (g : GH G H) {a : Addr} {u : HO} (h : G a = some u) (hm : isMk u = true) : stH u H a := by
  rcases g a u h with ⟨_, z⟩ | ⟨d, _⟩ | z
  · rw [hm] at z
    cases z
  · cases u <;> first | (cases d; done) | (cases hm; done)
  · exact z
theorem st_at {G H : Hp} (g : GH G H) {l r : Addr} (h : G l = some (.own r)) (k : G r = some (.rng 0 0)) : ∃ (x y z : Int) (ns : List Int), H l = some (.lst [.int x, .ref r, .int y, .int z]) ∧ H r = some (.lst (ns.map V.int)) := by
  obtain ⟨x, y, z, e⟩ := mk_at g h rfl
  obtain ⟨ns, e2, _⟩ := mk_at g k rfl
  exact ⟨x, y, z, ns, e, e2⟩
theorem Ext.wr {G H : Hp} {a : Addr} {u o : HO} (g : GH G H) (hm : G a = some u) (mk : isMk u = true) (h : stH u (upd H a o) a) : Ext G H G (upd H a o) := by
  refine ⟨fun _ _ z => z, fun b w e => ?_, fun b w e => ?_, fun _ _ _ _ n => n⟩
  · by_cases hb : b = a
    · exact .inr ⟨u, by rw [hb]; exact hm, mk⟩
    · exact .inl (by rw [upd_ne hb]; exact e)
  · by_cases hb : b = a
    · subst hb
      rw [hm] at e
      cases e
      exact .inr (.inr h)
    · exact (g b w e).eq (upd_ne hb)
/-- s[0], s[2], s[3] -/
theorem evx_stI {k : Int} (h : EV K ta ρ stD) (hb : EV K tb ρ (.int k)) (hk : k = 0 ∨ k = 2 ∨ k = 3) (p : ∀ i : Int, Pd (.int i)) : EVX K (tOp (rIx K) ta tb) ρ Pd := fun G0 H0 G H σ Q E q =>
  h G0 H0 G H σ _ E fun v G1 H1 e1 h1 => hb G0 H0 G1 H1 σ _ (E.go e1) fun w G2 H2 e2 h2 => by
    cases h2
    obtain ⟨l, r, rfl, a1, a2⟩ := st_inv (h1.mono e2.g)
    obtain ⟨x, y, z, ns, b1, b2⟩ := st_at e2.gh a1 a2
    refine .inl ⟨l, _, k, .int (if k = 0 then x else if k = 2 then y else z), rfl, rfl, SqL.of b1, ?_, q _ _ _ _ (p _) (e1.trans e2) (.int _)⟩
    rcases hk with rfl | rfl | rfl <;> rfl
/-- if s[0] == 0 and len(s[1]) > 0: s[0] = s[1].pop(0) -/
theorem st_stPop {n : Nat} (hi : ρ[n]? = some (.fr stD)) (q : P (.nx ρ)) :
    ST K Ex (tIfS (tAnd (tTest (tOp (rEqU K) (tOp (rIx K) (tVar n) (tC (.int 0))) (tC (.int 0)))) (tTest (tOp rGtU (tCB (rLen K) (tCons (tOp (rIx K) (tVar n) (tC (.int 1))) tNil)) (tC (.int 0))))) (tAsg (tBM K "list" rPopAt (tOp (rIx K) (tVar n) (tC (.int 1))) (tCons (tC (.int 0)) tNil)) (gSub (tVar n) (tC (.int 0)) rSetL)) tNext) ρ P := fun G0 H0 G H σ D E f => by
  obtain ⟨v, h1, h2⟩ := E.fr n _ hi
  obtain ⟨l, r, rfl, a1, a2⟩ := st_inv h2
  obtain ⟨x, y, z, ns, b1, b2⟩ := st_at E.gh a1 a2
  have hlr : l ≠ r := fun e => by
    rw [e, a2] at a1
    cases a1
  -- the test: s[0] == 0
  refine ⟨_, h1, .inl ⟨l, _, 0, .int x, rfl, rfl, SqL.of b1, rfl, .inl ⟨rfl, decide (x = 0), congrArg V.bl (by rw [dec_int, Bool.eq_iff_iff]; simp), ?_⟩⟩⟩
  by_cases hx : x = 0
  · rw [decide_eq_true hx]
    dsimp only
    rw [if_pos rfl]
    refine ⟨_, h1, .inl ⟨l, _, 1, .ref r, rfl, rfl, SqL.of b1, rfl, _, _, rfl, .inl ⟨_, SqL.of b2, rfl⟩, .inl ⟨_, _, rfl, rfl, _, rfl, ?_⟩⟩⟩
    dsimp only
    by_cases hn : (0 : Int) < ((ns.map V.int).length : Nat)
    · rw [if_pos (decide_eq_true hn)]
      cases ns with
      | nil => exact absurd hn (by decide)
      | cons m ms =>
        refine ⟨_, h1, .inl ⟨l, _, 1, .ref r, rfl, rfl, SqL.of b1, rfl, .inl ⟨rfl, _, SqL.of b2⟩, ?_⟩⟩
        refine ⟨r, _, 0, 0, .int m, rfl, rfl, b2, by decide, by decide, by simp [seqIndex?], rfl, ?_⟩
        have x1 : Ext G H G (upd H r (.lst ((V.int m :: ms.map V.int).eraseIdx 0))) := Ext.wr E.gh a2 rfl ⟨ms, upd_same, fun z => by cases z⟩
        have E1 := E.go x1
        refine ⟨_, h1, l, _, 0, 0, rfl, rfl, (upd_ne hlr).trans b1, rfl, ?_⟩
        have x2 : Ext G _ G (upd (upd H r (.lst ((V.int m :: ms.map V.int).eraseIdx 0))) l (.lst ([V.int x, .ref r, .int y, .int z].set 0 (.int m)))) := Ext.wr E1.gh a1 rfl ⟨m, y, z, upd_same⟩
        exact f.nx ρ σ G _ q (E1.go x2)
    · rw [if_neg (by rw [decide_eq_true_eq]; exact hn)]
      exact f.nx ρ σ G H q E
  · rw [decide_eq_false hx]
    simp only [Bool.false_eq_true, if_false]
    exact f.nx ρ σ G H q E
/-- s[k] = e -/
theorem st_stSet {n : Nat} {k : Int} (hi : ρ[n]? = some (.fr stD)) (hk : k = 0 ∨ k = 2 ∨ k = 3) (h : EVX K te ρ Pd) (hd : ∀ d, Pd d → ∃ i : Int, d = .int i) (q : P (.nx ρ)) : ST K Ex (tAsg te (gSub (tVar n) (tC (.int k)) rSetL)) ρ P := fun G0 H0 G H σ D E f =>
  h G0 H0 G H σ _ E fun d v G1 H1 p e1 hv => by
    obtain ⟨i, rfl⟩ := hd d p
    cases hv
    have E1 := E.go e1
    obtain ⟨v, h1, h2⟩ := E1.fr n _ hi
    obtain ⟨l, r, rfl, a1, a2⟩ := st_inv h2
    obtain ⟨x, y, z, ns, b1, b2⟩ := st_at E1.gh a1 a2
    refine ⟨_, h1, l, _, k, k.toNat, rfl, rfl, b1, by rcases hk with rfl | rfl | rfl <;> rfl, f.nx ρ σ G1 _ q (E1.go (Ext.wr E1.gh a1 rfl ?_))⟩
    rcases hk with rfl | rfl | rfl
    · exact ⟨i, y, z, upd_same⟩
    · exact ⟨x, i, z, upd_same⟩
    · exact ⟨x, y, i, upd_same⟩
end
end DL

set_option maxHeartbeats 1000000
/-! DL21: such lists made, asked, lengthened. -/
namespace DL
open PySem PySem.Spec PyProof.Rows L2
def rGetN (K : PySem.W.Frag) : V → V → Hp → VK → Prop := fun x y H Q => ∃ p xs, ∃ i : Nat, ∃ v, x = .ref p ∧ y = .int (i : Int) ∧ SqL K H p xs ∧ xs[i]? = some v ∧ Q v H
theorem get_ixN {X : Cx} : PGet X (rGetN X.K) := by
  intro pins s σ H o i ov iv Q I ro ri h
  obtain ⟨p, xs, k, v, rfl, rfl, hq, hv, q⟩ := h
  cases ro
  obtain ⟨t, rfl⟩ := ri
  obtain ⟨its, r, pl, hz⟩ := I.list hq
  obtain ⟨w, ew, rw'⟩ := r.get hv
  have hl := r.length
  have hk : k < xs.length := (List.getElem?_eq_some_iff.mp hv).1
  have hn := line63
  exact wpAny_getItem_list pl.isList (Int.natCast_nonneg k) (by omega) (by rw [Int.toNat_natCast]; simpa using ew) ⟨v, H, I, rw', q⟩
theorem inV_int {x : Int} : ∀ ns : List Int, inV (.int x) (ns.map V.int) = decide (x ∈ ns)
  | [] => rfl
  | n :: ns => by
    have ih := inV_int (x := x) ns
    unfold inV at ih ⊢
    rw [List.map_cons, List.any_cons, ih, Bool.eq_iff_iff]
    show ((n == x) || decide (x ∈ ns)) = true ↔ _
    rw [Bool.or_eq_true, decide_eq_true_eq, decide_eq_true_eq, List.mem_cons, beq_iff_eq]
    exact ⟨fun h => h.imp Eq.symm id, fun h => h.imp Eq.symm id⟩
theorem okL.len {lo : Int} {ns : List Int} (h : okL lo ns) : ns.length ≤ 5010001 := by
  obtain ⟨h0, h1, h2, h3⟩ := h
  have h4 : (ns.drop lo.toNat).length ≤ 10001 := by
    have := nodup_le (l := ns.drop lo.toNat) (m := (List.range 10001).map Int.ofNat) h2 fun x hx => by
      obtain ⟨a, b⟩ := h3 x hx
      exact List.mem_map.mpr ⟨x.toNat, List.mem_range.mpr (by omega), by show ((x.toNat : Nat) : Int) = x; omega⟩
    rw [List.length_map, List.length_range] at this
    exact this
  rw [List.length_drop] at h4
  omega
theorem okL.push {lo : Int} {ns : List Int} {x : Int} (h : okL lo ns) (hl : lo.toNat ≤ ns.length ∨ True) (hx : 0 ≤ x ∧ x ≤ 10000) (hn : x ∉ ns) : okL lo (ns ++ [x]) := by
  obtain ⟨h0, h1, h2, h3⟩ := h
  refine ⟨h0, h1, ?_, fun n hm => ?_⟩
  · rw [List.drop_append]
    refine List.nodup_append.mpr ⟨h2, (List.nodup_cons.mpr ⟨fun h => (by cases h), List.nodup_nil⟩ : [x].Nodup).sublist (List.drop_sublist _ _), fun a ha b hb e => hn ?_⟩
    have hb := List.mem_of_mem_drop hb
    rw [List.mem_singleton.mp hb] at e
    rw [← e]
    exact List.mem_of_mem_drop ha
  · rw [List.drop_append] at hm
    rcases List.mem_append.mp hm with m | m
    · exact h3 n m
    · rw [List.mem_singleton.mp (List.mem_of_mem_drop m)]
      exact hx
section
variable {K : PySem.W.Frag} {ρ : List Sl} {Ex : XK} {ta tb te tl : TE} {tt : TT} {t u : TS} {d : D} {P : Oc → Prop} {Pd : D → Prop} {Pl : List D → Prop}
/-- a new list is marked -/
theorem Ext.mkNew {G H : Hp} {p : Addr} {u o : HO} (g : GH G H) (h : H p = none) (hs : stH u (upd H p o) p) : Ext G H (upd G p u) (upd H p o) := by
  refine ⟨fun a w e => ?_, fun a w e => .inl ?_, fun a w r => ?_, fun a w e _ n => ?_⟩
  · rw [upd_ne (ne_of_none e (g.none h))]; exact e
  · rw [upd_ne (ne_of_none e h)]; exact e
  · by_cases ha : a = p
    · subst ha
      rw [upd_same] at r
      cases r
      exact .inr (.inr hs)
    · rw [upd_ne ha] at r
      exact (g a w r).eq (upd_ne ha)
  · rw [upd_ne (ne_of_none e h)]; exact n
theorem evx_opNew : EVX K (tLst tNil) ρ (fun d => ∃ a, d = opD a) := fun G0 H0 G H σ Q E q => ⟨Nat.zero_le _, fun p hp => q _ _ _ _ ⟨p, rfl⟩ (Ext.mkNew (u := .rng 0 1) E.gh hp ⟨[], upd_same, fun _ => ⟨by decide, by decide, List.nodup_nil, fun n h => (by cases h)⟩⟩) (.opq upd_same)⟩
theorem ev_stNew {a c s : Int} (h : EVNX K tl ρ fun d => ∃ ns : List Int, d = .list (ns.map PyData.int)) (hb : EV K tb ρ (.int s)) : EV K (tLst (tCons (tC (.int a)) (tCons tl (tCons tb (tCons (tC (.int c)) tNil))))) ρ stD := fun G0 H0 G H σ Q E q =>
  h G0 H0 G H σ _ E fun d r G1 H1 p e1 hr hrG ho => by
    obtain ⟨ns, rfl⟩ := p
    cases ho with
    | @lst us _ hl hq =>
      have := ints_dq hq
      subst this
      refine hb G0 H0 G1 H1 σ _ (E.go e1) fun v G2 H2 e2 h2 => ?_
      cases h2
      refine ⟨by show 4 ≤ sizeLine; rw [sizeLine_eq]; decide, fun p hp => ?_⟩
      have hl2 := e2.at hrG hl
      have hrG2 := e2.own _ _ hl rfl hrG
      have hpr : r ≠ p := fun z => by rw [z, hp] at hl2; cases hl2
      have e12 := e1.trans e2
      have hpG : G2 p = none := e2.gh.none hp
      let G3 : Hp := upd (upd G2 r (.rng 0 0)) p (.own r)
      have g3r : G3 r = some (.rng 0 0) := (upd_ne hpr).trans upd_same
      have x : Ext G H G3 (upd H2 p (.lst [.int a, .ref r, .int s, .int c])) := by
        refine ⟨fun b w z => ?_, fun b w z => ?_, fun b w z => ?_, fun b w z t n => ?_⟩
        · have z2 := e12.gg b w z
          show upd (upd G2 r (.rng 0 0)) p (.own r) b = _
          rw [upd_ne (ne_of_none z2 hpG), upd_ne (ne_of_none z2 hrG2)]
          exact z2
        · rw [upd_ne (ne_of_none z (e12.gone hp))]
          exact e12.hh b w z
        · by_cases hbp : b = p
          · subst hbp
            have : G3 b = some (.own r) := upd_same
            rw [this] at z
            cases z
            exact .inr (.inr ⟨a, s, c, upd_same⟩)
          · have z2 : upd G2 r (.rng 0 0) b = some w := (upd_ne hbp).symm.trans z
            by_cases hbr : b = r
            · subst hbr
              rw [upd_same] at z2
              cases z2
              exact .inr (.inr ⟨ns, (upd_ne hbp).trans hl2, fun z => by cases z⟩)
            · rw [upd_ne hbr] at z2
              exact (e2.gh b w z2).eq (upd_ne hbp)
        · show upd (upd G2 r (.rng 0 0)) p (.own r) b = _
          rw [upd_ne (ne_of_none z (e12.gone hp)), upd_ne (ne_of_none z hr)]
          exact e12.own b w z t n
      exact q _ _ _ x (.sta upd_same g3r)
/-- s[3] += e -/
theorem st_stAug {n : Nat} {i : Int} (hi : ρ[n]? = some (.fr stD)) (q : P (.nx ρ)) : ST K Ex (tAugS (tVar n) (tC (.int 3)) (tC (.int i)) (rGetN K) rIAddU rSetL) ρ P := fun G0 H0 G H σ D E f => by
  obtain ⟨v, h1, h2⟩ := E.fr n _ hi
  obtain ⟨l, r, rfl, a1, a2⟩ := st_inv h2
  obtain ⟨x, y, z, ns, b1, b2⟩ := st_at E.gh a1 a2
  refine ⟨_, h1, l, _, 3, .int z, rfl, rfl, SqL.of b1, rfl, .inl ⟨z, i, rfl, rfl, l, _, 3, 3, rfl, rfl, b1, rfl, f.nx ρ σ G _ q (E.go (Ext.wr E.gh a1 rfl ⟨x, y, z + i, upd_same⟩))⟩⟩
theorem rd_ix {σ : L2.St} {H : Hp} {a : Addr} {n : Nat} {xs : List V} {k : Int} {v : V} {Q : VK} (hs : σ[n]? = some (some (.ref a))) (ha : H a = some (.lst xs)) (e : atI xs k = some v) (q : Q v H) : (tOp (rIx K) (tVar n) (tC (.int k))) σ H Q := ⟨_, hs, .inl ⟨a, xs, k, v, rfl, rfl, SqL.of ha, e, q⟩⟩
theorem rd_in {σ : L2.St} {H : Hp} {l : Addr} {q : Nat} {x : Int} {ns : List Int} {Q : Bool → Hp → Prop} {te : TE} (h : ∀ Q : VK, Q (.int x) H → te σ H Q) (hs : σ[q]? = some (some (.ref l))) (hl : H l = some (.lst (ns.map V.int))) (k : Q (decide (x ∈ ns)) H) : (tTest (tOp (rInU K) te (tVar q))) σ H Q :=
  h _ ⟨_, hs, .inl ⟨l, _, rfl, .inl (SqL.of hl), rfl, by rw [List.all_map]; exact List.all_eq_true.mpr fun _ _ => rfl, _, rfl, by
    show Q (inV (.int x) (ns.map V.int)) H
    rw [inV_int]; exact k⟩⟩
/-- xs.append(x), x not in it -/
theorem rd_app {σ : L2.St} {G H : Hp} {l : Addr} {q : Nat} {x lo : Int} {ns : List Int} {te : TE} {D : Ends} (g : GH G H) (h : ∀ Q : VK, Q (.int x) H → te σ H Q) (hs : σ[q]? = some (some (.ref l))) (hG : G l = some (.rng lo 1)) (hl : H l = some (.lst (ns.map V.int))) (ok : okL lo ns) (hx : 0 ≤ x ∧ x ≤ 10000) (hn : x ∉ ns)
    (k : okL lo (ns ++ [x]) → Ext G H G (upd H l (.lst ((ns ++ [x]).map V.int))) → D.nx σ (upd H l (.lst ((ns ++ [x]).map V.int)))) : (tDrop (tBM K "list" rAppend (tVar q) (tCons te tNil))) D σ H := by
  have ok2 := ok.push (.inr trivial) hx hn
  refine ⟨_, hs, .inl ⟨rfl, _, SqL.of hl⟩, h _ ⟨l, _, _, rfl, rfl, hl, by have := ok.len; rw [List.length_map, sizeLine_eq]; omega, ?_⟩⟩
  rw [show ns.map V.int ++ [V.int x] = (ns ++ [x]).map V.int by rw [List.map_append]; rfl]
  exact k ok2 (Ext.wr g hG rfl ⟨_, upd_same, fun _ => ok2⟩)
/-- if x < e and (not strict or x not in q): q.append(x); .. -/
theorem st_opIf {x e str q : Nat} {xv ev : Int} {l : Addr} (hx : ρ[x]? = some (.fr (.int xv))) (he : ρ[e]? = some (.fr (.int ev))) (hs : ρ[str]? = some (.fr (.bool true))) (hq : ρ[q]? = some (.fr (opD l))) (h0 : 0 ≤ xv ∧ xv ≤ 10000) (h1 : xv < ev → ST K Ex t ρ P) (h2 : P (.nx ρ)) :
    ST K Ex (tIfS (tAnd (tTest (tOp rLtU (tVar x) (tVar e))) (tOr (tNot (tTr K (tVar str))) (tTest (tOp (rNinU K) (tVar x) (tVar q))))) (tSeq (tDrop (tBM K "list" rAppend (tVar q) (tCons (tVar x) tNil))) t) tNext) ρ P := fun G0 H0 G H σ D E f => by
  obtain ⟨_, x1, x2⟩ := E.fr x _ hx
  cases x2
  obtain ⟨_, e1, e2⟩ := E.fr e _ he
  cases e2
  obtain ⟨_, s1, s2⟩ := E.fr str _ hs
  cases s2
  obtain ⟨_, q1, q2⟩ := E.fr q _ hq
  obtain ⟨lo, rfl, hG⟩ := op_inv q2
  obtain ⟨ns, hl, hok⟩ := mk_at E.gh hG rfl
  refine ⟨_, x1, _, e1, .inl ⟨xv, ev, rfl, rfl, _, rfl, ?_⟩⟩
  dsimp only
  by_cases hlt : xv < ev
  · rw [if_pos (decide_eq_true hlt)]
    refine ⟨_, s1, true, rfl, ?_⟩
    simp only [Bool.not_true, Bool.false_eq_true, if_false]
    refine ⟨_, x1, _, q1, .inl ⟨l, _, rfl, .inl (SqL.of hl), rfl, by rw [List.all_map]; exact List.all_eq_true.mpr fun _ _ => rfl, _, rfl, ?_⟩⟩
    rw [inV_int]
    by_cases hm : xv ∈ ns
    · rw [decide_eq_true hm]
      simp only [if_true, Bool.not_true, Bool.false_eq_true, if_false]
      exact f.nx ρ σ G H h2 E
    · rw [decide_eq_false hm]
      simp only [if_true, Bool.not_false]
      exact rd_app (D := { D with nx := t D }) E.gh (fun Q z => ⟨_, x1, z⟩) q1 hG hl (hok rfl) h0 hm fun ok2 x => h1 hlt G0 H0 G _ σ D (E.go x) f
  · rw [if_neg (by rw [decide_eq_true_eq]; exact hlt)]
    simp only [Bool.false_eq_true, if_false]
    exact f.nx ρ σ G H h2 E
/-- p, q = [], [] -/
theorem st_parOp {i j : Nat} (q : ∀ a b : Addr, a ≠ b → P (.nx ((ρ.set i (.fr (opD a))).set j (.fr (opD b))))) : ST K Ex (tPar i j (tCons (tLst tNil) (tCons (tLst tNil) tNil))) ρ P := fun G0 H0 G H σ D E f =>
  ⟨Nat.zero_le _, fun a ha => ⟨Nat.zero_le _, fun b hb => by
    have x1 : Ext G H (upd G a (.rng 0 1)) (upd H a (.lst [])) := Ext.mkNew E.gh ha ⟨[], upd_same, fun _ => ⟨by decide, by decide, List.nodup_nil, fun n h => (by cases h)⟩⟩
    have x2 : Ext _ (upd H a (.lst [])) (upd (upd G a (.rng 0 1)) b (.rng 0 1)) (upd (upd H a (.lst [])) b (.lst [])) := Ext.mkNew x1.gh hb ⟨[], upd_same, fun _ => ⟨by decide, by decide, List.nodup_nil, fun n h => (by cases h)⟩⟩
    have ne : a ≠ b := fun z => by
      rw [← z, upd_same] at hb
      cases hb
    refine ⟨_, _, rfl, ?_⟩
    have d1 : Dq K (upd (upd G a (.rng 0 1)) b (.rng 0 1)) (.ref a) (opD a) := .opq ((upd_ne ne).trans upd_same)
    exact f.nx _ _ _ _ (q a b ne) (((E.go (x1.trans x2)).setF i d1).setF j (.opq upd_same))⟩⟩
/-- the law's mill: where one of the four stands already, back with t; else the four are put in -/
theorem st_mill {x y p q : Nat} {x0 x1 y0 y1 : Int} {l m : Addr} (hx : ρ[x]? = some (.fr (.list [.int x0, .int x1]))) (hy : ρ[y]? = some (.fr (.list [.int y0, .int y1]))) (hp : ρ[p]? = some (.fr (opD l))) (hq : ρ[q]? = some (.fr (opD m))) (hlm : l ≠ m)
    (bx : (0 ≤ x0 ∧ x0 ≤ 10000) ∧ (0 ≤ x1 ∧ x1 ≤ 10000) ∧ x0 ≠ x1) (bym : (0 ≤ y0 ∧ y0 ≤ 10000) ∧ (0 ≤ y1 ∧ y1 ≤ 10000) ∧ y0 ≠ y1) (h1 : ST K Ex t ρ (seqP K Ex (tSeq (tDrop (tBM K "list" rAppend (tVar p) (tCons (tOp (rIx K) (tVar x) (tC (.int 0))) tNil))) (tSeq (tDrop (tBM K "list" rAppend (tVar p) (tCons (tOp (rIx K) (tVar x) (tC (.int 1))) tNil)))
      (tSeq (tDrop (tBM K "list" rAppend (tVar q) (tCons (tOp (rIx K) (tVar y) (tC (.int 0))) tNil))) (tSeq (tDrop (tBM K "list" rAppend (tVar q) (tCons (tOp (rIx K) (tVar y) (tC (.int 1))) tNil))) u)))) P)) (h2 : ST K Ex u ρ P) :
    ST K Ex (tSeq (tIfS (tOr (tTest (tOp (rInU K) (tOp (rIx K) (tVar x) (tC (.int 0))) (tVar p))) (tOr (tTest (tOp (rInU K) (tOp (rIx K) (tVar x) (tC (.int 1))) (tVar p))) (tOr (tTest (tOp (rInU K) (tOp (rIx K) (tVar y) (tC (.int 0))) (tVar q))) (tTest (tOp (rInU K) (tOp (rIx K) (tVar y) (tC (.int 1))) (tVar q)))))) t tNext)
      (tSeq (tDrop (tBM K "list" rAppend (tVar p) (tCons (tOp (rIx K) (tVar x) (tC (.int 0))) tNil))) (tSeq (tDrop (tBM K "list" rAppend (tVar p) (tCons (tOp (rIx K) (tVar x) (tC (.int 1))) tNil)))
      (tSeq (tDrop (tBM K "list" rAppend (tVar q) (tCons (tOp (rIx K) (tVar y) (tC (.int 0))) tNil))) (tSeq (tDrop (tBM K "list" rAppend (tVar q) (tCons (tOp (rIx K) (tVar y) (tC (.int 1))) tNil))) u))))) ρ P := fun G0 H0 G H σ D E f => by
  obtain ⟨_, x1', x2⟩ := E.fr x _ hx
  obtain ⟨_, y1', y2⟩ := E.fr y _ hy
  cases x2 with
  | @lst ax xs _ hax hxs =>
  cases y2 with
  | @lst ay ys _ hay hys =>
  have ex : xs = [V.int x0, V.int x1] := ints_dq (ns := [x0, x1]) hxs
  have ey : ys = [V.int y0, V.int y1] := ints_dq (ns := [y0, y1]) hys
  subst ex
  subst ey
  have hax' := E.gh.lst hax
  have hay' := E.gh.lst hay
  obtain ⟨_, p1, p2⟩ := E.fr p _ hp
  obtain ⟨lo, rfl, hl⟩ := op_inv p2
  obtain ⟨ns, hl', hok⟩ := mk_at E.gh hl rfl
  obtain ⟨_, q1, q2⟩ := E.fr q _ hq
  obtain ⟨lo2, rfl, hm⟩ := op_inv q2
  obtain ⟨ms, hm', hok2⟩ := mk_at E.gh hm rfl
  have hok := hok rfl
  have hok2 := hok2 rfl
  have axl : ax ≠ l := fun z => by rw [z, hl] at hax; cases hax
  have axm : ax ≠ m := fun z => by rw [z, hm] at hax; cases hax
  have ayl : ay ≠ l := fun z => by rw [z, hl] at hay; cases hay
  have aym : ay ≠ m := fun z => by rw [z, hm] at hay; cases hay
  have back := h1 G0 H0 G H σ { D with nx := _ } E ⟨fun ρ' σ' G' H' z E' => z G0 H0 G' H' σ' D E' f, f.rt, f.bk, f.ct, f.ex⟩
  have rx0 : ∀ {H' : Hp}, H' ax = some (.lst [.int x0, .int x1]) → ∀ Q : VK, Q (.int x0) H' → (tOp (rIx K) (tVar x) (tC (.int 0))) σ H' Q := fun h Q z => rd_ix x1' h rfl z
  have rx1 : ∀ {H' : Hp}, H' ax = some (.lst [.int x0, .int x1]) → ∀ Q : VK, Q (.int x1) H' → (tOp (rIx K) (tVar x) (tC (.int 1))) σ H' Q := fun h Q z => rd_ix x1' h rfl z
  have ry0 : ∀ {H' : Hp}, H' ay = some (.lst [.int y0, .int y1]) → ∀ Q : VK, Q (.int y0) H' → (tOp (rIx K) (tVar y) (tC (.int 0))) σ H' Q := fun h Q z => rd_ix y1' h rfl z
  have ry1 : ∀ {H' : Hp}, H' ay = some (.lst [.int y0, .int y1]) → ∀ Q : VK, Q (.int y1) H' → (tOp (rIx K) (tVar y) (tC (.int 1))) σ H' Q := fun h Q z => rd_ix y1' h rfl z
  refine rd_in (rx0 hax') p1 hl' ?_
  by_cases c0 : x0 ∈ ns
  · rw [decide_eq_true c0]
    simp only [if_true]
    exact back
  rw [decide_eq_false c0]
  simp only [Bool.false_eq_true, if_false]
  refine rd_in (rx1 hax') p1 hl' ?_
  by_cases c1 : x1 ∈ ns
  · rw [decide_eq_true c1]
    simp only [if_true]
    exact back
  rw [decide_eq_false c1]
  simp only [Bool.false_eq_true, if_false]
  refine rd_in (ry0 hay') q1 hm' ?_
  by_cases c2 : y0 ∈ ms
  · rw [decide_eq_true c2]
    simp only [if_true]
    exact back
  rw [decide_eq_false c2]
  simp only [Bool.false_eq_true, if_false]
  refine rd_in (ry1 hay') q1 hm' ?_
  by_cases c3 : y1 ∈ ms
  · rw [decide_eq_true c3]
    simp only [if_true]
    exact back
  rw [decide_eq_false c3]
  simp only [Bool.false_eq_true, if_false]
  refine rd_app E.gh (rx0 hax') p1 hl hl' hok bx.1 c0 fun k1 e1 => ?_
  refine rd_app e1.gh (rx1 ((upd_ne axl).trans hax')) p1 hl upd_same k1 bx.2.1 (fun z => ?_) fun k2 e2 => ?_
  · rcases List.mem_append.mp z with z | z
    · exact c1 z
    · exact bx.2.2 (List.mem_singleton.mp z).symm
  refine rd_app e2.gh (ry0 ((upd_ne ayl).trans ((upd_ne ayl).trans hay'))) q1 hm ((upd_ne hlm.symm).trans ((upd_ne hlm.symm).trans hm')) hok2 bym.1 c2 fun k3 e3 => ?_
  refine rd_app e3.gh (ry1 ((upd_ne aym).trans ((upd_ne ayl).trans ((upd_ne ayl).trans hay')))) q1 hm upd_same k3 bym.2.1 (fun z => ?_) fun k4 e4 => ?_
  · rcases List.mem_append.mp z with z | z
    · exact c3 z
    · exact bym.2.2 (List.mem_singleton.mp z).symm
  exact h2 G0 H0 G _ σ D ((((E.go e1).go e2).go e3).go e4) f
end
end DL

set_option maxHeartbeats 1000000
/-! DL22: sorted of a list of pairs of texts, of any length; d[x], x a pair of texts; zip; dict displays. -/
namespace DL
open PySem PySem.Spec PyProof.Rows L2
theorem IsPS.inj {h : Heap} {v : Value} {p q : Str × Str} (x : IsPS h v p) (y : IsPS h v q) : p = q := by
  obtain ⟨a, o, t, u, n, rfl, ho, _, hd⟩ := x
  obtain ⟨b, o', t', u', n', e, ho', _, hd'⟩ := y
  cases e
  rw [ho] at ho'
  cases ho'
  rw [hd] at hd'
  injection hd' with e _
  have e := congrArg Array.toList e
  injection e with e1 e2
  injection e2 with e2 _
  injection e1 with e1 _
  injection e2 with e2 _
  exact Prod.ext e1 e2
open Classical in
noncomputable def pk (h : Heap) (v : Value) : Str × Str := if hx : ∃ p, IsPS h v p then hx.choose else (Str.empty, Str.empty)
theorem pk_is {h : Heap} {v : Value} {p : Str × Str} (x : IsPS h v p) : pk h v = p := by
  have hx : ∃ p, IsPS h v p := ⟨p, x⟩
  unfold pk
  rw [dif_pos hx]
  exact hx.choose_spec.inj x
theorem ref_vals : ∀ {as : List Addr} {us : List Value}, Vals (as.map V.ref) us → us = as.map Value.ref
  | [], _, h => by cases h; rfl
  | a :: as, _, h => by
    cases h with
    | cons x r =>
      cases x
      rw [ref_vals r]
      rfl
def PairsQ (K : PySem.W.Frag) (H : Hp) (as : List Addr) (qs : List (Str × Str)) : Prop := Paired (fun b (q : Str × Str) => SqT K H b [.str q.1, .str q.2]) as qs
/-- sorted of a list of pairs of texts -/
def rSortLQ (K : PySem.W.Frag) : List V → Hp → VK → Prop := fun xs H Q => ∃ (a : Addr) (as : List Addr) (qs : List (Str × Str)), xs = [.ref a] ∧ SqL K H a (as.map V.ref) ∧ PairsQ K H as qs ∧
  ∀ (p : Addr) (zs : List (Addr × (Str × Str))), zs.Perm (as.zip qs) → zs.map (·.2) = srt ltQ qs → H p = none → Q (.ref p) (upd H p (.lst (zs.map fun z => V.ref z.1)))
theorem psq_is {X : Cx} {pins : List (Addr × Obj)} {σ : L2.St} {H : Hp} {s : Shared} (I : Inv X pins σ H s) {b : Addr} {q : Str × Str} (h : SqT X.K H b [.str q.1, .str q.2]) : IsPS s.heap (.ref b) q := by
  obtain ⟨its, r, ⟨o, ho, hc, n, hd⟩, _⟩ := I.tuple h
  obtain ⟨u1, u2, rfl, ri, rj⟩ := vals2 r
  obtain ⟨t1, rfl⟩ := ri
  obtain ⟨t2, rfl⟩ := rj
  exact ⟨b, o, t1, t2, _, rfl, ho, hc, by first | exact hd | simpa using hd⟩
theorem zip_pk {X : Cx} {pins : List (Addr × Obj)} {σ : L2.St} {H : Hp} {s : Shared} (I : Inv X pins σ H s) : ∀ {as : List Addr} {qs : List (Str × Str)}, PairsQ X.K H as qs → as.zip qs = as.map fun b => (b, pk s.heap (.ref b))
  | _, _, .nil => rfl
  | _, _, .cons h t => by
    rw [List.zip_cons_cons, List.map_cons, zip_pk I t, pk_is (psq_is I h)]
theorem map_pk {X : Cx} {pins : List (Addr × Obj)} {σ : L2.St} {H : Hp} {s : Shared} (I : Inv X pins σ H s) : ∀ {as : List Addr} {qs : List (Str × Str)}, PairsQ X.K H as qs → qs = as.map fun b => pk s.heap (.ref b)
  | _, _, .nil => rfl
  | _, _, .cons h t => by
    rw [List.map_cons, ← map_pk I t, pk_is (psq_is I h)]
theorem mem_pk {X : Cx} {pins : List (Addr × Obj)} {σ : L2.St} {H : Hp} {s : Shared} (I : Inv X pins σ H s) : ∀ {as : List Addr} {qs : List (Str × Str)}, PairsQ X.K H as qs → ∀ b ∈ as, IsPS s.heap (.ref b) (pk s.heap (.ref b))
  | _, _, .nil, _, h => by cases h
  | _, _, .cons h t, b, m => by
    rcases List.mem_cons.mp m with rfl | m
    · have := psq_is I h
      rw [pk_is this]
      exact this
    · exact mem_pk I t b m
def adV : Value → Addr
  | .ref a => a
  | _ => 0
theorem call_sortedLQ {X : Cx} : CallR X (.builtin "sorted") (rSortLQ X.K) := by
  intro pins s σ H xs us Q I r h
  obtain ⟨a, as, qs, rfl, hs, hp, q⟩ := h
  obtain ⟨u, rfl, rx⟩ := r.one
  cases rx
  obtain ⟨its, rv, hl, hz⟩ := I.list hs
  have ei := ref_vals rv
  subst ei
  have hzl : (as.map Value.ref).length ≤ sizeLine := by rw [List.length_map] at hz ⊢; exact hz
  have hP : ∀ v ∈ as.map Value.ref, IsPS s.heap v (pk s.heap v) := fun v hv => by
    obtain ⟨b, hb, rfl⟩ := List.mem_map.mp hv
    exact mem_pk I hp b hb
  refine SrtO.sorted_ord (stoQ.swo_of (pk s.heap)) hl.isList hzl (fun h2 h₁ b hb keep => ps_sortable (s := { s with heap := h₁ }) (by omega) (fun v hv => (hP v hv).keeps fun c o e _ => (keep c o e).2) fun o e => ?_) fun out hs' hb' => ?_
  · have e' := e.symm.trans hb
    cases e'
    intro c
    exact absurd (Value.type.inj c) (by decide)
  · have href : ∀ v ∈ out, v = Value.ref (adV v) := fun v hv => by
      obtain ⟨b, _, rfl⟩ := List.mem_map.mp (hb'.perm.mem_iff.mp hv)
      rfl
    obtain ⟨ep, he'⟩ := PyProof.Rows.sortedAll_at s.heap (as.map Value.ref) out.toArray
    have hlen : ((out.map fun v => (adV v, pk s.heap v)).map fun z => V.ref z.1).length ≤ sizeLine := by
      rw [List.length_map, List.length_map, hb'.perm.length_eq]
      exact hzl
    have hvals : Vals ((out.map fun v => (adV v, pk s.heap v)).map fun z => V.ref z.1) out := by
      have e : out = (out.map adV).map Value.ref := by
        rw [List.map_map]
        exact (List.map_id out).symm.trans (List.map_congr_left fun v hv => href v hv)
      have e2 : ((out.map fun v => (adV v, pk s.heap v)).map fun z => V.ref z.1) = (out.map adV).map V.ref := by rw [List.map_map, List.map_map]; rfl
      rw [e2]
      have := vals_refs (out.map adV)
      rw [← e] at this
      exact this
    refine ⟨.ref _, upd H (s.heap.objs.size + 1) (.lst ((out.map fun v => (adV v, pk s.heap v)).map fun z => V.ref z.1)), I.laid (t' := s.toks) (fun _ _ => PyProof.Rows.sortedAll_old) (Nat.le_succ _) ⟨hlen, out, ep, hvals, he'⟩, rfl, q _ _ ?_ ?_ (I.hok.fresh (Nat.le_succ _))⟩
    · rw [zip_pk I hp]
      have := hb'.perm.map fun v => (adV v, pk s.heap v)
      rw [List.map_map] at this
      exact this
    · rw [List.map_map]
      refine srt_uniq stoQ ?_ (List.pairwise_map.mpr hs')
      have := hb'.perm.map (pk s.heap)
      rw [List.map_map] at this
      rw [map_pk I hp]
      exact this
section
variable {K : PySem.W.Frag}
theorem pq_sqt {G H : Hp} (g : GH G H) : ∀ {qs : List (Str × Str)} {vs : List V}, DqA K G vs (qs.map pqD) → ∃ as : List Addr, vs = as.map V.ref ∧ PairsQ K H as qs ∧ ∀ z ∈ as.zip qs, Dq K G (.ref z.1) (pqD z.2)
  | [], _, h => by
    cases h
    exact ⟨[], rfl, .nil, fun z h => (by cases h)⟩
  | q :: qs, _, h => by
    cases h with
    | cons x r =>
      obtain ⟨as, rfl, hp, hz⟩ := pq_sqt g r
      obtain ⟨l, rfl, hl⟩ := ps_sq g x
      refine ⟨l :: as, rfl, .cons hl hp, fun z hz' => ?_⟩
      rw [List.zip_cons_cons] at hz'
      rcases List.mem_cons.mp hz' with rfl | m
      · exact x
      · exact hz z m
theorem dq_zs {G : Hp} : ∀ {zs : List (Addr × (Str × Str))}, (∀ z ∈ zs, Dq K G (.ref z.1) (pqD z.2)) → DqA K G (zs.map fun z => V.ref z.1) ((zs.map (·.2)).map pqD)
  | [], _ => .nil
  | z :: zs, h => .cons (h z (List.mem_cons_self ..)) (dq_zs fun y hy => h y (List.mem_cons_of_mem _ hy))
theorem cn_sortLQ {qs : List (Str × Str)} : CN K (rSortLQ K) [.list (qs.map pqD)] (.list ((srt ltQ qs).map pqD)) := fun xs G H Q g hx q => by
  cases hx with
  | cons a b =>
    cases b
    cases a with
    | @lst a vs _ ha hr =>
      obtain ⟨as, rfl, hp, hz⟩ := pq_sqt g hr
      refine ⟨a, as, qs, rfl, SqL.of (g.lst ha), hp, fun p zs hp2 he hn => ?_⟩
      refine q p G _ (.fresh g hn) hn (g.none hn) (.lst upd_same ?_)
      rw [← he]
      exact dq_zs fun z hz' => hz z (hp2.mem_iff.mp hz')
end
end DL

set_option maxHeartbeats 1000000
/-! DL23: d[x], x a pair of texts; zip of tuples; dict displays; list(d) walked, d a dict with keys that are pairs. -/
namespace DL
open PySem PySem.Spec PyProof.Rows L2 RZ
def tDGetS (K : PySem.W.Frag) (td ty : TE) : TE := fun σ H Q => td σ H fun x H1 => ty σ H1 fun y H2 => ∃ (a b : Addr) (v : V) (kvs : List (List Key × V)) (q : Str × Str), x = .ref a ∧ Rd H2 a (.dT kvs) ∧ y = .ref b ∧ SqT K H2 b [.str q.1, .str q.2] ∧ valV kvs (keyQ q) = some v ∧ Q v H2
theorem pe_dgetS {X : Cx} {o i : Expr} {td ty : TE} {pos : Pos} (hu : X.A.units + 1 < cLine) (ho : PE X o td) (hi : PE X i ty) (hs : NoSl i) : PE X (.Subscript o i pos) (tDGetS X.K td ty) := by
  refine ⟨fun pins s σ H Q I h => subD_of PySem.F.slot_dict_getitem.lookup hs (thn (ho.run pins s σ H _ I h) fun u s1 ⟨x, H1, I1, rx, q1⟩ => thn (hi.run pins s1 σ H1 _ I1 q1) fun iv s2 ⟨y, H2, I2, ry, a, b, v, kvs, q, ex, hd, ey, hb, hv, q2⟩ => ?_)⟩
  subst ex ey
  obtain rfl : u = Value.ref a := rx
  obtain rfl : iv = Value.ref b := ry
  obtain ⟨_, _, xs, rel, dd⟩ := dt_rd I2.hok hd
  obtain ⟨w', hw, rw'⟩ := RelO.some_of (v := v) (o := (atKey xs (keyQ q)).map (·.2)) (by rw [← hv]; exact rel.val (keyQ q))
  obtain ⟨p, hp, hp2⟩ := Option.map_eq_some_iff.mp hw
  have kk : (tupleKind (mixKind X.prog X.w)).is s2.heap (keyQ q) b := by
    obtain ⟨its, r, ⟨o', h1, h2, n, h3⟩, _⟩ := I2.tuple hb
    exact ⟨o', its.toArray, n, h1, h2, h3, by simpa using items_are (ks := keyQ q) r⟩
  refine ⟨dd.typeIs, wpAny_getItem_heap (tupleKind_room_in1 hu) kk dd hp ?_⟩
  rw [hp2]
  exact ⟨v, H2, I2.tok _, rw', q2⟩
section
variable {K : PySem.W.Frag} {ρ : List Sl} {Ex : XK} {ta tb te : TE} {tt : TT} {t u : TS} {d : D} {P : Oc → Prop}
theorem ev_getS {kvs : List (List Key × D)} {q : Str × Str} (h : EV K ta ρ (dtD kvs)) (hk : EV K tb ρ (pqD q)) (e : getG kvs (keyQ q) = some d) : EV K (tDGetS K ta tb) ρ d := fun G0 H0 G H σ Q E k =>
  h G0 H0 G H σ _ E fun x G1 H1 e1 hx => hk G0 H0 G1 H1 σ _ (E.go e1) fun y G2 H2 e2 hy => by
    obtain ⟨a, es, rfl, h1, h2⟩ := dq_dt (hx.mono e2.g)
    obtain ⟨b, rfl, hb⟩ := ps_sq e2.gh hy
    rcases h2.get (k := keyQ q) with ⟨h3, h4⟩ | ⟨v, d', h3, h4, h5⟩
    · rw [e] at h4
      cases h4
    · rw [e] at h4
      cases h4
      exact ⟨a, b, v, es, q, rfl, e2.gh.rd h1, rfl, hb, h3, k v G2 H2 (e1.trans e2) h5⟩
theorem walk_zipT {a b : Addr} {xs ys : List V} {n : Nat} (hx : n = xs.length) (hy : n = ys.length) : Walk (ItzT K a b) n (fun H => SqT K H a xs ∧ SqT K H b ys) (YPair (fun i => xs[i]?) (fun i => ys[i]?)) := by
  refine ⟨fun i H hi q => ⟨xs, ys, xs[i]'(by omega), ys[i]'(by omega), q.1, q.2, by simp [show i < xs.length by omega], by simp [show i < ys.length by omega]⟩, fun H q => ⟨xs, ys, q.1, q.2, by omega⟩, fun i H v H' _ q y => ?_⟩
  obtain ⟨T, x, z, h1, h2, h3, h4, h5⟩ := y
  exact ⟨T, x, z, h1, h2, h3, h4 xs q.1, h5 ys q.2⟩
/-- zip of two tuples of one length -/
theorem ei_zipT {t : TA} {as bs : List D} (h : EA K t ρ [.tuple as, .tuple bs]) (hl : as.length = bs.length) : EI K (iZipA K t) ρ as.length (fun i => .tuple [as.getD i .none, bs.getD i .none]) := fun G0 H0 G H σ R E q =>
  h G0 H0 G H σ _ E fun vs G1 H1 e1 hv => by
    cases hv with
    | cons x r =>
    cases r with
    | cons y r =>
    cases r
    cases x with
    | @tup a xs _ ha hxs =>
    cases y with
    | @tup b ys _ hb hys =>
    refine ⟨a, b, xs, ys, rfl, .inr ⟨e1.gh.t ha, e1.gh.t hb, q _ G1 H1 _ _ e1 (walk_zipT hxs.length.symm (hl.trans hys.length.symm)) (fun G2 H2 g gh => ⟨gh.t ((Sub.of g).t ha), gh.t ((Sub.of g).t hb)⟩) fun i G2 H2 v H3 hi g gh hy => ?_⟩⟩
    obtain ⟨T, x, y, rfl, hT, rfl, h4, h5⟩ := hy
    obtain ⟨d1, e1', r1⟩ := hxs.got h4
    obtain ⟨d2, e2', r2⟩ := hys.got h5
    show ∃ G3, _ ∧ Dq K G3 _ (.tuple [as.getD i .none, bs.getD i .none])
    rw [getD_of e1', getD_of e2']
    exact new_pair gh hT (r1.mono (Sub.of g)) (r2.mono (Sub.of g))
/-! dict displays -/
def mergeG (kvs more : List (Key × D)) : List (Key × D) := more.foldl (fun acc kv => putG acc kv.1 kv.2) kvs
def EPs (K : PySem.W.Frag) (trs : List (TE × TE)) (ρ : List Sl) (kds : List (Key × D)) : Prop := ∀ (G0 H0 G H : Hp) (σ : L2.St) (Q : List (V × V) → Hp → Prop), En K G0 H0 G H σ ρ →
  (∀ (es : List (Key × V)) G' H', Ext G H G' H' → DqV K G' es kds → Q (es.map fun kv => (kV kv.1, kv.2)) H') → tPairs trs σ H Q
theorem eps_nil : EPs K [] ρ [] := fun G0 H0 G H σ Q E q => q [] G H (.refl E.gh) .nil
theorem eps_cons {k : Key} {dk : D} {kds : List (Key × D)} {trs : List (TE × TE)} (hk : EV K ta ρ dk) (ek : dk = kD k) (hv : EV K tb ρ d) (h : EPs K trs ρ kds) : EPs K ((ta, tb) :: trs) ρ ((k, d) :: kds) := fun G0 H0 G H σ Q E q =>
  hk G0 H0 G H σ _ E fun x G1 H1 e1 hx => hv G0 H0 G1 H1 σ _ (E.go e1) fun y G2 H2 e2 hy => h G0 H0 G2 H2 σ _ ((E.go e1).go e2) fun es G3 H3 e3 hes => by
    subst ek
    have := key_dq hx
    subst this
    exact q ((k, y) :: es) G3 H3 ((e1.trans e2).trans e3) (.cons (hy.mono e3.g) hes)
theorem DqV.merge {G : Hp} : ∀ {more : List (Key × V)} {mds : List (Key × D)} {es : List (Key × V)} {kvs : List (Key × D)}, DqV K G more mds → DqV K G es kvs → DqV K G (mergeK es more) (mergeG kvs mds)
  | _, _, _, _, .nil, h => h
  | _, _, _, _, @DqV.cons _ _ _ k v d es' kvs' a b, h => by
    have := DqV.merge b (h.put (k := k) a)
    exact this
theorem en_disp {trs : List (TE × TE)} {kds : List (Key × D)} (h : EPs K trs ρ kds) (hl : kds.length ≤ 15) : EVN K (tDisp trs) ρ (dkD (mergeG [] kds)) := fun G0 H0 G H σ Q E q p hp => by
  have x : Ext G H G (upd H p (.dK [])) := .fresh E.gh hp
  have hG : G p = none := E.gh.none hp
  refine h G0 H0 G _ σ _ (E.go x) fun es G' H' e hes => ?_
  have hp' := e.at hG (upd_same (H := H) (a := p) (o := .dK []))
  have hG' := e.own _ _ (upd_same (H := H) (a := p) (o := .dK [])) rfl hG
  refine ⟨hp', es, rfl, by rw [hes.length]; exact hl, ?_⟩
  refine q p G' _ ⟨fun a o z => e.gg a o z, fun a o z => ?_, fun a o z => ?_, fun a o z t n => ?_⟩ hp hG' (.dK upd_same (hes.merge .nil).k)
  · have ne : a ≠ p := ne_of_none z hp
    rw [upd_ne ne]
    exact e.hh a o (by rw [upd_ne ne]; exact z)
  · exact (e.gh a o z).eq (upd_ne (ne_of_none z hG'))
  · exact e.own a o (by rw [upd_ne (ne_of_none z hp)]; exact z) t n
/-! ### for x in list(d): .., d a dict of one's own whose keys are pairs -/
theorem st_for0 {H0 G H : Hp} {σ : L2.St} {D : Ends} {wi : TI} {g : TG} {n : Nat} {item : Nat → DL.D} (E : En K G H0 G H σ ρ) (f : Fin K Ex G H0 P D) (hi : ∀ (R : It → Hp → Prop), (∀ J Gd Y, Walk J n Gd Y → (∀ G2 H2, Ext G H0 G2 H2 → Gd H2) →
    (∀ i G2 H2 x H3, i < n → Ext G H0 G2 H2 → Y i H2 x H3 → ∃ G3, Ext G2 H2 G3 H3 ∧ Dq K G3 x (item i)) → R J H) → wi σ H R) (I : Nat → List Sl → Prop) (h0 : I 0 ρ)
    (hs : ∀ i ρ1, i < n → I i ρ1 → ∃ ρ2 ts, GT K g ρ1 (item i) ρ2 ts ∧ ST K Ex t ρ2 (loopP (I (i + 1)) P)) (hd : ∀ ρ1, I n ρ1 → P (.nx ρ1)) : tFor wi g t D σ H :=
  hi _ fun J Gd Y w hG hY => by
    refine for_it w (fun i σ' H' => ∃ G' ρ', En K G H0 G' H' σ' ρ' ∧ I i ρ') ⟨G, ρ, E, h0⟩ (fun i σ' H' _ ⟨G', ρ', E', _⟩ => hG G' H' E'.ext) (fun i y σ' H' H3 hi ⟨G', ρ', E', p⟩ hy => ?_) (fun σ' H' ⟨G', ρ', E', p⟩ => f.nx ρ' σ' G' H' (hd ρ' p) E')
    obtain ⟨G3, x3, hdq⟩ := hY i G' H' y H3 hi E'.ext hy
    obtain ⟨ρ2, ts, hg, hb⟩ := hs i ρ' hi p
    exact hg G H0 G3 H3 σ' y _ (E'.go x3) hdq fun σ2 E2 _ _ => hb G H0 G3 H3 σ2 _ E2 ⟨fun ρ4 σ4 G4 H4 p4 E4 => ⟨G4, ρ4, E4, p4⟩, f.rt, fun ρ4 σ4 G4 H4 p4 E4 => f.nx ρ4 σ4 G4 H4 p4 E4, fun ρ4 σ4 G4 H4 p4 E4 => ⟨G4, ρ4, E4, p4⟩, f.ex⟩
theorem En.lockA {G0 H0 G H : Hp} {σ : L2.St} (E : En K G0 H0 G H σ ρ) {l : Addr} {u : HO} {od : Obj} (h0 : H0 l = none) (hG : G l = some u) (hu : isDic u = true) (hm : isMk u = false) : En K G (upd H0 l (.frz od u)) G (upd H l (.frz od u)) σ ρ := by
  have nl : ∀ a, G a = none → a ≠ l := fun a z e => by
    rw [e, hG] at z
    cases z
  refine ⟨E.len, ⟨fun _ _ z => z, fun a o e => ?_, fun a o e => ?_, fun _ _ _ _ z => z⟩, E.fr, fun j e q => ?_, E.ex, E.dis, fun j kls q => ?_, E.ned⟩
  · by_cases ha : a = l
    · subst ha
      rw [upd_same] at e
      exact .inl (by rw [upd_same]; exact e)
    · rw [upd_ne ha] at e
      rw [upd_ne ha]
      exact (E.ext.hh a o e).imp id (mkd.mono E.ext.gg)
  · by_cases ha : a = l
    · subst ha
      rw [hG] at e
      cases e
      exact .inr (.inl ⟨hu, od, upd_same⟩)
    · exact (E.gh a o e).eq (upd_ne ha)
  · obtain ⟨b, a1, a2, a3, a4⟩ := E.ow j e q
    exact ⟨b, a1, by rw [upd_ne (nl b a3)]; exact a2, a3, a4.ext (Sub.refl G) (upd_ne (nl b a3))⟩
  · obtain ⟨b, as, a1, a2, a3⟩ := E.ne j kls q
    exact ⟨b, as, a1, a2.go (Sub.refl G) fun c hc => upd_ne (nl c (a3 c hc).2.1), fun c hc => ⟨by rw [upd_ne (nl c (a3 c hc).2.1)]; exact (a3 c hc).1, (a3 c hc).2⟩⟩
theorem En.unlock {G0 H0 G H G2 H2 : Hp} {σ σ2 : L2.St} {ρ2 : List Sl} (E : En K G0 H0 G H σ ρ) {l : Addr} {u : HO} {od : Obj} (h0 : H0 l = none) (hG : G l = some u) (hu : isDic u = true) (hm : isMk u = false) (E2 : En K G (upd H0 l (.frz od u)) G2 H2 σ2 ρ2) :
    H2 l = some (.frz od u) ∧ En K G0 H0 G2 (upd H2 l u) σ2 ρ2 := by
  have hl2 := E2.ext.gg _ _ hG
  have nl : ∀ a, G2 a = none → a ≠ l := fun a z e => by
    rw [e, hl2] at z
    cases z
  have back : ∀ a, upd H0 l (.frz od u) a = none → H0 a = none := fun a z => by
    by_cases ha : a = l
    · rw [ha]; exact h0
    · rw [upd_ne ha] at z
      exact z
  refine ⟨E2.ext.atF hG hm upd_same, E2.len, ⟨fun a o e => E2.ext.gg a o (E.ext.gg a o e), fun a o e => ?_, fun a o e => ?_, fun a o e t n => ?_⟩, E2.fr, fun j e q => ?_, E2.ex, E2.dis, fun j kls q => ?_, E2.ned⟩
  · have ne : a ≠ l := ne_of_none e h0
    rw [upd_ne ne]
    exact (E2.ext.hh a o (by rw [upd_ne ne]; exact e)).imp id (E.ext.mark e)
  · by_cases ha : a = l
    · subst ha
      rw [hl2] at e
      cases e
      exact .of upd_same hm
    · exact (E2.gh a o e).eq (upd_ne ha)
  · exact E2.ext.own a o (by rw [upd_ne (ne_of_none e h0)]; exact e) t (E.ext.own a o e t n)
  · obtain ⟨b, a1, a2, a3, a4⟩ := E2.ow j e q
    exact ⟨b, a1, back b a2, a3, a4.ext (Sub.refl _) (upd_ne (nl b a3))⟩
  · obtain ⟨b, as, a1, a2, a3⟩ := E2.ne j kls q
    exact ⟨b, as, a1, a2.go (Sub.refl _) fun c hc => upd_ne (nl c (a3 c hc).2.1), fun c hc => ⟨back c (a3 c hc).1, (a3 c hc).2⟩⟩
/-- the frozen dict stays in its slot -/
theorem st_listT {n : Nat} {qs : List (Str × Str)} {kvs : List (List Key × D)} {g : TG} (hi : ρ[n]? = some (.ow (dtD kvs))) (hk : kvs.map (·.1) = qs.map keyQ) (I : Nat → List Sl → Prop) (h0 : I 0 (ρ.set n (.fr (dtD kvs))))
    (hs : ∀ i ρ1, i < qs.length → I i ρ1 → ∃ ρ2 ts, GT K g ρ1 (pqD (qs.getD i (Str.empty, Str.empty))) ρ2 ts ∧ ST K Ex t ρ2 (loopP (I (i + 1)) fun _ => False)) (hd : ∀ ρ1, I qs.length ρ1 → P (.nx ρ1)) : ST K Ex (tLock (tFor (iListT (tVar n)) g t)) ρ P := fun G0 H0 G H σ D E f => by
  obtain ⟨l, h1, h2, h3, h4⟩ := E.ow n _ hi
  obtain ⟨es, h5, h6⟩ := own_dt h4
  have E1 := E.frzAs (o := .dT es) (d' := dtD kvs) hi h1 (.of h5) fun gg => .dT (.inl upd_same) (h6.mono (Sub.of gg)).t
  generalize hG' : upd G l (.dT es) = G' at E1
  have hGl : G' l = some (.dT es) := by rw [← hG']; exact upd_same
  refine ⟨l, .dT es, h5, trivial, fun od => ?_⟩
  have EL := E1.lockA (od := od) h2 hGl rfl rfl
  have hlen : es.length = qs.length := by
    have := congrArg List.length hk
    rw [List.length_map, List.length_map] at this
    rw [h6.length, this]
  refine st_for0 (Ex := Ex) (P := fun o => ∃ ρ1, o = .nx ρ1 ∧ I qs.length ρ1) (item := fun i => pqD (qs.getD i (Str.empty, Str.empty))) EL ⟨fun ρ' σ' G2 H2 p E2 => ?_, fun d v G2 H2 p => ?_, fun ρ' σ' G2 H2 p => ?_, fun ρ' σ' G2 H2 p => ?_, fun C fl dd fs G2 H2 p => ?_⟩ (fun R z => ?_) I h0 (fun i ρ1 hi p => ?_) fun ρ1 p => ⟨ρ1, rfl, p⟩
  · obtain ⟨ρ1, e, p⟩ := p
    cases e
    obtain ⟨q1, q2⟩ := E1.unlock h2 hGl rfl rfl E2
    exact ⟨q1, f.nx _ _ _ _ (hd _ p) q2⟩
  · obtain ⟨ρ1, e, _⟩ := p; cases e
  · obtain ⟨ρ1, e, _⟩ := p; cases e
  · obtain ⟨ρ1, e, _⟩ := p; cases e
  · obtain ⟨ρ1, e, _⟩ := p; cases e
  · refine ⟨_, h1, l, od, es, rfl, upd_same, z _ _ _ (hlen ▸ walk_keysT) (fun G2 H2 e => e.atF hGl rfl upd_same) fun i G2 H2 x H3 hlt e hy => ?_⟩
    obtain ⟨rfl, k, v, q, y1, rfl, y2⟩ := hy
    have hk' : k = keyQ (qs.getD i (Str.empty, Str.empty)) := by
      have e1 := congrArg (fun m : List (List Key) => m[i]?) (h6.keys.trans hk)
      rw [List.getElem?_map, List.getElem?_map, y1, List.getElem?_eq_getElem hlt] at e1
      injection e1 with e1
      rw [List.getD_eq_getElem?_getD, List.getElem?_eq_getElem hlt]
      exact e1
    refine ⟨_, Ext.tups e.gh, .tup (SqT.of (tupG_tup e.gh y2)) ?_⟩
    rw [hk']
    exact .cons (.str _) (.cons (.str _) .nil)
  · obtain ⟨ρ2, ts, a, b⟩ := hs i ρ1 hi p
    refine ⟨ρ2, ts, a, b.mono fun o z => ?_⟩
    cases o <;> first | exact z | exact z.elim
end
end DL

set_option maxHeartbeats 1000000
/-! DL24: defs that answer a new list that the caller may change; boxes.append(rest.pop(i)). -/
namespace DL
open PySem PySem.Spec PyProof.Rows L2
/-- what a def answers: a new list | dict, told by a word about it -/
def PN (K : PySem.W.Frag) (Pre : List D → Prop) (Post : List D → D → Prop) : Sp := fun vs H Q _ => ∃ G ds, GH G H ∧ DqA K G vs ds ∧ Pre ds ∧ ∀ d l G' H', Post ds d → Ext G H G' H' → H l = none → G' l = none → OwnC K G' H' l d → Q (.ref l) H'
/-- a body that ends with the return of an own value -/
def STN (K : PySem.W.Frag) (t : TS) (ρ : List Sl) (Post : D → Prop) : Prop := ∀ (G0 H0 G H : Hp) (σ : L2.St) (Dn : Ends), En K G0 H0 G H σ ρ → (∀ d l G' H', Post d → Ext G0 H0 G' H' → H0 l = none → G' l = none → OwnC K G' H' l d → Dn.rt (.ref l) H') → t Dn σ H
section
variable {K : PySem.W.Frag} {ρ : List Sl} {Ex : XK} {ta tb te : TE} {t u : TS} {d : D} {P : Oc → Prop} {Pd : D → Prop} {Post : D → Prop}
theorem stn_seq (h : ST K Ex t ρ (fun o => ∃ ρ', o = .nx ρ' ∧ STN K u ρ' Post)) : STN K (tSeq t u) ρ Post := fun G0 H0 G H σ Dn E q =>
  h G0 H0 G H σ _ E ⟨(fun _ σ' G' H' ⟨ρ'', e, s⟩ E' => by cases e; exact s G0 H0 G' H' σ' Dn E' q), (fun _ _ _ _ ⟨_, e, _⟩ _ => nomatch e), (fun _ _ _ _ ⟨_, e, _⟩ _ => nomatch e), (fun _ _ _ _ ⟨_, e, _⟩ _ => nomatch e), (fun _ _ _ _ _ _ ⟨_, e, _⟩ => nomatch e)⟩
theorem stn_ret {n : Nat} (hi : ρ[n]? = some (.ow d)) (p : Post d) : STN K (tRet (tVar n)) ρ Post := fun G0 H0 G H σ Dn E q => by
  obtain ⟨l, h1, h2, h3, h4⟩ := E.ow n d hi
  exact ⟨_, h1, q d l G H p E.ext h2 h3 h4⟩
theorem evnx_callN {Pre : List D → Prop} {Po : List D → D → Prop} {Ey : XK} {t : TA} {ds : List D} (h : EA K t ρ ds) (hp : Pre ds) : EVNX K (tCall (PN K Pre Po) [] Ey t) ρ (Po ds) := fun G0 H0 G H σ Q E q =>
  h G0 H0 G H σ _ E fun vs G1 H1 e1 h1 => by
    rw [List.append_nil]
    exact ⟨G1, ds, e1.gh, h1, hp, fun d l G2 H2 hd x hH hG ho => q d l G2 H2 hd (e1.trans x) (e1.gone hH) hG ho⟩
theorem dqa_erase {G : Hp} {us : List V} {es : List D} (h : DqA K G us es) (i : Nat) : DqA K G (us.eraseIdx i) (es.eraseIdx i) := by
  rw [List.eraseIdx_eq_take_drop_succ, List.eraseIdx_eq_take_drop_succ]
  exact (h.take i).append (h.drop (i + 1))
/-- ps.append(qs.pop(i)) -/
theorem st_appPop {p q : Nat} {ds es : List D} (hp : ρ[p]? = some (.ow (.list ds))) (hq : ρ[q]? = some (.ow (.list es))) (hpq : q ≠ p) (h : EVX K te ρ Pd) (hz : ds.length < 16000000) (he : es.length ≤ 16000000)
    (k : ∀ d, Pd d → ∃ i : Nat, d = .int (i : Int) ∧ i < es.length ∧ ∀ e, es[i]? = some e → P (.nx ((ρ.set q (.ow (.list (es.eraseIdx i)))).set p (.ow (.list (ds ++ [e])))))) :
    ST K Ex (tDrop (tBM K "list" rAppend (tVar p) (tCons (tBM K "list" rPopAt (tVar q) (tCons te tNil)) tNil))) ρ P := fun G0 H0 G H σ D E f => by
  obtain ⟨l, vs, h1, h2, h3, h0⟩ := own_lookG E hp
  obtain ⟨m, us, g1, g2, g3, g0⟩ := own_lookG E hq
  have hlm : l ≠ m := fun z => hpq (E.dis q p _ _ l hq hp (z ▸ g1) h1)
  refine ⟨_, h1, .inl ⟨rfl, vs, SqL.of h2⟩, _, g1, .inl ⟨rfl, us, SqL.of g2⟩, h G0 H0 G H σ _ E fun d w G1 H1 pd e1 hw => ?_⟩
  obtain ⟨i, rfl, hi, kk⟩ := k d pd
  cases hw
  have hi' : i < us.length := by rw [g3.length]; exact hi
  obtain ⟨e, he1, he2⟩ := (g3.mono e1.g).got (List.getElem?_eq_getElem hi')
  refine ⟨m, us, i, i, us[i], rfl, rfl, e1.at g0 g2, by omega, by rw [g3.length] at hi'; omega, (ixN_seq ((ixN_nn (by omega) (by omega)).trans (congrArg some (Int.toNat_natCast i)))).1, List.getElem?_eq_getElem hi', ?_⟩
  have E1 := (E.go e1).write hq g1 (o := .lst (us.eraseIdx i)) (d' := .list (es.eraseIdx i)) (.lst upd_same (dqa_erase (g3.mono e1.g) i))
  have hp' : (ρ.set q (.ow (.list (es.eraseIdx i))))[p]? = some (.ow (.list ds)) := by rw [List.getElem?_set_ne hpq]; exact hp
  exact ⟨l, vs, us[i], rfl, rfl, (upd_ne hlm).trans (e1.at h0 h2), by rw [h3.length, sizeLine_eq]; omega, f.nx _ _ _ _ (kk e he1) (E1.write hp' h1 (.lst upd_same ((h3.mono e1.g).append (.one he2))))⟩
end
section
variable {P : Program} {w : World} {K : PySem.W.Frag} {mg : Str → Option Value} {base : Heap}
theorem fn_pn {x qual : Str} {params : Arguments} {body : List Stmt} {scope : Scope} {f : Addr} {fd : FuncData} {N ps : List Str} {k : Nat} {Pre : List D → Prop} {Post : List D → D → Prop} (F : FunD K x qual params body scope [] [] f fd) (S : FnScope N ps scope)
    (len : ∀ ds, Pre ds → ds.length = ps.length)
    (hb : ∀ (cdv : Value) (A : Around) (outer : List PySem.Env) (s : Shared) (H : Hp) (E : XK), Room k (A.deeper (envOfC qual scope s.heap.objs.size f cdv)) →
      ∃ t, PSs (cxOf CX0 P w K mg base N qual scope f cdv A outer s H E) body t ∧ ∀ ds, Pre ds → STN K t (start0 N.length ds) (Post ds)) : FnOk P w K mg base CX0 (k + 1) f fd ps (PN K Pre Post) := by
  refine F.ok S (fun vs H Q E h => ?_) (fun cdv A outer s H vs Q E hr h => ?_)
  · obtain ⟨G, ds, g, ha, hR, q⟩ := h
    exact ha.length.trans (len ds hR)
  · obtain ⟨t, h1, h2⟩ := hb cdv A outer s H E hr
    obtain ⟨G, ds, g, ha, hR, q⟩ := h
    exact ⟨t, h1, h2 ds hR G H G H _ _ (en_start g ha) q⟩
end
end DL

set_option maxHeartbeats 1000000
/-! DL25: counting points: a dict whose keys are pairs of ints, d[p] = d.get(p, 0) + 1; any, sum of lists. -/
namespace DL
open PySem PySem.Spec PyProof.Rows L2
def kI (p : Int × Int) : List Key := [.inl p.1, .inl p.2]
theorem kI_inj {a b : Int × Int} (h : kI a = kI b) : a = b := by
  obtain ⟨a1, a2⟩ := a
  obtain ⟨b1, b2⟩ := b
  unfold kI at h
  injection h with h1 h2
  injection h2 with h2
  injection h1 with h1
  injection h2 with h2
  dsimp only at h1 h2
  rw [h1, h2]
def cK (ps : List ((Int × Int) × Int)) : List (List Key × D) := ps.map fun p => (kI p.1, PyData.int p.2)
def cnt (ps : List ((Int × Int) × Int)) (k : Int × Int) : Int := ((ps.find? fun p => decide (p.1 = k)).map (·.2)).getD 0
def bump (ps : List ((Int × Int) × Int)) (k : Int × Int) : List ((Int × Int) × Int) :=
  if (ps.any fun p => decide (p.1 = k)) = true then ps.map (fun p => if p.1 = k then (p.1, cnt ps k + 1) else p) else ps ++ [(k, cnt ps k + 1)]
theorem dec_kI (a b : Int × Int) : decide (kI a = kI b) = decide (a = b) := by
  by_cases h : a = b
  · rw [h, decide_eq_true rfl, decide_eq_true rfl]
  · rw [decide_eq_false h, decide_eq_false fun e => h (kI_inj e)]
theorem cK_get (ps : List ((Int × Int) × Int)) (k : Int × Int) : getG (cK ps) (kI k) = (ps.find? fun p => decide (p.1 = k)).map fun p => PyData.int p.2 := by
  unfold getG cK
  induction ps with
  | nil => rfl
  | cons p ps ih =>
    rw [List.map_cons, List.find?_cons, List.find?_cons]
    dsimp only
    rw [dec_kI]
    by_cases h : p.1 = k
    · rw [decide_eq_true h]; rfl
    · rw [decide_eq_false h]; exact ih
theorem cK_getD (ps : List ((Int × Int) × Int)) (k : Int × Int) : (getG (cK ps) (kI k)).getD (PyData.int 0) = .int (cnt ps k) := by
  rw [cK_get]
  unfold cnt
  cases ps.find? fun p => decide (p.1 = k) <;> rfl
theorem cK_put (ps : List ((Int × Int) × Int)) (k : Int × Int) : putG (cK ps) (kI k) (.int (cnt ps k + 1)) = cK (bump ps k) := by
  have e : ((cK ps).any fun kv => decide (kv.1 = kI k)) = ps.any fun p => decide (p.1 = k) := by
    unfold cK
    rw [List.any_map]
    congr 1
    funext p
    exact dec_kI _ _
  unfold putG bump
  rw [e]
  by_cases h : (ps.any fun p => decide (p.1 = k)) = true
  · rw [if_pos h, if_pos h]
    unfold cK
    rw [List.map_map, List.map_map]
    refine List.map_congr_left fun p hp => ?_
    show (if kI p.1 = kI k then (kI p.1, PyData.int (cnt ps k + 1)) else (kI p.1, PyData.int p.2)) = _
    by_cases q : p.1 = k
    · rw [if_pos (congrArg kI q)]
      show _ = (kI (if p.1 = k then (p.1, cnt ps k + 1) else p).1, PyData.int (if p.1 = k then (p.1, cnt ps k + 1) else p).2)
      rw [if_pos q]
    · rw [if_neg fun z => q (kI_inj z)]
      show _ = (kI (if p.1 = k then (p.1, cnt ps k + 1) else p).1, PyData.int (if p.1 = k then (p.1, cnt ps k + 1) else p).2)
      rw [if_neg q]
  · rw [if_neg h, if_neg h]
    unfold cK
    rw [List.map_append]
    rfl
theorem bump_len (ps : List ((Int × Int) × Int)) (k : Int × Int) : (bump ps k).length ≤ ps.length + 1 := by
  unfold bump
  split
  · rw [List.length_map]; omega
  · rw [List.length_append]; exact Nat.le_refl _
section
variable (K : PySem.W.Frag)
def AtT (G : Hp) (vs : List V) (kss : List (List Key)) : Prop := vs.length = kss.length ∧ ∀ (i : Nat) (ks : List Key), kss[i]? = some ks → ∃ p, vs[i]? = some (.ref p) ∧ G p = some (.tup (ks.map kV))
def EAT (t : TA) (ρ : List Sl) (kss : List (List Key)) : Prop := ∀ (G0 H0 G H : Hp) (σ : L2.St) (Q : List V → Hp → Prop), En K G0 H0 G H σ ρ → (∀ vs G' H', Ext G H G' H' → AtT G' vs kss → Q vs H') → t σ H Q
/-- a walk over tuples of keys whose addresses are known -/
def EIK (wi : TI) (ρ : List Sl) (kss : List (List Key)) : Prop := ∀ (G0 H0 G H : Hp) (σ : L2.St) (R : It → Hp → Prop), En K G0 H0 G H σ ρ →
  (∀ J G' H' Gd Y, Ext G H G' H' → Walk J kss.length Gd Y → (∀ G2 H2, (∀ a o, G' a = some o → G2 a = some o) → GH G2 H2 → Gd H2) →
    (∀ i G2 H2 x H3, i < kss.length → (∀ a o, G' a = some o → G2 a = some o) → GH G2 H2 → Y i H2 x H3 → H3 = H2 ∧ ∃ p, x = .ref p ∧ G2 p = some (.tup ((kss.getD i []).map kV))) → R J H') → wi σ H R
end
section
variable {K : PySem.W.Frag} {ρ : List Sl} {Ex : XK} {ta tb te : TE} {tt : TT} {t u : TS} {d : D} {P : Oc → Prop}
theorem eat_nil : EAT K tNil ρ [] := fun _ _ G H _ _ E q => q [] G H (.refl E.gh) ⟨rfl, fun i ks h => nomatch h⟩
theorem eat_cons {tr : TA} {ks : List Key} {kss : List (List Key)} (h : EVT K ta ρ ks) (hr : EAT K tr ρ kss) : EAT K (tCons ta tr) ρ (ks :: kss) := fun G0 H0 G H σ Q E q =>
  h G0 H0 G H σ _ E fun p G1 H1 e1 h1 => hr G0 H0 G1 H1 σ _ (E.go e1) fun vs G2 H2 e2 h2 => q _ G2 H2 (e1.trans e2) ⟨congrArg Nat.succ h2.1, fun i ks' hk => by
    cases i with
    | zero =>
      injection hk with hk
      subst hk
      exact ⟨p, rfl, e2.gg _ _ h1⟩
    | succ i => exact h2.2 i ks' hk⟩
theorem eik_tup {t : TA} {kss : List (List Key)} (h : EAT K t ρ kss) (hl : kss.length ≤ sizeLine) : EIK K (iSeqU K (tTup t)) ρ kss := fun G0 H0 G H σ R E q =>
  h G0 H0 G H σ _ E fun vs G1 H1 e1 ⟨a1, a2⟩ => ⟨by rw [a1]; exact hl, fun a hp => by
    have x := Ext.new (o := .tup vs) e1.gh hp
    refine .inr (.inl ⟨a, vs, rfl, SqT.of upd_same, ?_⟩)
    rw [← a1] at q
    refine q _ _ _ _ _ (e1.trans x) (walk_tup (K := K) (a := a) (xs := vs)) (fun G2 H2 hg gh => gh.t ((Sub.of hg).t (SqT.of upd_same))) fun i G2 H2 x H3 hi hg gh hy => ?_
    obtain ⟨rfl, hx⟩ := hy
    obtain ⟨p, hp1, hp2⟩ := a2 i _ (List.getElem?_eq_getElem (by omega))
    rw [hp1] at hx
    injection hx with hx
    subst hx
    refine ⟨rfl, p, rfl, ?_⟩
    rw [List.getD_eq_getElem?_getD, List.getElem?_eq_getElem (show i < kss.length by omega)]
    exact hg _ _ (x.gg _ _ hp2)⟩
theorem eik_lst {t : TA} {kss : List (List Key)} (h : EAT K t ρ kss) (hl : kss.length ≤ sizeLine) : EIK K (iSeqU K (tLst t)) ρ kss := fun G0 H0 G H σ R E q =>
  h G0 H0 G H σ _ E fun vs G1 H1 e1 ⟨a1, a2⟩ => ⟨by rw [a1]; exact hl, fun a hp => by
    have x := Ext.new (o := .lst vs) e1.gh hp
    refine .inl ⟨a, vs, rfl, SqL.of upd_same, ?_⟩
    rw [← a1] at q
    refine q _ _ _ _ _ (e1.trans x) (walk_list (K := K) (a := a) (xs := vs)) (fun G2 H2 hg gh => gh.l ((Sub.of hg).l (SqL.of upd_same))) fun i G2 H2 x2 H3 hi hg gh hy => ?_
    obtain ⟨rfl, hx⟩ := hy
    obtain ⟨p, hp1, hp2⟩ := a2 i _ (List.getElem?_eq_getElem (by omega))
    rw [hp1] at hx
    injection hx with hx
    subst hx
    refine ⟨rfl, p, rfl, ?_⟩
    rw [List.getD_eq_getElem?_getD, List.getElem?_eq_getElem (show i < kss.length by omega)]
    exact hg _ _ (x.gg _ _ hp2)⟩
theorem set_set_comm {l : List Sl} {n i : Nat} (h : n ≠ i) (a b c d : Sl) : (((l.set i a).set n b).set i c).set n d = (l.set i c).set n d := by
  apply List.ext_getElem?
  intro k
  simp only [List.getElem?_set, List.length_set]
  split <;> split <;> simp_all
/-- d[p] = d.get(p, 0) + 1, p told by its address -/
theorem run_bump {G0 H0 G H : Hp} {σ : L2.St} {D : Ends} {n i : Nat} {ps : List ((Int × Int) × Int)} {p : Addr} {k : Int × Int} (E : En K G0 H0 G H σ ρ) (hn : ρ[n]? = some (.ow (dtD (cK ps)))) (hi : σ[i]? = some (some (.ref p))) (hp : G p = some (.tup ((kI k).map kV))) (hz : ps.length < 16000000)
    (q : ∀ H', En K G0 H0 G H' σ (ρ.set n (.ow (dtD (cK (bump ps k))))) → D.nx σ H') : sDPut (tVar n) (tVar i) (tOp (rAddU K) (tDGet2 (tVar n) (tVar i) (tC (.int 0))) (tC (.int 1))) D σ H := by
  obtain ⟨l, h1, _, h0, h4⟩ := E.ow n _ hn
  obtain ⟨es, h5, h6⟩ := own_dt h4
  have hp' := E.gh.tup hp
  have hlen : es.length = ps.length := by rw [h6.length]; unfold cK; rw [List.length_map]
  have main : ∀ v : V, v = .int (cnt ps k + 1) → D.nx σ (upd H l (.dT (putK es (kI k) v))) := fun v e => by
    subst e
    refine q _ (E.write hn h1 ?_)
    rw [← cK_put]
    exact .dT upd_same ((h6.put (.int _)).t)
  have fin : ∀ z : V, z = .int (cnt ps k) → (rAddU K) z (.int 1) H fun v H1 => ∃ v', σ[n]? = some (some v') ∧ (fun x H2 => ∃ w, σ[i]? = some (some w) ∧ (fun y H3 => ∃ a H4, x = .ref a ∧ DPut H3 a y v H4 ∧ D.nx σ H4) w H2) v' H1 := fun z e => by
    subst e
    refine .inl ⟨_, _, rfl, rfl, _, h1, _, hi, l, _, rfl, DPut.t h5 hp' (by rw [hlen, sizeLine_eq]; omega), main _ rfl⟩
  refine ⟨_, h1, l, rfl, .inr ⟨es, .inl h5⟩, _, hi, ?_⟩
  rcases h6.get (k := kI k) with ⟨e1, e2⟩ | ⟨v, d, e1, e2, e3⟩
  · refine ⟨none, ?_, fin _ ?_⟩
    · rw [← e1]; exact DGet.t h5 hp'
    · have := cK_getD ps k
      rw [e2] at this
      injection this with this
      show V.int 0 = _
      rw [this]
  · refine ⟨some v, ?_, fin _ ?_⟩
    · rw [← e1]; exact DGet.t h5 hp'
    · have := cK_getD ps k
      rw [e2] at this
      have this : d = .int (cnt ps k) := this
      subst this
      cases e3
      rfl
theorem st_bumps {n i : Nat} {wi : TI} {ps : List ((Int × Int) × Int)} {ks : List (Int × Int)} (hn : ρ[n]? = some (.ow (dtD (cK ps)))) (hni : n ≠ i) (hil : i < ρ.length) (hw : EIK K wi ρ (ks.map kI)) (hz : ps.length + ks.length < 16000000)
    (q : ∀ s, P (.nx ((ρ.set i s).set n (.ow (dtD (cK (ks.foldl bump ps))))))) :
    ST K Ex (tFor wi (gName i) (sDPut (tVar n) (tVar i) (tOp (rAddU K) (tDGet2 (tVar n) (tVar i) (tC (.int 0))) (tC (.int 1))))) ρ P := fun G0 H0 G H σ D E f =>
  hw G0 H0 G H σ _ E fun J G1 H1 Gd Y x w hG hY => by
    have E1 := E.go x
    have hlen : ∀ j, ((ks.take j).foldl bump ps).length ≤ ps.length + j := by
      intro j
      induction j with
      | zero => exact Nat.le_refl _
      | succ j ih =>
        by_cases hj : j < ks.length
        · rw [List.take_succ_eq_append_getElem hj, List.foldl_append]
          have := bump_len ((ks.take j).foldl bump ps) ks[j]
          show (bump _ _).length ≤ _
          omega
        · rw [List.take_of_length_le (by omega)]
          rw [List.take_of_length_le (by omega)] at ih
          omega
    refine for_it w (fun j σ' H' => ∃ G' s, En K G1 H0 G' H' σ' ((ρ.set i s).set n (.ow (dtD (cK ((ks.take j).foldl bump ps)))))) ⟨G1, ρ.getD i .no, ?_⟩ (fun j σ' H' _ ⟨G', s, E'⟩ => hG G' H' E'.ext.gg E'.gh) (fun j y σ' H' H3 hj ⟨G', s, E'⟩ hy => ?_) (fun σ' H' ⟨G', s, E'⟩ => ?_)
    · have e : (ρ.set i (ρ.getD i .no)).set n (.ow (dtD (cK ((ks.take 0).foldl bump ps)))) = ρ := by
        apply List.ext_getElem?
        intro k
        show _ = ρ[k]?
        rw [show (ks.take 0).foldl bump ps = ps from rfl]
        by_cases h1 : n = k
        · subst h1
          rw [List.getElem?_set_self (by rw [List.length_set]; exact (List.getElem?_eq_some_iff.mp hn).1), hn]
        · rw [List.getElem?_set_ne h1]
          by_cases h2 : i = k
          · subst h2
            by_cases h3 : i < ρ.length
            · rw [List.getElem?_set_self h3, List.getD_eq_getElem?_getD, List.getElem?_eq_getElem h3]
              rfl
            · rw [List.getElem?_eq_none (by rw [List.length_set]; omega), List.getElem?_eq_none (by omega)]
          · rw [List.getElem?_set_ne h2]
      rw [e]
      exact E1.re
    · rw [List.length_map] at hj
      obtain ⟨rfl, p, rfl, hp⟩ := hY j G' H' y H3 (by rw [List.length_map]; exact hj) E'.ext.gg E'.gh hy
      have ek : (ks.map kI).getD j [] = kI ks[j] := by
        rw [List.getD_eq_getElem?_getD, List.getElem?_map, List.getElem?_eq_getElem hj]
        rfl
      rw [ek] at hp
      have nn : n < ρ.length := (List.getElem?_eq_some_iff.mp hn).1
      have E3 := E'.setF i (v := .ref p) (d := .tuple ((kI ks[j]).map kD)) (.tup (SqT.of hp) (.cons (.int _) (.cons (.int _) .nil)))
      show sDPut _ _ _ _ (σ'.set i (some (.ref p))) H3
      · refine run_bump (ps := (ks.take j).foldl bump ps) (p := p) (k := ks[j]) E3 ?_ ?_ hp (by have := hlen j; omega) fun H4 E4 => ⟨G', .fr (.tuple ((kI ks[j]).map kD)), ?_⟩
        · rw [List.getElem?_set_ne hni.symm, List.getElem?_set_self (by rw [List.length_set]; exact nn)]
        · rw [List.getElem?_set_self (by rw [E'.len, List.length_set, List.length_set]; exact hil)]
        · rw [set_set_comm hni] at E4
          rw [List.take_succ_eq_append_getElem hj, List.foldl_append]
          exact E4
    · rw [List.length_map, List.take_of_length_le (Nat.le_refl _)] at E'
      exact f.nx _ _ _ _ (q s) (E'.back E1.ext)
end
end DL

set_option maxHeartbeats 1000000
/-! DL26: any, sum of lists; the values of a dict with tuple keys; for k in list(d), d a dict with tuple keys, with a return within; d[k], k a tuple. -/
namespace DL
open PySem PySem.Spec PyProof.Rows L2
theorem b_any : bootBuiltins "any" = some (.builtin "any") := by decide +kernel
theorem b_sum : bootBuiltins "sum" = some (.builtin "sum") := by decide +kernel
def tDGetP (K : PySem.W.Frag) (td ty : TE) : TE := fun σ H Q => td σ H fun x H1 => ty σ H1 fun y H2 => ∃ (a b : Addr) (v : V) (kvs : List (List Key × V)) (ks : List Key), x = .ref a ∧ Rd H2 a (.dT kvs) ∧ y = .ref b ∧ SqT K H2 b (ks.map kV) ∧ valV kvs ks = some v ∧ Q v H2
theorem pe_dgetP {X : Cx} {o i : Expr} {td ty : TE} {pos : Pos} (hu : X.A.units + 1 < cLine) (ho : PE X o td) (hi : PE X i ty) (hs : NoSl i) : PE X (.Subscript o i pos) (tDGetP X.K td ty) := by
  refine ⟨fun pins s σ H Q I h => subD_of PySem.F.slot_dict_getitem.lookup hs (thn (ho.run pins s σ H _ I h) fun u s1 ⟨x, H1, I1, rx, q1⟩ => thn (hi.run pins s1 σ H1 _ I1 q1) fun iv s2 ⟨y, H2, I2, ry, a, b, v, kvs, ks, ex, hd, ey, hb, hv, q2⟩ => ?_)⟩
  subst ex ey
  obtain rfl : u = Value.ref a := rx
  obtain rfl : iv = Value.ref b := ry
  obtain ⟨_, _, xs, rel, dd⟩ := dt_rd I2.hok hd
  obtain ⟨w', hw, rw'⟩ := RelO.some_of (v := v) (o := (atKey xs ks).map (·.2)) (by rw [← hv]; exact rel.val ks)
  obtain ⟨p, hp, hp2⟩ := Option.map_eq_some_iff.mp hw
  have kk : (tupleKind (mixKind X.prog X.w)).is s2.heap ks b := by
    obtain ⟨its, r, ⟨o', h1, h2, n, h3⟩, _⟩ := I2.tuple hb
    exact ⟨o', its.toArray, n, h1, h2, h3, by simpa using items_are (ks := ks) r⟩
  refine ⟨dd.typeIs, wpAny_getItem_heap (tupleKind_room_in1 hu) kk dd hp ?_⟩
  rw [hp2]
  exact ⟨v, H2, I2.tok _, rw', q2⟩
section
variable {K : PySem.W.Frag} {ρ : List Sl} {Ex : XK} {ta tb te : TE} {tt : TT} {t u : TS} {d : D} {P : Oc → Prop}
theorem sq_of {G H : Hp} (g : GH G H) {y : V} {ds : List D} (h : Dq K G y (.tuple ds)) : ∃ b vs, y = .ref b ∧ SqT K H b vs ∧ DqA K G vs ds := by
  cases h with
  | tup a b => exact ⟨_, _, rfl, g.t a, b⟩
theorem ev_getP {kvs : List (List Key × D)} {ks : List Key} (h : EV K ta ρ (dtD kvs)) (hk : EV K tb ρ (.tuple (ks.map kD))) (e : getG kvs ks = some d) : EV K (tDGetP K ta tb) ρ d := fun G0 H0 G H σ Q E k =>
  h G0 H0 G H σ _ E fun x G1 H1 e1 hx => hk G0 H0 G1 H1 σ _ (E.go e1) fun y G2 H2 e2 hy => by
    obtain ⟨a, es, rfl, h1, h2⟩ := dq_dt (hx.mono e2.g)
    obtain ⟨b, vs, rfl, hb, hvs⟩ := sq_of e2.gh hy
    have := keys_dq hvs
    subst this
    rcases h2.get (k := ks) with ⟨h3, h4⟩ | ⟨v, d', h3, h4, h5⟩
    · rw [e] at h4
      cases h4
    · rw [e] at h4
      cases h4
      exact ⟨a, b, v, es, ks, rfl, e2.gh.rd h1, rfl, hb, h3, k v G2 H2 (e1.trans e2) h5⟩
theorem bools_dq {G : Hp} : ∀ {bs : List Bool} {vs : List V}, DqA K G vs (bs.map PyData.bool) → vs = bs.map V.bl
  | [], _, h => by cases h; rfl
  | b :: bs, _, h => by
    cases h with
    | cons x y =>
      cases x
      rw [bools_dq y]
      rfl
theorem cd_any {bs : List Bool} : CD K (rAny K) [.list (bs.map PyData.bool)] (.bool (bs.any id)) := fun xs G H Q g hx q => by
  cases hx with
  | cons a b =>
    cases b
    cases a with
    | @lst a xs _ ha hr =>
      have := bools_dq hr
      subst this
      exact ⟨a, bs, rfl, SqL.of (g.lst ha), q _ G H (.refl g) (.bl _)⟩
theorem cd_sum {ns : List Int} : CD K (rSum K) [.list (ns.map PyData.int)] (.int ns.sum) := fun xs G H Q g hx q => by
  cases hx with
  | cons a b =>
    cases b
    cases a with
    | @lst a xs _ ha hr =>
      have := ints_dq hr
      subst this
      exact ⟨a, ns, rfl, SqL.of (g.lst ha), q _ G H (.refl g) (.int _)⟩
/-- for k in list(d), d own, keys tuples; a return within is fine -/
theorem st_listK {n : Nat} {kss : List (List Key)} {kvs : List (List Key × D)} {g : TG} (hi : ρ[n]? = some (.ow (dtD kvs))) (hk : kvs.map (·.1) = kss) (I : Nat → List Sl → Prop) (h0 : I 0 (ρ.set n (.fr (dtD kvs))))
    (hs : ∀ i ρ1, i < kss.length → I i ρ1 → ∃ ρ2 ts, GT K g ρ1 (.tuple ((kss.getD i []).map kD)) ρ2 ts ∧ ST K Ex t ρ2 (loopP (I (i + 1)) fun o => ∃ d, o = .rt d ∧ P (.rt d))) (hd : ∀ ρ1, I kss.length ρ1 → P (.nx ρ1)) : ST K Ex (tLock (tFor (iListT (tVar n)) g t)) ρ P := fun G0 H0 G H σ D E f => by
  obtain ⟨l, h1, h2, h3, h4⟩ := E.ow n _ hi
  obtain ⟨es, h5, h6⟩ := own_dt h4
  have E1 := E.frzAs (o := .dT es) (d' := dtD kvs) hi h1 (.of h5) fun gg => .dT (.inl upd_same) (h6.mono (Sub.of gg)).t
  generalize hG' : upd G l (.dT es) = G' at E1
  have hGl : G' l = some (.dT es) := by rw [← hG']; exact upd_same
  refine ⟨l, .dT es, h5, trivial, fun od => ?_⟩
  have EL := E1.lockA (od := od) h2 hGl rfl rfl
  have hlen : es.length = kss.length := by
    have := congrArg List.length hk
    rw [List.length_map] at this
    rw [h6.length, this]
  refine st_for0 (Ex := Ex) (P := fun o => (∃ ρ1, o = .nx ρ1 ∧ I kss.length ρ1) ∨ ∃ d, o = .rt d ∧ P (.rt d)) (item := fun i => .tuple ((kss.getD i []).map kD)) EL ⟨fun ρ' σ' G2 H2 p E2 => ?_, fun d v G2 H2 p x hv => ?_, fun ρ' σ' G2 H2 p => ?_, fun ρ' σ' G2 H2 p => ?_, fun C fl dd fs G2 H2 p => ?_⟩ (fun R z => ?_) I h0 (fun i ρ1 hi p => ?_) fun ρ1 p => .inl ⟨ρ1, rfl, p⟩
  · rcases p with ⟨ρ1, e, p⟩ | ⟨_, e, _⟩
    · cases e
      obtain ⟨q1, q2⟩ := E1.unlock h2 hGl rfl rfl E2
      exact ⟨q1, f.nx _ _ _ _ (hd _ p) q2⟩
    · cases e
  · rcases p with ⟨ρ1, e, _⟩ | ⟨_, e, p⟩
    · cases e
    · cases e
      have E2 : En K G' (upd H0 l (.frz od (.dT es))) G2 H2 [] [] := ⟨rfl, x, (fun i d h => nomatch h), (fun i d h => nomatch h), (fun i a dd fl h => nomatch h), (fun i j d e l h => nomatch h), (fun i kls h => nomatch h), (fun i j x y h => nomatch h)⟩
      obtain ⟨q1, q2⟩ := E1.unlock h2 hGl rfl rfl E2
      exact ⟨q1, f.rt _ _ _ _ p q2.ext hv⟩
  · rcases p with ⟨ρ1, e, _⟩ | ⟨_, e, _⟩ <;> cases e
  · rcases p with ⟨ρ1, e, _⟩ | ⟨_, e, _⟩ <;> cases e
  · rcases p with ⟨ρ1, e, _⟩ | ⟨_, e, _⟩ <;> cases e
  · refine ⟨_, h1, l, od, es, rfl, upd_same, z _ _ _ (hlen ▸ walk_keysT) (fun G2 H2 e => e.atF hGl rfl upd_same) fun i G2 H2 x H3 hlt e hy => ?_⟩
    obtain ⟨rfl, k, v, q, y1, rfl, y2⟩ := hy
    have hk' : k = kss.getD i [] := by
      have e1 := congrArg (fun m : List (List Key) => m[i]?) (h6.keys.trans hk)
      rw [List.getElem?_map, y1, List.getElem?_eq_getElem hlt] at e1
      injection e1 with e1
      rw [List.getD_eq_getElem?_getD, List.getElem?_eq_getElem hlt]
      exact e1
    refine ⟨_, Ext.tups e.gh, .tup (SqT.of (tupG_tup e.gh y2)) ?_⟩
    rw [hk']
    exact dq_keys _
  · obtain ⟨ρ2, ts, a, b⟩ := hs i ρ1 hi p
    refine ⟨ρ2, ts, a, b.mono fun o z => ?_⟩
    cases o with
    | nx _ => exact z
    | ct _ => exact z
    | bk _ => obtain ⟨_, e, _⟩ := z; cases e
    | rt _ => exact .inr z
    | ex _ _ => obtain ⟨_, e, _⟩ := z; cases e
end
end DL

set_option maxHeartbeats 1000000
/-! DL27: d.values() of a dict whose keys are tuples. -/
namespace DL
open PySem PySem.Spec PyProof.Rows L2
section
variable {X : Cx} {pins : List (Addr × Obj)} {σ : L2.St} {H : Hp} {s : Shared} {d : Addr} {o : Obj}
theorem frzTV {kvs : List (List Key × V)} (I : Inv X pins σ H s) (h : H d = some (.frz o (.dT kvs))) :
    (d == sysModules) = false ∧ s.heap.get? d = some o ∧ o.ExactDict ∧ ∃ (es : Array DictEntry) (ep : Nat), o.data = .dict es ep ∧ es.size = kvs.length ∧
      ∀ (i : Nat) (k : List Key) (v : V), kvs[i]? = some (k, v) → ∃ (en : DictEntry), es[i]? = some en ∧ RelV v en.val := by
  obtain ⟨hd, z, hs, xs, pr, o', es, ep, ho, hx, hdt, he, _⟩ := I.hok d _ h
  rw [hd] at ho
  cases ho
  refine ⟨hs, hd, hx, es, ep, hdt, ?_, fun i k v e => ?_⟩
  · have l1 : es.size = xs.length := size_of_entries he
    have l2 : kvs.length = xs.length := Paired.length pr
    omega
  · obtain ⟨b, hb, e1, e2, e3⟩ := paired_get pr e
    have q := entry_at he i
    rw [hb] at q
    exact ⟨_, q, e3⟩
end
def ItdT (d : Addr) (o : Obj) (kvs : List (List Key × V)) : It :=
  ⟨fun i H => H d = some (.frz o (.dT kvs)) ∧ i < kvs.length, fun i H x H' => H' = H ∧ ∃ k, kvs[i]? = some (k, x), fun i H => H d = some (.frz o (.dT kvs)) ∧ kvs.length ≤ i⟩
section
variable {P : Program} {w : World} {K : PySem.W.Frag} {tg : Expr} {d : Addr} {o : Obj} {es : Array DictEntry} {ep : Nat}
theorem turn_valsT {kvs : List (List Key × V)} (it : Addr) (hod : o.data = .dict es ep) : Turn P w K tg (ItdT d o kvs) [it] it (fun i h => h.IsValIter it d i kvs.length ep) where
  mem := by simp
  obj := fun i h st b hb => by
    have e : b = it := by simpa using hb
    subst e
    obtain ⟨oi, e, c, dd⟩ := st
    exact ⟨oi, e, fun v z => by rw [dd] at z; cases z⟩
  keep := fun i h h' st k => st.at fun oi e => k it (by simp) oi e
  item := by
    intro X hP hw hK hc i pins s σ H E I hf st hg
    subst hP hw hK
    obtain ⟨hd, hi⟩ := hg
    obtain ⟨f0, f1, f2, f3, f4, f5⟩ := hf it (by simp)
    obtain ⟨hs, hgd, hx, es', ep', hdt, hsz, ent⟩ := frzTV I hd
    obtain ⟨rfl, rfl⟩ := dict_ep hod hdt
    obtain ⟨⟨k, v⟩, hkv⟩ : ∃ p, kvs[i]? = some p := ⟨kvs[i], List.getElem?_eq_getElem hi⟩
    obtain ⟨en, hen, ru⟩ := ent i k v hkv
    rw [← hsz] at st
    have hi' : i < es'.size := by omega
    have hee : es'[i] = en := by
      rw [Array.getElem?_eq_getElem hi'] at hen
      injection hen
    refine wpAny_pyNext_values_item_raw st ⟨o, hgd, hx, hdt⟩ hi' fun h' st' sb => ?_
    rw [hee]
    have I1 : Inv X pins σ H { s with heap := h' } := I.turned (t' := s.toks) (fun b ob hb e => (sb.2 b hb).trans e) f0 f1 f3 f4 f5
    obtain ⟨oi, e, c, dd⟩ := id st'
    refine ⟨en.val, rfl, go_of (s := { s with heap := h' }) e c dd (by decide) ⟨v, H, I1, ru, ⟨rfl, k, hkv⟩, ?_, fun b hb => (hf b hb).1⟩⟩
    show h'.IsValIter it d (i + 1) kvs.length _
    rw [← hsz]
    exact st'
  done := by
    intro X hP hw hK hc i pins s σ H E I hf st hg
    subst hP hw hK
    obtain ⟨hd, hi⟩ := hg
    obtain ⟨f0, f1, f2, f3, f4, f5⟩ := hf it (by simp)
    obtain ⟨hs, hgd, hx, es', ep', hdt, hsz, ent⟩ := frzTV I hd
    obtain ⟨rfl, rfl⟩ := dict_ep hod hdt
    rw [← hsz] at st
    exact wpAny_pyNext_values_end_raw (I.ok.hd hc) st ⟨o, hgd, hx, hdt⟩ (by omega) fun h' eb => ⟨rfl, I.turned (t' := s.toks) (fun b ob hb e => eb b ob hb e) f0 f1 f3 f4 f5⟩
  self := fun A i s Q E st h => wpAny_pyIter_valiter st h
end
def iValsT (td : TE) : TI := fun σ H R => td σ H fun x H1 => ∃ d o kvs, x = .ref d ∧ H1 d = some (.frz o (.dT kvs)) ∧ R (ItdT d o kvs) H1
section
variable {X : Cx} {tg e : Expr} {td : TE} {apos cpos : Pos}
theorem pi_valuesT (he : PE X e td) (hbase : attributeBase e "values" X.env (eval e X.env) = eval e X.env := by rfl) (hline : (apos.endLine == cpos.line) = true := by rfl) : PI X tg (.Call (.Attribute e "values" apos) [] [] cpos) (iValsT td) := by
  refine ⟨fun pins s σ H R I h => ?_⟩
  refine wpAny_Call_method (T := "dict") (id := "dict.values") hbase rfl hline F.plainAttrs_dict F.slot_dict_values F.type_dict_values (thn (he.run pins s σ H _ I h) fun u s1 ⟨x, H1, I1, rx, d, o, kvs, ex, hd, q⟩ => ?_)
  subst ex
  obtain rfl : u = Value.ref d := rx
  obtain ⟨hs, hgd, hx, es, ep, hdt, hsz, ent⟩ := frzTV I1 hd
  have raw : s1.heap.DictRaw d es ep := ⟨o, hgd, hx, hdt⟩
  refine ⟨raw.typeIs, ?_, ?_⟩
  · intro b e
    cases e
    exact ⟨o, hgd, hx.2.1⟩
  have I2 : Inv X pins σ H1 { s1 with heap := s1.heap.push { cls := .type "dict_values", data := .fields #[.ref d] } } := I1.kept (t' := s1.toks) fun b ob q => Heap.get?_push_of_some _ q
  have fin : wpAny (model X.prog X.w) X.A (pyIter (.ref s1.heap.objs.size)) (PIE X pins σ tg R) X.xe { s1 with heap := s1.heap.push { cls := .type "dict_values", data := .fields #[.ref d] } } := by
    refine wpAny_pyIter_values_raw (d := d) (es := es) (ep := ep) ⟨_, Heap.get?_push_size _ rfl, rfl, rfl⟩ ⟨o, Heap.get?_push_of_some _ hgd, hx, hdt⟩ (pi_one (tk := s1.toks) I2 _ (turn_valsT _ hdt) ⟨_, Heap.get?_push_size _ rfl, rfl, ?_⟩ q)
    rw [hsz] <;> rfl
  show wpAny _ _ (callWith cpos (.builtin "dict.values") [.ref d] [] []) _ X.xe s1
  exact method_meetsIn F.slot_dict_values F.entry_dict_values rfl (PySem.evalArgs_none ⟨rfl, raw.typeIs, F.args_dict_values_1 _, _, meets_dict_values_raw d hs, ⟨es, ep, raw⟩, fin⟩)
end
theorem walk_valuesT {d : Addr} {o : Obj} {kvs : List (List Key × V)} : Walk (ItdT d o kvs) kvs.length (fun H => H d = some (.frz o (.dT kvs))) (fun i H x H' => H' = H ∧ ∃ k, kvs[i]? = some (k, x)) :=
  ⟨fun _ _ hi q => ⟨q, hi⟩, fun _ q => ⟨q, Nat.le_refl _⟩, fun _ _ _ _ _ _ y => y⟩
end DL

set_option maxHeartbeats 1000000
/-! DL28: return any([.. for x in d.values()]). -/
namespace DL
open PySem PySem.Spec PyProof.Rows L2
section
variable {K : PySem.W.Frag} {ρ : List Sl} {Ex : XK} {ta tb te : TE} {tt : TT} {t u : TS} {d : D} {P : Oc → Prop}
theorem en_lc0 {G0 H0 G H : Hp} {σ : L2.St} {wi : TI} {g : TG} {vs : List Nat} {n : Nat} {item : Nat → D} {b : Nat → Bool} {f : Nat → D} (E : En K G0 H0 G H σ ρ) (hi : EIp K wi σ G H n item) (hn : n ≤ 16000000)
    (hs : ∀ i, i < n → ∃ ρ2 ts, GT K g (wipeS ρ vs) (item i) ρ2 ts ∧ (∀ t ∈ ts, t ∈ vs) ∧ ET K tt ρ2 (b i) ∧ (b i = true → EV K te ρ2 (f i)))
    {Q : VK} (q : ∀ l vl G' H', Ext G H G' H' → H l = none → G' l = none → H' l = some (.lst vl) → DqA K G' vl (lcD n b f) → Q (.ref l) H') :
    tLc wi g tt te vs σ H Q :=
  hi _ fun J G1 H1 Gd Y x w hG hY Dl hD => by
    have E1 := E.go x
    have hH : H Dl = none := by
      exact x.gone hD
    have hG1 : G1 Dl = none := x.gh.none hD
    refine lc_it w (fun i H' => ∃ G' vl, Ext G1 H1 G' H' ∧ G' Dl = none ∧ H' Dl = some (.lst vl) ∧ DqA K G' vl (lcD i b f)) ⟨G1, [], .fresh x.gh hD, hG1, upd_same, .nil⟩ (fun i H' _ ⟨G', vl, e, _⟩ => hG G' H' e) (fun i y H' H3 hlt ⟨G', vl, e, n1, h1, r1⟩ hy => ?_)
      (fun H' ⟨G', vl, e, n1, h1, r1⟩ => q Dl vl G' H' (x.trans e) hH n1 h1 r1)
    obtain ⟨G3, x3, hdq⟩ := hY i G' H' y H3 hlt e hy
    obtain ⟨ρ2, ts, hg, hts, ht, he⟩ := hs i hlt
    have E3 : En K G0 H0 G3 H3 (L2.wipe σ vs) (wipeS ρ vs) := ((E1.go e).go x3).wipe vs
    have n3 : G3 Dl = none := x3.own _ _ h1 rfl n1
    refine hg G0 H0 G3 H3 _ y _ E3 hdq fun σ2 E2 hl hk => ⟨wipe_eq (by rw [hl, wipe_length]) hk hts, ?_⟩
    refine ht G0 H0 G3 H3 σ2 _ E2 fun G4 H4 x4 => ?_
    have h4 : H4 Dl = some (.lst vl) := x4.at n3 (x3.at n1 h1)
    have n4 : G4 Dl = none := x4.own _ _ (x3.at n1 h1) rfl n3
    have r4 : DqA K G4 vl (lcD i b f) := (r1.mono x3.g).mono x4.g
    have e4 : Ext G1 H1 G4 H4 := (e.trans x3).trans x4
    cases hb : b i with
    | false =>
      rw [if_neg Bool.false_ne_true]
      refine ⟨G4, vl, e4, n4, h4, ?_⟩
      unfold lcD
      rw [if_neg (by rw [hb]; exact Bool.false_ne_true)]
      exact r4
    | true =>
      rw [if_pos rfl]
      refine he hb G0 H0 G4 H4 σ2 _ (E2.go x4) fun u G5 H5 x5 hu => ?_
      have h5 := x5.at n4 h4
      have n5 := x5.own _ _ h4 rfl n4
      have hlen := lcD_len b f i
      have hl2 := r4.length
      refine ⟨vl, h5, by rw [hl2, sizeLine_eq]; omega, G5, vl ++ [u], ?_, n5, upd_same, ?_⟩
      · have e5 := e4.trans x5
        refine ⟨e5.gg, fun a o ha => ?_, fun a o ha => ?_, e5.own⟩
        · rw [upd_ne (ne_of_none ha hD)]; exact e5.hh a o ha
        · have ne : a ≠ Dl := ne_of_none ha n5
          exact (e5.gh a o ha).eq (upd_ne ne)
      · have hb' : lcD (i + 1) b f = lcD i b f ++ [f i] := by
          unfold lcD
          rw [if_pos hb]
          cases i <;> rfl
        rw [hb']
        exact (r4.mono x5.g).append (.one hu)
theorem lcD_bools (n : Nat) (b : Nat → Bool) : lcD n (fun _ => true) (fun i => .bool (b i)) = ((List.range n).map b).map PyData.bool := by
  induction n with
  | zero => rfl
  | succ n ih =>
    unfold lcD
    rw [if_pos rfl, ih, List.range_succ, List.map_append, List.map_append]
    rfl
/-- return any([b for x in d.values()]), d own -/
theorem st_retAny {n : Nat} {ps : List ((Int × Int) × Int)} {g : TG} {vs : List Nat} {b : Nat → Bool} (hi : ρ[n]? = some (.ow (dtD (cK ps)))) (hl : ps.length ≤ 16000000)
    (hs : ∀ i, i < ps.length → ∃ ρ2 ts, GT K g (wipeS (ρ.set n (.fr (dtD (cK ps)))) vs) (.int (ps.getD i ((0, 0), 0)).2) ρ2 ts ∧ (∀ t ∈ ts, t ∈ vs) ∧ EV K te ρ2 (.bool (b i)))
    (q : P (.rt (.bool (((List.range ps.length).map b).any id)))) : ST K Ex (tRet (tCB (rAny K) (tCons (tLockE (tLc (iValsT (tVar n)) g tYes te vs)) tNil))) ρ P := fun G0 H0 G H σ D E f => by
  obtain ⟨l, h1, h2, h3, h4⟩ := E.ow n _ hi
  obtain ⟨es, h5, h6⟩ := own_dt h4
  have E1 := E.frzAs (o := .dT es) (d' := dtD (cK ps)) hi h1 (.of h5) fun gg => .dT (.inl upd_same) (h6.mono (Sub.of gg)).t
  have h7 : DqV K (upd G l (.dT es)) es (cK ps) := h6.mono (Sub.of fun a o z => (by rw [upd_ne (ne_of_none z h3)]; exact z))
  generalize hG' : upd G l (.dT es) = G' at E1 h7
  have hGl : G' l = some (.dT es) := by rw [← hG']; exact upd_same
  refine ⟨l, .dT es, h5, trivial, fun od => ?_⟩
  have EL := E1.lockA (od := od) h2 hGl rfl rfl
  have hlen : es.length = ps.length := by
    rw [h7.length]
    unfold cK
    rw [List.length_map]
  refine en_lc0 (n := ps.length) (item := fun i => .int (ps.getD i ((0, 0), 0)).2) (b := fun _ => true) (f := fun i => .bool (b i)) EL (fun R z => ?_) hl (fun i hi => ?_) fun Dl vl G2 H2 x hD hn hv hr => ?_
  · refine ⟨_, h1, l, od, es, rfl, upd_same, z (ItdT l od es) G' _ _ _ (.refl EL.gh) (hlen ▸ walk_valuesT) (fun G2 H2 e => e.atF hGl rfl upd_same) fun i G2 H2 y H3 hlt e hy => ?_⟩
    obtain ⟨rfl, k, y1⟩ := hy
    obtain ⟨k', v', b1, b2, b3⟩ := h7.at (z := ([], PyData.none)) (i := i) (by unfold cK; rw [List.length_map]; exact hlt)
    rw [y1] at b1
    injection b1 with b1
    injection b1 with b0 b1
    subst b1
    have e2 : ((cK ps).getD i ([], PyData.none)).2 = .int (ps.getD i ((0, 0), 0)).2 := by
      unfold cK
      rw [List.getD_eq_getElem?_getD, List.getD_eq_getElem?_getD, List.getElem?_map, List.getElem?_eq_getElem hlt]
      rfl
    rw [e2] at b3
    exact ⟨_, .refl e.gh, b3.mono (Sub.of e.gg)⟩
  · obtain ⟨ρ2, ts, a1, a2, a3⟩ := hs i hi
    exact ⟨ρ2, ts, a1, a2, et_yes, fun _ => a3⟩
  · have E2 : En K G' (upd H0 l (.frz od (.dT es))) G2 H2 [] [] := ⟨rfl, EL.ext.trans x, (fun i d h => nomatch h), (fun i d h => nomatch h), (fun i a dd fl h => nomatch h), (fun i j d e l h => nomatch h), (fun i kls h => nomatch h), (fun i j x y h => nomatch h)⟩
    obtain ⟨q1, q2⟩ := E1.unlock h2 hGl rfl rfl E2
    refine ⟨q1, ?_⟩
    rw [lcD_bools] at hr
    have hb := bools_dq hr
    subst hb
    have ne : Dl ≠ l := fun z => by
      rw [z, x.gg _ _ hGl] at hn
      cases hn
    exact ⟨Dl, (List.range ps.length).map b, rfl, SqL.of ((upd_ne ne).trans hv), f.rt _ _ G2 _ q q2.ext (.bl _)⟩
end
end DL

set_option maxHeartbeats 1000000
/-! DL29: a < b < c < d. -/
namespace DL
open PySem PySem.Spec PyProof.Rows L2
def tChain3 (r r' r2 : R2) (ta tb tc td : TE) : TE := fun σ H Q => ta σ H fun x H1 => tb σ H1 fun y H2 => r x y H2 fun z H3 => ∃ k, z = .bl k ∧
  (if k = true then tc σ H3 fun w' H4 => r' y w' H4 fun z2 H5 => ∃ k2, z2 = .bl k2 ∧ (if k2 = true then td σ H5 fun w2 H6 => r2 w' w2 H6 Q else Q (.bl false) H5) else Q (.bl false) H3)
section
variable {X : Cx} {a b c d : Expr} {ta tb tc td : TE} {pos : Pos}
theorem pe_chain3 {op op' op2 : CmpOp} {r r' r2 : R2} (ho : OpR X (compareOp op) r) (ho' : OpR X (compareOp op') r') (ho2 : OpR X (compareOp op2) r2) (ha : PE X a ta) (hb : PE X b tb) (hc : PE X c tc) (hd : PE X d td)
    (hm : lastMarks [op, op', op2] [b, c, d] = false := by with_unfolding_all rfl) : PE X (.Compare a [op, op', op2] [b, c, d] pos) (tChain3 r r' r2 ta tb tc td) := by
  refine ⟨fun pins s σ H Q I h => ?_⟩
  refine Compare_chain (thn (ha.run pins s σ H _ I h) fun v s1 ⟨x, H1, I1, r1, q1⟩ => chain_link (thn (hb.run pins s1 σ H1 _ I1 q1) fun u s2 ⟨y, H2, I2, r2, q2⟩ =>
    thn (ho pins s2 σ H2 x y v u _ I2 r1 r2 q2) fun d s3 ⟨z, H3, I3, r3, k, e, q3⟩ => ?_)) hm
  subst e
  cases r3
  refine wpAny_truthy_bool ?_
  cases k with
  | false => exact ite_ff ⟨.bl false, H3, I3, rfl, q3⟩
  | true =>
    refine ite_tt (chain_link (thn (hc.run pins s3 σ H3 _ I3 q3) fun w' s4 ⟨z', H4, I4, r4, q4⟩ => thn (ho' pins s4 σ H4 y z' u w' _ I4 r2 r4 q4) fun d2 s5 ⟨z5, H5, I5, r5, k2, e2, q5⟩ => ?_))
    subst e2
    cases r5
    refine wpAny_truthy_bool ?_
    cases k2 with
    | false => exact ite_ff ⟨.bl false, H5, I5, rfl, q5⟩
    | true => exact ite_tt (chain_last (thn (hd.run pins s5 σ H5 _ I5 q5) fun w2 s6 ⟨z6, H6, I6, r6, q6⟩ => ho2 pins s6 σ H6 z' z6 w' w2 Q I6 r4 r6 q6))
end
section
variable {K : PySem.W.Frag} {ρ : List Sl} {ta tb tc td : TE}
theorem ev_chain3 {r r' r2 : R2} {d1 d2 d3 d4 : D} {b1 b2 b3 : Bool} (ha : EV K ta ρ d1) (hb : EV K tb ρ d2) (ho : OD K r d1 d2 (.bool b1)) (hc : b1 = true → EV K tc ρ d3) (ho' : b1 = true → OD K r' d2 d3 (.bool b2)) (hd : b1 = true → b2 = true → EV K td ρ d4) (ho2 : b1 = true → b2 = true → OD K r2 d3 d4 (.bool b3)) : EV K (tChain3 r r' r2 ta tb tc td) ρ (.bool (b1 && (b2 && b3))) := fun G0 H0 G H σ Q E q =>
  ha G0 H0 G H σ _ E fun x G1 H1 e1 h1 => hb G0 H0 G1 H1 σ _ (E.go e1) fun y G2 H2 e2 h2 => ho x y G2 H2 _ e2.gh (h1.mono e2.g) h2 fun v G3 H3 e3 h3 => by
    cases h3
    refine ⟨b1, rfl, ?_⟩
    have E3 := ((E.go e1).go e2).go e3
    cases b1 with
    | false =>
      rw [if_neg Bool.false_ne_true]
      exact q _ _ _ ((e1.trans e2).trans e3) (.bl _)
    | true =>
      rw [if_pos rfl]
      refine hc rfl G0 H0 G3 H3 σ _ E3 fun w G4 H4 e4 h4 => ho' rfl y w G4 H4 _ e4.gh ((h2.mono e3.g).mono e4.g) h4 fun v2 G5 H5 e5 h5 => ?_
      cases h5
      refine ⟨b2, rfl, ?_⟩
      cases b2 with
      | false =>
        rw [if_neg Bool.false_ne_true]
        exact q _ _ _ ((((e1.trans e2).trans e3).trans e4).trans e5) (.bl _)
      | true =>
        rw [if_pos rfl]
        refine hd rfl rfl G0 H0 G5 H5 σ _ ((E3.go e4).go e5) fun w2 G6 H6 e6 h6 => ho2 rfl rfl w w2 G6 H6 _ e6.gh ((h4.mono e5.g).mono e6.g) h6 fun v3 G7 H7 e7 h7 => ?_
        exact q _ _ _ ((((((e1.trans e2).trans e3).trans e4).trans e5).trans e6).trans e7) h7
end
end DL

set_option maxHeartbeats 1000000
/-! DL30: a def that is lent two lists of ints and puts more into them. -/
namespace DL
open PySem PySem.Spec PyProof.Rows L2
theorem rw_inv {K : PySem.W.Frag} {G : Hp} {v : V} {l : Addr} (h : Dq K G v (rwD l)) : v = .ref l := by
  replace h : Dq K G v (.dict [(.bool true, .int ((l : Nat) : Int))]) := h
  generalize e : [(PyData.bool true, PyData.int ((l : Nat) : Int))] = ls at h
  cases h with
  | dK a b =>
    cases b with
    | nil => cases e
    | cons a b =>
      injection e with e1 _
      injection e1 with e1 _
      exact (kD_bool e1.symm).elim
  | dT a b => injection e with e1 _; injection e1 with e1 _; cases e1
  | scr a => injection e with e1 _; injection e1 with e1 _; cases e1
  | sta a b => injection e with e1 _; injection e1 with _ e1; cases e1
  | opq a => injection e with e1 _; injection e1 with e1 _; cases e1
  | raw a =>
    injection e with e1 _
    injection e1 with _ e1
    injection e1 with e1
    have e1 := Int.ofNat.inj e1
    subst e1
    rfl
/-- as Ext, but for what stands at a, b -/
structure ExtL (G H G' H' : Hp) (a b : Addr) (ns ms : List Int) : Prop where
  gg : ∀ c o, G c = some o → G' c = some o
  hh : ∀ c o, c ≠ a → c ≠ b → H c = some o → H' c = some o ∨ mkd G c
  gh : GH G' H'
  own : ∀ c o, c ≠ a → c ≠ b → H c = some o → noTup o = true → G c = none → G' c = none
  ga : G' a = none
  gb : G' b = none
  la : H' a = some (.lst (ns.map V.int))
  lb : H' b = some (.lst (ms.map V.int))
theorem ExtL.of {G H G' H' : Hp} {a b : Addr} {ns ms : List Int} (x : Ext G H G' H') (ga : G a = none) (gb : G b = none) (la : H a = some (.lst (ns.map V.int))) (lb : H b = some (.lst (ms.map V.int))) : ExtL G H G' H' a b ns ms :=
  ⟨x.gg, fun c o _ _ => x.hh c o, x.gh, fun c o _ _ => x.own c o, x.own a _ la rfl ga, x.own b _ lb rfl gb, x.at ga la, x.at gb lb⟩
def PM (K : PySem.W.Frag) (Pre : List D → List Int → List Int → Prop) (Post : List D → List Int → List Int → D → List Int → List Int → Prop) : Sp := fun vs H Q _ => ∃ G ds us a b ns ms, GH G H ∧ DqA K G us ds ∧ vs = us ++ [.ref a, .ref b] ∧ H a = some (.lst (ns.map V.int)) ∧ H b = some (.lst (ms.map V.int)) ∧ a ≠ b ∧ G a = none ∧ G b = none ∧ Pre ds ns ms ∧
  ∀ d v G' H' ns' ms', Post ds ns ms d ns' ms' → ExtL G H G' H' a b ns' ms' → Dq K G' v d → Q v H'
section
variable (K : PySem.W.Frag)
/-- a body that is lent the lists at a and b -/
def STM (t : TS) (ρ : List Sl) (a b : Addr) (ns ms : List Int) (Post : D → List Int → List Int → Prop) : Prop := ∀ (G0 H0 G H : Hp) (σ : L2.St) (Dn : Ends), En K G0 H0 G H σ ρ → a ≠ b → H0 a = some (.lst (ns.map V.int)) → H0 b = some (.lst (ms.map V.int)) → G0 a = none → G0 b = none →
  (∀ d v G' H' ns' ms', Post d ns' ms' → ExtL G0 H0 G' H' a b ns' ms' → Dq K G' v d → Dn.rt v H') → t Dn σ H
def ETM (tt : TT) (ρ : List Sl) (a b : Addr) (ns ms : List Int) (k : Bool) : Prop := ∀ (G0 H0 G H : Hp) (σ : L2.St) (Q : Bool → Hp → Prop), En K G0 H0 G H σ ρ → H0 a = some (.lst (ns.map V.int)) → H0 b = some (.lst (ms.map V.int)) → G0 a = none → G0 b = none →
  (∀ G' H', Ext G H G' H' → Q k H') → tt σ H Q
end
section
variable {K : PySem.W.Frag} {ρ : List Sl} {Ex : XK} {ta tb te : TE} {tt tu : TT} {t u : TS} {d : D} {P : Oc → Prop} {a b : Addr} {ns ms : List Int} {Post : D → List Int → List Int → Prop}
theorem stm_st (h : ST K Ex t ρ (fun o => ∃ d, o = .rt d ∧ Post d ns ms)) : STM K t ρ a b ns ms Post := fun G0 H0 G H σ Dn E _ la lb ga gb q =>
  h G0 H0 G H σ _ E ⟨(fun _ _ _ _ ⟨_, e, _⟩ _ => nomatch e), (fun _ v G' H' ⟨d', e, p⟩ x hv => by cases e; exact q _ v G' H' ns ms p (.of x ga gb la lb) hv), (fun _ _ _ _ ⟨_, e, _⟩ _ => nomatch e), (fun _ _ _ _ ⟨_, e, _⟩ _ => nomatch e), (fun _ _ _ _ _ _ ⟨_, e, _⟩ => nomatch e)⟩
theorem stm_seq (h : ST K Ex t ρ (fun o => (∃ ρ', o = .nx ρ' ∧ STM K u ρ' a b ns ms Post) ∨ ∃ d, o = .rt d ∧ Post d ns ms)) : STM K (tSeq t u) ρ a b ns ms Post := fun G0 H0 G H σ Dn E ab la lb ga gb q =>
  h G0 H0 G H σ _ E ⟨(fun _ σ' G' H' p E' => by
      rcases p with ⟨ρ'', e, s⟩ | ⟨_, e, _⟩
      · cases e
        exact s G0 H0 G' H' σ' Dn E' ab la lb ga gb q
      · cases e), (fun _ v G' H' p x hv => by
      rcases p with ⟨_, e, _⟩ | ⟨d', e, p⟩
      · cases e
      · cases e
        exact q _ v G' H' ns ms p (.of x ga gb la lb) hv), (fun _ _ _ _ p _ => by rcases p with ⟨_, e, _⟩ | ⟨_, e, _⟩ <;> cases e), (fun _ _ _ _ p _ => by rcases p with ⟨_, e, _⟩ | ⟨_, e, _⟩ <;> cases e), (fun _ _ _ _ _ _ p => by rcases p with ⟨_, e, _⟩ | ⟨_, e, _⟩ <;> cases e)⟩
theorem etm_in {p : Nat} {i : Int} (h : EV K te ρ (.int i)) (hp : ρ[p]? = some (.fr (rwD a))) : ETM K (tTest (tOp (rInU K) te (tVar p))) ρ a b ns ms (decide (i ∈ ns)) := fun G0 H0 G H σ Q E la lb ga gb q =>
  h G0 H0 G H σ _ E fun v G1 H1 e1 h1 => by
    cases h1
    obtain ⟨w, x1, x2⟩ := (E.go e1).fr p _ hp
    have := rw_inv x2
    subst this
    have hl : H1 a = some (.lst (ns.map V.int)) := (E.ext.trans e1).at ga la
    refine ⟨_, x1, .inl ⟨a, _, rfl, .inl (SqL.of hl), rfl, by rw [List.all_map]; exact List.all_eq_true.mpr fun _ _ => rfl, _, rfl, ?_⟩⟩
    rw [inV_int]
    exact q G1 H1 e1
theorem etm_inB {p : Nat} {i : Int} (h : EV K te ρ (.int i)) (hp : ρ[p]? = some (.fr (rwD b))) : ETM K (tTest (tOp (rInU K) te (tVar p))) ρ a b ns ms (decide (i ∈ ms)) := fun G0 H0 G H σ Q E la lb ga gb q => etm_in (a := b) (b := a) (ns := ms) (ms := ns) h hp G0 H0 G H σ Q E lb la gb ga q
theorem etm_or {k1 k2 : Bool} (h1 : ETM K tt ρ a b ns ms k1) (h2 : ETM K tu ρ a b ns ms k2) : ETM K (tOr tt tu) ρ a b ns ms (k1 || k2) := fun G0 H0 G H σ Q E la lb ga gb q => h1 G0 H0 G H σ _ E la lb ga gb fun G1 H1 e1 => by
  cases k1 with
  | true => exact q G1 H1 e1
  | false => exact h2 G0 H0 G1 H1 σ Q (E.go e1) la lb ga gb fun G2 H2 e2 => q G2 H2 (e1.trans e2)
theorem stm_when {k : Bool} (h : ETM K tt ρ a b ns ms k) (h1 : k = true → STM K t ρ a b ns ms Post) (h2 : k = false → STM K u ρ a b ns ms Post) : STM K (tSeq (tIfS tt t tNext) u) ρ a b ns ms Post := fun G0 H0 G H σ Dn E ab la lb ga gb q =>
  h G0 H0 G H σ _ E la lb ga gb fun G1 H1 e1 => by
    cases k with
    | true => exact h1 rfl G0 H0 G1 H1 σ _ (E.go e1) ab la lb ga gb q
    | false => exact h2 rfl G0 H0 G1 H1 σ Dn (E.go e1) ab la lb ga gb q
/-- a thing that no slot knows is changed: a new start -/
theorem En.poke {G0 H0 G H : Hp} {σ : L2.St} (E : En K G0 H0 G H σ ρ) {c : Addr} {o0 o : HO} (h0 : H0 c = some o0) (hG : G c = none) : En K G (upd H0 c o) G (upd H c o) σ ρ := by
  have ne : ∀ x, H0 x = none → x ≠ c := fun x z e => by rw [e, h0] at z; cases z
  have gh : GH G (upd H c o) := fun x u r => (E.gh x u r).eq (upd_ne fun e => by rw [e, hG] at r; cases r)
  refine ⟨E.len, ⟨fun _ _ z => z, fun x o' e => ?_, gh, fun _ _ _ _ z => z⟩, E.fr, fun j e q => ?_, E.ex, E.dis, fun j kls q => ?_, E.ned⟩
  · by_cases hx : x = c
    · subst hx
      rw [upd_same] at e ⊢
      exact .inl e
    · rw [upd_ne hx] at e ⊢
      exact (E.ext.hh x o' e).imp id (mkd.mono E.ext.gg)
  · obtain ⟨l, a1, a2, a3, a4⟩ := E.ow j e q
    exact ⟨l, a1, by rw [upd_ne (ne l a2)]; exact a2, a3, a4.ext (Sub.refl G) (upd_ne (ne l a2))⟩
  · obtain ⟨l, as, a1, a2, a3⟩ := E.ne j kls q
    exact ⟨l, as, a1, a2.go (Sub.refl G) fun x hx => upd_ne (ne x (a3 x hx).1), fun x hx => ⟨by rw [upd_ne (ne x (a3 x hx).1)]; exact (a3 x hx).1, (a3 x hx).2⟩⟩
theorem ExtL.back {G0 H0 G H G' H' : Hp} {ns' ms' : List Int} {o : HO} {c : Addr} (x : Ext G0 H0 G H) (hc : c = a ∨ c = b) (y : ExtL G (upd H0 c o) G' H' a b ns' ms') : ExtL G0 H0 G' H' a b ns' ms' := by
  have nc : ∀ z, z ≠ a → z ≠ b → z ≠ c := fun z h1 h2 e => by rcases hc with h | h <;> rw [h] at e <;> contradiction
  refine ⟨fun z o h => y.gg z o (x.gg z o h), fun z o' h1 h2 h => ?_, y.gh, fun z o' h1 h2 h t n => ?_, y.ga, y.gb, y.la, y.lb⟩
  · exact (y.hh z o' h1 h2 (by rw [upd_ne (nc z h1 h2)]; exact h)).imp id (x.mark h)
  · exact y.own z o' h1 h2 (by rw [upd_ne (nc z h1 h2)]; exact h) t (x.own z o' h t n)
theorem stm_app {p : Nat} {i : Int} (h : EV K te ρ (.int i)) (hp : ρ[p]? = some (.fr (rwD a))) (hz : ns.length < 16000000) (q : STM K u ρ a b (ns ++ [i]) ms Post) :
    STM K (tSeq (tDrop (tBM K "list" rAppend (tVar p) (tCons te tNil))) u) ρ a b ns ms Post := fun G0 H0 G H σ Dn E ab la lb ga gb k => by
  obtain ⟨w, x1, x2⟩ := E.fr p _ hp
  have := rw_inv x2
  subst this
  refine ⟨_, x1, .inl ⟨rfl, _, SqL.of (E.ext.at ga la)⟩, h G0 H0 G H σ _ E fun v G1 H1 e1 h1 => ?_⟩
  cases h1
  have E1 := E.go e1
  have hl : H1 a = some (.lst (ns.map V.int)) := E1.ext.at ga la
  have ga1 : G1 a = none := E1.ext.own a _ la rfl ga
  have gb1 : G1 b = none := E1.ext.own b _ lb rfl gb
  refine ⟨a, _, _, rfl, rfl, hl, by rw [List.length_map, sizeLine_eq]; omega, ?_⟩
  rw [show ns.map V.int ++ [V.int i] = (ns ++ [i]).map V.int by rw [List.map_append]; rfl]
  exact q G1 _ G1 _ σ Dn (E1.poke la ga1) ab upd_same ((upd_ne ab.symm).trans lb) ga1 gb1 fun d v G' H' ns' ms' pp y hv => k d v G' H' ns' ms' pp (y.back E1.ext (.inl rfl)) hv
theorem ExtL.swap {G H G' H' : Hp} (y : ExtL G H G' H' a b ns ms) : ExtL G H G' H' b a ms ns := ⟨y.gg, fun c o h1 h2 => y.hh c o h2 h1, y.gh, fun c o h1 h2 => y.own c o h2 h1, y.gb, y.ga, y.lb, y.la⟩
theorem STM.swap (h : STM K t ρ b a ms ns fun d x y => Post d y x) : STM K t ρ a b ns ms Post := fun G0 H0 G H σ Dn E ab la lb ga gb q => h G0 H0 G H σ Dn E ab.symm lb la gb ga fun d v G' H' ns' ms' p y hv => q d v G' H' ms' ns' p y.swap hv
theorem stm_appB {p : Nat} {i : Int} (h : EV K te ρ (.int i)) (hp : ρ[p]? = some (.fr (rwD b))) (hz : ms.length < 16000000) (q : STM K u ρ a b ns (ms ++ [i]) Post) :
    STM K (tSeq (tDrop (tBM K "list" rAppend (tVar p) (tCons te tNil))) u) ρ a b ns ms Post := STM.swap (stm_app h hp hz (STM.swap q))
/-- the caller lends two own lists -/
theorem q_asgM {Pre : List D → List Int → List Int → Prop} {Po : List D → List Int → List Int → D → List Int → List Int → Prop} {Ey : XK} {p q i : Nat} {d0 d1 : D} (hp : ρ[p]? = some (.ow (.list (ns.map PyData.int)))) (hq : ρ[q]? = some (.ow (.list (ms.map PyData.int)))) (hpq : p ≠ q) (h0 : EV K ta ρ d0) (h1 : EV K tb ρ d1) (pre : Pre [d0, d1] ns ms)
    (k : ∀ d ns' ms', Po [d0, d1] ns ms d ns' ms' → ST K Ex u (((ρ.set p (.ow (.list (ns'.map PyData.int)))).set q (.ow (.list (ms'.map PyData.int)))).set i (.fr d)) P) :
    ST K Ex (tSeq (tAsg (tCall (PM K Pre Po) [] Ey (tCons ta (tCons tb (tCons (tVar p) (tCons (tVar q) tNil))))) (gName i)) u) ρ P :=
  st_seq fun G0 H0 G H σ D E f => h0 G0 H0 G H σ _ E fun v0 G1 H1 e1 g1 => h1 G0 H0 G1 H1 σ _ (E.go e1) fun v1 G2 H2 e2 g2 => by
    have E2 := (E.go e1).go e2
    obtain ⟨a, a1, a2, a3, a4⟩ := E2.ow p _ hp
    obtain ⟨b, b1, b2, b3, b4⟩ := E2.ow q _ hq
    have hab : a ≠ b := fun z => hpq (E2.dis p q _ _ a hp hq a1 (z ▸ b1))
    cases a4 with
    | @lst us _ a5 a6 =>
    cases b4 with
    | @lst ws _ b5 b6 =>
    have := ints_dq a6
    subst this
    have := ints_dq b6
    subst this
    refine ⟨_, a1, _, b1, ?_⟩
    show PM K Pre Po ([v0, v1, .ref a, .ref b] ++ []) H2 _ Ey
    rw [List.append_nil]
    refine ⟨G2, [d0, d1], [v0, v1], a, b, ns, ms, E2.gh, .cons (g1.mono e2.g) (.cons g2 .nil), rfl, a5, b5, hab, a3, b3, pre, fun d v G' H' ns' ms' pp x hv => ?_⟩
    have E3 := E2.write (o := .lst (ns'.map V.int)) (d' := .list (ns'.map PyData.int)) hp a1 (.lst upd_same (dq_ints ns'))
    have hq' : (ρ.set p (.ow (.list (ns'.map PyData.int))))[q]? = some (.ow (.list (ms.map PyData.int))) := by rw [List.getElem?_set_ne hpq]; exact hq
    have E4 := E3.write (o := .lst (ms'.map V.int)) (d' := .list (ms'.map PyData.int)) hq' b1 (.lst upd_same (dq_ints ms'))
    have X : Ext G2 (upd (upd H2 a (.lst (ns'.map V.int))) b (.lst (ms'.map V.int))) G' H' := by
      refine ⟨x.gg, fun c o e => ?_, x.gh, fun c o e t n => ?_⟩
      · by_cases hb : c = b
        · subst hb
          rw [upd_same] at e
          rw [← e]
          exact .inl x.lb
        · rw [upd_ne hb] at e
          by_cases ha : c = a
          · subst ha
            rw [upd_same] at e
            rw [← e]
            exact .inl x.la
          · rw [upd_ne ha] at e
            exact x.hh c o ha hb e
      · by_cases hb : c = b
        · subst hb; exact x.gb
        · rw [upd_ne hb] at e
          by_cases ha : c = a
          · subst ha; exact x.ga
          · rw [upd_ne ha] at e
            exact x.own c o ha hb e t n
    exact f.nx _ _ G' H' (k d ns' ms' pp) ((E4.go X).setF i hv)
end
section
variable {P : Program} {w : World} {K : PySem.W.Frag} {mg : Str → Option Value} {base : Heap}
theorem fn_pm {x qual : Str} {params : Arguments} {body : List Stmt} {scope : Scope} {f : Addr} {fd : FuncData} {N ps : List Str} {k : Nat} {Pre : List D → List Int → List Int → Prop} {Post : List D → List Int → List Int → D → List Int → List Int → Prop} (F : FunD K x qual params body scope [] [] f fd) (S : FnScope N ps scope)
    (len : ∀ ds ns ms, Pre ds ns ms → ds.length + 2 = ps.length)
    (hb : ∀ (cdv : Value) (A : Around) (outer : List PySem.Env) (s : Shared) (H : Hp) (E : XK), Room k (A.deeper (envOfC qual scope s.heap.objs.size f cdv)) →
      ∃ t, PSs (cxOf CX0 P w K mg base N qual scope f cdv A outer s H E) body t ∧ ∀ ds ns ms, Pre ds ns ms → ∀ a b, STM K t (start0 N.length (ds ++ [rwD a, rwD b])) a b ns ms (Post ds ns ms)) : FnOk P w K mg base CX0 (k + 1) f fd ps (PM K Pre Post) := by
  refine F.ok S (fun vs H Q E h => ?_) (fun cdv A outer s H vs Q E hr h => ?_)
  · obtain ⟨G, ds, us, a, b, ns, ms, g, ha, rfl, la, lb, ab, ga, gb, hR, q⟩ := h
    rw [List.length_append, ha.length]
    exact len ds ns ms hR
  · obtain ⟨t, h1, h2⟩ := hb cdv A outer s H E hr
    obtain ⟨G, ds, us, a, b, ns, ms, g, ha, rfl, la, lb, ab, ga, gb, hR, q⟩ := h
    exact ⟨t, h1, h2 ds ns ms hR a b G H G H _ _ (en_start g (ha.append (.cons (.raw a) (.cons (.raw b) .nil)))) ab la lb ga gb q⟩
end
end DL

set_option maxHeartbeats 2000000
/-! DL31: raising with a known context (L2N), parallel assignments within an except suite. -/
namespace DL
open PySem PySem.Spec PyProof.Rows L2

section
variable {prog : Program} {w : World} {A : Around} {E : Value → Shared → Prop} {s : Shared}
theorem next_tuple_end_hot {it t x1 : Addr} {i : Nat} {items} {Q : Option Value → Shared → Prop} (hot : HotX.HotAt A x1 s.heap) (hne1 : x1 ≠ it)
    (hit : IsTupIter s.heap it t i) (ht : IsTup s.heap t items) (hx : items[i]? = none)
    (hQ : ∀ h', Heap.ExtBut it s.heap h' → Q none { s with heap := h' }) : wpAny (model prog w) A (pyNext (.ref it)) Q E s := by
  obtain ⟨o, ho, hc, hd⟩ := id hit
  obtain ⟨ol, hol, _, nl, hdl⟩ := ht
  obtain ⟨hh, o1, vs1, h1, d1, c1⟩ := hot
  unfold pyNext
  refine wpAny_bind (wpAny_attempt (wpAny_callSpecial?_slot (name := Str.ofString "__next__") hit.typeIs slot_tupleiter_next
    (wpAny_call_entry slot_tupleiter_next hit.typeIs entry_tupleiter_next ?_ (args_tupleiter_next _))))
  show wpAny _ _ (field (.ref it) 0 >>= _) _ _ s
  refine wpAny_bind (wpAny_field ho hd (x := .ref t) rfl ?_)
  show wpAny _ _ (if (Value.ref t == Value.none) = true then _ else _) _ _ s
  rw [if_neg (show ¬ ((Value.ref t == Value.none) = true) from Bool.false_ne_true)]
  show wpAny _ _ (field (.ref it) 1 >>= _) _ _ s
  refine wpAny_bind (wpAny_field ho hd (x := .int i 0) rfl ?_)
  show wpAny _ _ (seqItems? (.ref t) >>= _) _ _ s
  refine wpAny_bind (wpAny_seqItems hol hdl ?_)
  simp only [Int.toNat_natCast, hx]
  refine wpAny_bind (wpAny_rule (wpAny_bind (wpAny_setField ho hd (by simp) ?_)))
  show wpAny _ _ (newExc (.type "StopIteration") [] >>= _) _ _ _
  refine wpAny_bind ?_
  simp only [newExc, newTuple]
  refine wpAny_bind (wpAny_newObj_type ?_ (by size_fits))
  refine wpAny_bind (m := firstArgMember _ _) (wpAny_of_eq (a := Value.none) (by first | rfl | (simp only [firstArgMember]; rfl)) ?_)
  refine wpAny_newObj_type ?_ (by size_fits)
  have g1 := (Heap.get?_update_other (h := s.heap) (Obj.mapFields (·.setIfInBounds 0 Value.none)) (a := it) (b := x1) ?_).trans h1
  · refine HotX.raiseNew_hot ⟨hh, o1, vs1, Heap.get?_push_of_some _ (Heap.get?_push_of_some _ g1), d1, c1⟩ (Nat.ne_of_lt (Heap.lt_size (Heap.get?_push_of_some _ g1))) (Heap.get?_push_size _ rfl) rfl (by first | (simp; done) | (simp; omega) | (simp only [Array.size_append]; simp; omega)) ?_
    refine wpAny_bind (wpAny_isInstance (T := "StopIteration") (b := true) ⟨_, Heap.get?_update_self _ (Heap.get?_push_size _ rfl) rfl, rfl⟩ isSubtype_stop ?_)
    refine wpAny_pure (hQ _ fun b o hb e => ?_)
    have e1 := (Heap.get?_update_other (h := s.heap) (Obj.mapFields (·.setIfInBounds 0 Value.none)) (a := it) (b := b) (Ne.symm hb)).trans e
    rw [Heap.get?_update_other _ _ (Nat.ne_of_gt (Heap.lt_size (Heap.get?_push_of_some _ e1)))]
    exact Heap.get?_push_of_some _ (Heap.get?_push_of_some _ e1)
  · exact Ne.symm hne1
theorem unpackItems_tuple_hot {t x1 : Addr} {items : Array Value} {Q : List Value → Shared → Prop} (hot : HotX.HotAt A x1 s.heap) (ht : IsTup s.heap t items)
    (hQ : ∀ h', Heap.ExtBut s.heap.objs.size s.heap h' → Q items.toList { s with heap := h' }) : wpAny (model prog w) A (unpackItems (.ref t) items.size none) Q E s := by
  have hlt : t ≠ s.heap.objs.size := by obtain ⟨o, ho, _⟩ := ht; exact Nat.ne_of_lt (Heap.lt_size ho)
  obtain ⟨hh, o1, vs1, h1, d1, c1⟩ := hot
  have hx1 : x1 ≠ s.heap.objs.size := Nat.ne_of_lt (Heap.lt_size h1)
  unfold unpackItems
  refine wpAny_bind ?_
  · unfold notIterableAtAll
    refine wpAny_bind (wpAny_specialOf ht.typeIs slot_tuple_iter.lookup ?_)
    refine wpAny_pure ?_
    simp only [Bool.false_eq_true, if_false]
    refine wpAny_bind (wpAny_holding (iter_tuple ht ?_))
    refine wpAny_bind (wpAny_holding (draw_tuple hlt items.size 0 _ _ ⟨_, Heap.get?_push_size _ rfl, rfl, rfl⟩ (ht.push _) (by omega) fun h₁ hit₁ hs₁ => ?_))
    have hall : List.take items.size (List.drop 0 items.toList) = items.toList := by
      rw [List.drop_zero]; exact List.take_of_length_le (by simp)
    rw [hall]
    rw [if_neg (by simp)]
    have ht₁ : IsTup h₁ t items := (ht.push _).extBut hs₁.extBut hlt
    have g1 : h₁.get? x1 = some o1 := hs₁.extBut x1 o1 hx1 (Heap.get?_push_of_some _ h1)
    refine wpAny_bind (wpAny_holding (next_tuple_end_hot ⟨hh, o1, vs1, g1, d1, c1⟩ hx1 hit₁ ht₁ (by simp) fun h₂ he₂ => ?_))
    simp only [Option.isSome_none, Bool.false_eq_true, if_false]
    refine wpAny_pure (hQ h₂ fun b o hb e => he₂ b o hb (hs₁.extBut b o hb (Heap.get?_push_of_some _ e)))
end

section
variable {X : Cx} {pos p : Pos}
theorem ps_parH {i j : Nat} {x y : Str} {a b : Expr} {ta : TA} {px py pt : Pos} {kt k2 pt2} (hc : L2H.HotC X) (hN : X.N.Nodup) (hi : X.N[i]? = some x) (hj : X.N[j]? = some y) (hij : i ≠ j)
    (hx : X.env.scope.names.lookup x = some .local) (hy : X.env.scope.names.lookup y = some .local) (ha : PA X [a, b] ta)
    (hw : swappedStores [.Tuple [.Name x px, .Name y py] kt pt] (.Tuple [a, b] k2 pt2) X.env = pure (some [x, y]))
    (hs : swapsWithSole [.Tuple [.Name x px, .Name y py] kt pt] (.Tuple [a, b] k2 pt2) pos.line X.env = pure false := by rfl) :
    PS X (.Assign [.Tuple [.Name x px, .Name y py] kt pt] (.Tuple [a, b] k2 pt2) pos) (tPar i j ta) := by
  refine ⟨fun pins s σ H D I h => ?_⟩
  rw [exec_Assign_arm]
  refine wpAny_bind (wpAny_standAt ?_)
  rw [hs]
  refine wpAny_bind (wpAny_pure ?_)
  rw [if_neg (by decide)]
  refine wpAny_bind (Tuple_ (thn (ha.run _ pins s σ H _ I h) fun us s1 ⟨vs, H1, I1, r1, q1⟩ => ?_))
  obtain ⟨v, w, e1, q1⟩ := q1
  subst e1
  obtain ⟨u1, u2, rfl, rv, rw'⟩ : ∃ u1 u2, us = [u1, u2] ∧ RelV v u1 ∧ RelV w u2 := by
    cases r1 with
    | cons p q =>
      cases q with
      | cons p' q' =>
        cases q'
        exact ⟨_, _, rfl, p, p'⟩
  refine wpAny_newObj_type ?_ (by show 2 ≤ sizeLine; decide)
  have I2 : Inv X pins σ H1 { s1 with heap := s1.heap.push { cls := .type "tuple", data := .seq [u1, u2].toArray } } := I1.kept (t' := s1.toks) fun b o e => Heap.get?_push_of_some _ e
  rw [hw]
  refine wpAny_bind (wpAny_pure ?_)
  show wpAny (model X.prog X.w) X.A (do rule "assign.swapped-stores"; let items ← unpackItems (.ref s1.heap.objs.size) 2 none; assignInOrder [fun v => bindName X.env y v, fun v => bindName X.env x v] items.reverse; pure Flow.next) _ _ _
  obtain ⟨x1, hot⟩ := hc.at I2
  refine wpAny_bind (wpAny_rule (wpAny_bind (unpackItems_tuple_hot (items := #[u1, u2]) hot (IsTup.new s1.heap _) fun h' hx' => ?_)))
  have I3 := I2.kept (h' := h') (t' := s1.toks) fun b o e => hx' b o (Nat.ne_of_lt (Heap.lt_size e)) e
  show wpAny _ _ (assignInOrder [fun v => bindName X.env y v, fun v => bindName X.env x v] [u2, u1] >>= fun _ => pure Flow.next) _ _ _
  refine wpAny_bind (assignInOrder_cons (wpAny_bindName (store_ok I3 hN hj (.inl hy) rw' (fun s2 I4 => ?_) (.inr hy))))
  refine assignInOrder_cons (wpAny_bindName (store_ok I4 hN hi (.inl hx) rv (fun s3 I5 => assignInOrder_nil (wpAny_pure ?_)) (.inr hx)))
  rw [List.set_comm _ _ (Ne.symm hij)] at I5
  exact ⟨_, H1, I5, q1⟩
/-- the suite's context bears the exception -/
theorem hot_suite {a : Addr} {oe : Obj} {cls : Value} {d : Option Addr} {pn : List (Addr × Obj)} (hz : L2N.Zn cls d oe) (hf : ∃ vs, oe.data = .fields vs) : L2H.HotC (X.suite a ((a, oe) :: pn)) := by
  obtain ⟨vs, hv⟩ := hf
  exact ⟨(a, oe), ⟨rfl, vs, hv, hz.2.2 vs hv⟩, List.mem_cons_self⟩
/-- C(e, ..), its context None -/
theorem pmk_oexN {X : Cx} {CX : CXT} {x : Str} {e : Expr} {es : List Expr} {ta : TA} {p pos : Pos} {C fI : Addr} {k : Nat} {fd : FuncData} {ps : List Str} {sp : Sp} (T : OexC X.K C) (iC : PySem.W.findIn X.K (.ref C) "__init__" = some (some (.ref fI))) (tI : PySem.W.typeIn X.K (.ref fI) = some (.type "function"))
    (F1 : FnOk X.prog X.w X.K X.mg X.base CX k fI fd ps sp) (hr : Room (k + 1) X.A) (hb : Binds X.K fd ps []) (hx : Passes CX X (fun _ _ _ => False)) (hg : Gl X x) (hm : X.mg x = some (.ref C)) (ha : PA X (e :: es) ta)
    (hdb : (x == ("__debug__" : Str)) = false := by decide) (he : starEach (e :: es) X.env = (false, eval e X.env) :: starEach es X.env := by rfl) (hpl : (backTo pos (starEach es X.env)).any (·.1) = false := by rfl) :
    L2N.PMk X (.Call (.Name x p) (e :: es) [] pos) (tMkO C sp [] ta) := by
  intro pins s σ H Q I h
  obtain ⟨nm, q, N, bs, bm, sn, sub, ab, col, dd, k0, k1, k2, k3, k5, hC, hbm⟩ := T.cls
  refine wpAny_Call_Name_kw (ld_glob I hg hm ?_ hdb)
  refine PySem.W.callWith_K (h₀ := X.base) I.ok.mod.kin T.kC (thn (ha.run pos pins s σ H _ I h) fun us s1 ⟨vs, H1, I1, r1, hz, q1⟩ => ⟨I1.kIn, ?_⟩) he hpl
  show wpAny _ _ (call (.ref C) us) _ _ _
  obtain ⟨hp, g, dr, tk, os⟩ := s1
  have hsz : hp.objs.size ≤ hp.objs.size + 1 := Nat.le_succ _
  have hn : H1 (hp.objs.size + 1) = none := I1.hok.fresh hsz
  have hq := q1 (hp.objs.size + 1) hn
  rw [List.append_nil] at hq
  have kk : ∀ b o, hp.get? b = some o → ((hp.push (PySem.W.kdv_tup us)).push (PySem.HandSPX.excO C hp.objs.size)).get? b = some o := fun b o e => Heap.get?_push_of_some _ (Heap.get?_push_of_some _ e)
  have hget : ((hp.push (PySem.W.kdv_tup us)).push (PySem.HandSPX.excO C hp.objs.size)).get? (hp.objs.size + 1) = some (PySem.HandSPX.excO C hp.objs.size) := by heap_get
  have I2 : Inv X pins σ (upd H1 (hp.objs.size + 1) (exo (hp.objs.size + 1) C none)) ⟨(hp.push (PySem.W.kdv_tup us)).push (PySem.HandSPX.excO C hp.objs.size), g, dr, tk, os⟩ :=
    I1.laid (t' := tk) (a := hp.objs.size + 1) (o := exo (hp.objs.size + 1) C none) (h' := (hp.push (PySem.W.kdv_tup us)).push (PySem.HandSPX.excO C hp.objs.size)) kk hsz (exo_ok hget)
  have r2 : Vals (V.ref (hp.objs.size + 1) :: vs) (Value.ref (hp.objs.size + 1) :: us) := .cons rfl r1
  have hl : (Value.ref (hp.objs.size + 1) :: us ++ []).length = ps.length := by
    have e := r2.length
    rw [F1.len _ _ _ _ hq] at e
    rw [List.append_nil]
    exact e.symm
  have hus : us.length ≤ sizeLine := by
    rw [← Paired.length r1, sizeLine_eq]
    omega
  have b2 := hb _ (Value.ref (hp.objs.size + 1) :: us) I2.kIn hl
  rw [List.append_nil] at b2
  refine wpAny_call (PySem.HandSPX.call_own F.excBase_ValueError (fun Y => PySem.HandSPX.refsVE_contains Y bm hbm) (I1.kIn _ _ hC) (PySem.W.looks_findIn I1.kIn iC) (fun self => PySem.W.bind_fn I1.kIn self tI) hus
    (codeAny_mono (F1.run _ X.stack _ _ ⟨Value.ref (hp.objs.size + 1) :: us, []⟩ (Value.ref (hp.objs.size + 1) :: us) _ _ (fun _ _ _ => False) (hr.make C us []) (I2.env0.make C us []) b2 r2 hq) fun r s' hq' => ?_))
  cases r with
  | error er => exact hx pins σ _ _ er s' I2 hq'
  | ok fl =>
    cases fl with
    | ret u =>
      obtain ⟨v, H2, os2, bare2, un2, hok2, rv, ev, d, fs, ea, ed, hd1, q2⟩ := hq'
      subst ev
      obtain ⟨h2, g2, d2, t2, os'⟩ := s'
      obtain ⟨t0, G, J, kG, ge, hoe, na⟩ := mk_end0 (d2 := d2) (t2 := t2) I1 hsz kk un2 hok2 os2 bare2 ea ed hd1
      refine ⟨rv, hp.objs.size + 1, _, _, ⟨G, g2, d2, t2, os'⟩, _, .ref C, some d, rfl, J, kG, ge, hoe, ⟨rfl, rfl, fun vs hv => ?_⟩, rfl, rfl, na, rfl, bare2, raises_own T.exC T.tyC, q2⟩
      cases hv
      rfl
    | next => exact False.elim hq'
    | brk => exact False.elim hq'
    | cont => exact False.elim hq'
theorem ps_raiseON {k j : Nat} {x : Str} {fls : List Str} {Ex : XK} {e : Expr} {es : List Expr} {t : TA} {pos2 : Pos} (O : ExOk X.prog X.w X.K X.mg X.base k x fls) (hr : Room j X.A) (hk : k + 1 ≤ j) (hc : X.calm = true) (tk : L2N.Takes X (fun cls d _ H => Ex cls d H)) (ha : PA X (e :: es) t) (hg : Gl X x := by rfl)
    (hdb : (x == ("__debug__" : Str)) = false := by decide) (he : starEach (e :: es) X.env = (false, eval e X.env) :: starEach es X.env := by rfl) (hpl : (backTo pos (starEach es X.env)).any (·.1) = false := by rfl) :
    PS X (.Raise (some (.Call (.Name x p) (e :: es) [] pos)) none pos2) (tRaiseO X.K (He.ga X.K x) fls Ex t) := by
  obtain ⟨m, ef, ⟨i1, i2⟩, fd, F, b⟩ := O
  exact L2N.ps_raise hc tk (pmk_oexN ef.oex i1 i2 F (hr.mono hk) b (fun _ _ _ _ _ _ _ h => h.elim) hg m ha hdb he hpl)
theorem pe_callDSN {k j : Nat} {x : Str} {ps : List Str} {sp : Sp} {e : Expr} {es : List Expr} {t : TA} {W : WX} (O : Okd X.prog X.w X.K X.mg X.base (L2N.CX X.prog X.w) k x ps sp) (hr : Room j X.A) (hk : k ≤ j) (tk : L2N.Takes X W) (ha : PA X (e :: es) t) (hg : Gl X x := by rfl)
    (hdb : (x == ("__debug__" : Str)) = false := by decide) (he : starEach (e :: es) X.env = (false, eval e X.env) :: starEach es X.env := by rfl) (hpl : (backTo pos (starEach es X.env)).any (·.1) = false := by rfl) :
    PE X (.Call (.Name x p) (e :: es) [] pos) (tCallS sp (WE W) t) := by
  obtain ⟨m, fd, F, b, kp⟩ := O
  exact pe_callS F (hr.mono hk) hg m kp b (fun σ => L2N.passAt tk σ) ha hdb he hpl
theorem takes0N {X : Cx} : L2N.Takes X (fun _ _ _ _ => False) := fun u s' ⟨a, B, sI, pins, σ, H, cls, d, e, I, nb, up, sky, na, os, ag, h⟩ => h.elim
end
section
variable {P : Program} {w : World} {K : PySem.W.Frag} {mg : Str → Option Value} {base : Heap}
/-- a def that may raise keeps its word, by its body's (any wish about exceptions) -/
theorem fn_pxC {CX : CXT} {x qual : Str} {params : Arguments} {body : List Stmt} {scope : Scope} {f : Addr} {fd : FuncData} {N ps : List Str} {k : Nat} {R : List D → D → Prop} {Y : List D → Addr → List (Str × D) → Prop} (F : FunD K x qual params body scope [] [] f fd) (S : FnScope N ps scope)
    (len : ∀ ds d, R ds d → ds.length = ps.length) (lenY : ∀ ds C fl, Y ds C fl → ds.length = ps.length)
    (hb : ∀ (cdv : Value) (A : Around) (outer : List PySem.Env) (s : Shared) (H : Hp) (E : XK), Room k (A.deeper (envOfC qual scope s.heap.objs.size f cdv)) →
      ∃ t, PSs (cxOf CX P w K mg base N qual scope f cdv A outer s H E) body t ∧ (∀ ds d, R ds d → DL.ST K E t (start0 N.length ds) (fun o => o = .rt d ∨ (d = .none ∧ ∃ ρ, o = .nx ρ))) ∧
        (∀ ds C fl, Y ds C fl → DL.ST K E t (start0 N.length ds) (fun o => o = .ex C fl))) : FnOk P w K mg base CX (k + 1) f fd ps (PX K R Y) := by
  refine F.ok S (fun vs H Q E h => ?_) (fun cdv A outer s H vs Q E hr h => ?_)
  · obtain ⟨G, ds, g, ha, h⟩ := h
    rcases h with ⟨d, hR, _⟩ | ⟨C, fl, hY, _⟩
    · exact ha.length.trans (len ds d hR)
    · exact ha.length.trans (lenY ds C fl hY)
  · obtain ⟨t, h1, h2, h3⟩ := hb cdv A outer s H E hr
    obtain ⟨G, ds, g, ha, h⟩ := h
    rcases h with ⟨d, hR, q⟩ | ⟨C, fl, hY, q⟩
    · refine ⟨t, h1, h2 ds d hR G H G H _ _ (en_start g ha) ⟨fun ρ' σ' G' H' p E' => ?_, fun d' v G' H' p x hv => ?_, fun ρ' σ' G' H' p E' => ?_, fun ρ' σ' G' H' p E' => ?_, fun C fl dd fs G' H' p => ?_⟩⟩
      · rcases p with p | ⟨rfl, _⟩
        · cases p
        · exact q _ G' H' E'.ext .non
      · rcases p with p | ⟨rfl, ρ, p⟩
        · cases p
          exact q v G' H' x hv
        · cases p
      · rcases p with p | ⟨_, _, p⟩ <;> cases p
      · rcases p with p | ⟨_, _, p⟩ <;> cases p
      · rcases p with p | ⟨_, _, p⟩ <;> cases p
    · exact ⟨t, h1, h3 ds C fl hY G H G H _ _ (en_start g ha) ⟨(fun _ _ _ _ p _ => nomatch p), (fun _ _ _ _ p _ => nomatch p), (fun _ _ _ _ p _ => nomatch p), (fun _ _ _ _ p _ => nomatch p), fun C' fl' dd fs G' H' p x h4 h5 => by
        cases p
        exact q dd fs G' H' x h4 h5⟩⟩
end
end DL

set_option maxHeartbeats 1000000
/-! DL32: lists and tuples of values that pass a test (AllP, LstP, OkP); parallel assignment by data. -/
namespace DL
open PySem PySem.Spec PyProof.Rows L2
def AllP (n : Nat) (p : D → Bool) : List D → Prop := fun ds => ds.length = n ∧ ds.all p = true
def LstP (n : Nat) (p : D → Bool) : D → Prop := fun d => ∃ ds, d = .list ds ∧ AllP n p ds
abbrev OkP (p : D → Bool) : D → Prop := fun d => p d = true
def IsI : D → Prop := fun d => ∃ i : Int, d = .int i
theorem AllP.app {n m : Nat} {p : D → Bool} {ds es : List D} (h : AllP n p ds) (k : AllP m p es) : AllP (n + m) p (ds ++ es) := ⟨by rw [List.length_append, h.1, k.1], by rw [List.all_append, h.2, k.2]; rfl⟩
theorem AllP.one {p : D → Bool} {d : D} (h : p d = true) : AllP 1 p [d] := ⟨rfl, by rw [List.all_cons, h]; rfl⟩
theorem strI_nat (k : Nat) : strI (k : Int) = ⟨((Nat.toDigits 10 k).map Char.toNat).toArray⟩ := by
  show Str.ofString (Nat.repr k) = _
  rw [Str.ofString_eq_toList]
  show Str.mk (((String.ofList (Nat.toDigits 10 k)).toList.map Char.toNat).toArray) = _
  rw [String.toList_ofList]
theorem strI_len {k n : Nat} (hn : 0 < n) (h : k < 10 ^ n) : (strI (k : Int)).length ≤ n := by
  rw [strI_nat]
  show ((Nat.toDigits 10 k).map Char.toNat).toArray.size ≤ n
  rw [List.size_toArray, List.length_map]
  exact (Nat.length_toDigits_le_iff (by decide) hn).mpr h
section
variable {K : PySem.W.Frag} {ρ : List Sl} {Ex : XK} {ta tb te : TE} {tr : TA} {t u : TS} {d d1 d2 : D} {P : Oc → Prop} {p q : D → Bool} {n m : Nat}
theorem eap_nil : EAX K tNil ρ (AllP 0 p) := eax_nil ⟨rfl, rfl⟩
theorem eap_cons (h : EVX K ta ρ (OkP p)) (hr : EAX K tr ρ (AllP n p)) : EAX K (tCons ta tr) ρ (AllP (n + 1) p) := eax_cons h hr fun d ds a b => ⟨by rw [List.length_cons, b.1], by rw [List.all_cons, b.2, show p d = true from a]; rfl⟩
theorem evp_tup (h : EAX K tr ρ (AllP n p)) (k : ∀ ds, ds.all p = true → ds.length ≤ 1000 → q (.tuple ds) = true) (hl : n ≤ 1000 := by decide) : EVX K (tTup tr) ρ (OkP q) := evx_tup h fun ds a => ⟨by rw [a.1, sizeLine_eq]; omega, k ds a.2 (by rw [a.1]; exact hl)⟩
theorem evnp_lst (h : EAX K tr ρ (AllP n p)) (hl : n ≤ 1000 := by decide) : EVNX K (tLst tr) ρ (LstP n p) := evnx_lst h fun ds a => ⟨by rw [a.1, sizeLine_eq]; omega, ds, rfl, a⟩
theorem evp_lst (h : EAX K tr ρ (AllP n p)) (k : ∀ ds, q (.list ds) = true) (hl : n ≤ 1000 := by decide) : EVX K (tLst tr) ρ (OkP q) := evx_N (evnx_lst h fun ds a => ⟨by rw [a.1, sizeLine_eq]; omega, k ds⟩)
theorem evp_i (h : EVX K te ρ IsI) (k : ∀ i, p (.int i) = true := by intro i; rfl) : EVX K te ρ (OkP p) := evx_mono h fun d ⟨i, e⟩ => e ▸ k i
theorem evi_var {i : Int} (hi : ρ[n]? = some (.fr (.int i))) : EVX K (tVar n) ρ IsI := evx_of (ev_var hi) ⟨i, rfl⟩
theorem evi_int {i : Int} : EVX K (tC (.int i)) ρ IsI := evx_of ev_int ⟨i, rfl⟩
theorem evi_add (h1 : EVX K ta ρ IsI) (h2 : EVX K tb ρ IsI) : EVX K (tOp (rAddU K) ta tb) ρ IsI := evx_op h1 h2 (by rintro a b ⟨i, rfl⟩ ⟨j, rfl⟩; exact ⟨_, od_addI, _, rfl⟩)
theorem evi_sub (h1 : EVX K ta ρ IsI) (h2 : EVX K tb ρ IsI) : EVX K (tOp rSubU ta tb) ρ IsI := evx_op h1 h2 (by rintro a b ⟨i, rfl⟩ ⟨j, rfl⟩; exact ⟨_, od_sub, _, rfl⟩)
theorem evi_neg {i : Int} : EVX K (tUn (rU fun i => .int (-i)) (tC (.int i))) ρ IsI := evx_of (ev_neg ev_int) ⟨_, rfl⟩
theorem evi_pow {i j : Int} (h : 0 ≤ j ∧ j ≤ 1000000 ∧ i.natAbs < 2 ^ 64 := by decide) : EVX K (tOp rPowU (tC (.int i)) (tC (.int j))) ρ IsI := evx_of (ev_op ev_int ev_int (od_pow h)) ⟨_, rfl⟩
theorem st_par {i j : Nat} (ha : EV K ta ρ d1) (hb : EV K tb ρ d2) (q : P (.nx ((ρ.set i (.fr d1)).set j (.fr d2)))) : ST K Ex (tPar i j (tCons ta (tCons tb tNil))) ρ P := fun G0 H0 G H σ D E f =>
  ha G0 H0 G H σ _ E fun v G1 H1 e1 h1 => hb G0 H0 G1 H1 σ _ (E.go e1) fun w G2 H2 e2 h2 => ⟨v, w, rfl, f.nx _ _ G2 H2 q ((((E.go e1).go e2).setF i (h1.mono e2.g)).setF j h2)⟩
theorem q_par {i j : Nat} (ha : EV K ta ρ d1) (hb : EV K tb ρ d2) (q : ST K Ex u ((ρ.set i (.fr d1)).set j (.fr d2)) P) : ST K Ex (tSeq (tPar i j (tCons ta (tCons tb tNil))) u) ρ P := st_seq (st_par ha hb q)
theorem st_parV {i j : Nat} {Pa Pb : D → Prop} (ha : EVX K ta ρ Pa) (hb : EVX K tb ρ Pb) (q : ∀ a b, Pa a → Pb b → P (.nx ((ρ.set i (.fr a)).set j (.fr b)))) : ST K Ex (tPar i j (tCons ta (tCons tb tNil))) ρ P := fun G0 H0 G H σ D E f =>
  ha G0 H0 G H σ _ E fun a v G1 H1 pa e1 h1 => hb G0 H0 G1 H1 σ _ (E.go e1) fun b w G2 H2 pb e2 h2 => ⟨v, w, rfl, f.nx _ _ G2 H2 (q a b pa pb) ((((E.go e1).go e2).setF i (h1.mono e2.g)).setF j h2)⟩
theorem q_parV {i j : Nat} {Pa Pb : D → Prop} (ha : EVX K ta ρ Pa) (hb : EVX K tb ρ Pb) (q : ∀ a b, Pa a → Pb b → ST K Ex u ((ρ.set i (.fr a)).set j (.fr b)) P) : ST K Ex (tSeq (tPar i j (tCons ta (tCons tb tNil))) u) ρ P := st_seq (st_parV ha hb q)
theorem st_augP {i : Nat} {ds : List D} (hi : ρ[i]? = some (.ow (.list ds))) (h : EVX K te ρ (LstP m p)) (hz : ds.length + m ≤ 16000000) (q : ∀ es, AllP m p es → P (.nx (ρ.set i (.ow (.list (ds ++ es)))))) : ST K Ex (tAug i te rIAddU) ρ P := fun G0 H0 G H σ D E f => by
  obtain ⟨l, vs, h1, h2, h3, h0⟩ := own_lookG E hi
  refine ⟨_, h1, h G0 H0 G H σ _ E fun dd y G1 H1 pd e1 hy => ?_⟩
  obtain ⟨es, rfl, al⟩ := pd
  cases hy with
  | @lst b xs _ hb hr =>
    have h4 := e1.at h0 h2
    have r4 := h3.mono e1.g
    refine .inr (.inr ⟨l, b, vs, xs, rfl, rfl, h4, e1.gh.lst hb, by rw [h3.length, hr.length, sizeLine_eq, al.1]; omega, ?_⟩)
    have E2 := (E.go e1).write hi h1 (.lst (upd_same (H := H1) (a := l) (o := .lst (vs ++ xs))) (r4.append hr))
    have E3 := f.nx _ σ G1 _ (q es al) E2
    have : σ.set i (some (V.ref l)) = σ := by
      refine List.ext_getElem? fun k => ?_
      by_cases e : i = k
      · subst e
        rw [List.getElem?_set_self (List.getElem?_eq_some_iff.mp h1).1, h1]
      · rw [List.getElem?_set_ne e]
    show D.nx (σ.set i (some (V.ref l))) _
    rw [this]
    exact E3
theorem q_augP {i : Nat} {ds : List D} (hi : ρ[i]? = some (.ow (.list ds))) (h : EVX K te ρ (LstP m p)) (hz : ds.length + m ≤ 16000000) (q : ∀ es, AllP m p es → ST K Ex u (ρ.set i (.ow (.list (ds ++ es)))) P) : ST K Ex (tSeq (tAug i te rIAddU) u) ρ P := st_seq (st_augP hi h hz q)
theorem st_augL {i : Nat} {ds : List D} {Pd : D → Prop} (hi : ρ[i]? = some (.ow (.list ds))) (h : EVX K te ρ Pd) (k : ∀ d, Pd d → ∃ es, d = .list es ∧ ds.length + es.length ≤ 16000000 ∧ P (.nx (ρ.set i (.ow (.list (ds ++ es)))))) : ST K Ex (tAug i te rIAddU) ρ P := fun G0 H0 G H σ D E f => by
  obtain ⟨l, vs, h1, h2, h3, h0⟩ := own_lookG E hi
  refine ⟨_, h1, h G0 H0 G H σ _ E fun dd y G1 H1 pd e1 hy => ?_⟩
  obtain ⟨es, rfl, hz, q⟩ := k dd pd
  cases hy with
  | @lst b xs _ hb hr =>
    have h4 := e1.at h0 h2
    have r4 := h3.mono e1.g
    refine .inr (.inr ⟨l, b, vs, xs, rfl, rfl, h4, e1.gh.lst hb, by rw [h3.length, hr.length, sizeLine_eq]; omega, ?_⟩)
    have E2 := (E.go e1).write hi h1 (.lst (upd_same (H := H1) (a := l) (o := .lst (vs ++ xs))) (r4.append hr))
    have E3 := f.nx _ σ G1 _ q E2
    have : σ.set i (some (V.ref l)) = σ := by
      refine List.ext_getElem? fun k => ?_
      by_cases e : i = k
      · subst e
        rw [List.getElem?_set_self (List.getElem?_eq_some_iff.mp h1).1, h1]
      · rw [List.getElem?_set_ne e]
    show D.nx (σ.set i (some (V.ref l))) _
    rw [this]
    exact E3
theorem q_augL {i : Nat} {ds : List D} {Pd : D → Prop} (hi : ρ[i]? = some (.ow (.list ds))) (h : EVX K te ρ Pd) (k : ∀ d, Pd d → ∃ es, d = .list es ∧ ds.length + es.length ≤ 16000000 ∧ ST K Ex u (ρ.set i (.ow (.list (ds ++ es)))) P) : ST K Ex (tSeq (tAug i te rIAddU) u) ρ P := st_seq (st_augL hi h k)
theorem q_appendV {i : Nat} {ds : List D} {Pd : D → Prop} (hi : ρ[i]? = some (.ow (.list ds))) (h : EVX K te ρ Pd) (hz : ds.length < 16000000) (q : ∀ d, Pd d → ST K Ex u (ρ.set i (.ow (.list (ds ++ [d])))) P) :
    ST K Ex (tSeq (tDrop (tBM K "list" rAppend (tVar i) (tCons te tNil))) u) ρ P := st_seq (st_appendV hi h hz q)
/-- a comprehension without a test: the list of what it tells, by a word about each element -/
theorem enx_lc {wi : TI} {g : TG} {vs : List Nat} {n : Nat} {item : Nat → D} {R : Nat → D → Prop} (hi : EI K wi ρ n item) (hn : n ≤ 16000000)
    (hs : ∀ i, i < n → ∃ ρ2 ts, GT K g (wipeS ρ vs) (item i) ρ2 ts ∧ (∀ t ∈ ts, t ∈ vs) ∧ EVX K te ρ2 (R i)) :
    EVNX K (tLc wi g tYes te vs) ρ (fun d => ∃ ds : List D, d = .list ds ∧ ds.length = n ∧ ∀ i, i < n → R i (ds.getD i .none)) := fun G0 H0 G H σ Q E q =>
  hi G0 H0 G H σ _ E fun J G1 H1 Gd Y x w hG hY Dl hD => by
    have E1 := E.go x
    have hH : H Dl = none := x.gone hD
    have hG1 : G1 Dl = none := x.gh.none hD
    refine lc_it w (fun i H' => ∃ G' vl ds, Ext G1 H1 G' H' ∧ G' Dl = none ∧ H' Dl = some (.lst vl) ∧ DqA K G' vl ds ∧ ds.length = i ∧ ∀ j, j < i → R j (ds.getD j .none)) ⟨G1, [], [], .fresh x.gh hD, hG1, upd_same, .nil, rfl, fun j hj => absurd hj (Nat.not_lt_zero _)⟩ (fun i H' _ ⟨G', vl, ds, e, _⟩ => hG G' H' e.gg e.gh) (fun i y H' H3 hlt ⟨G', vl, ds, e, n1, h1, r1, l1, k1⟩ hy => ?_)
      (fun H' ⟨G', vl, ds, e, n1, h1, r1, l1, k1⟩ => q _ Dl G' H' ⟨ds, rfl, l1, k1⟩ (x.trans e) hH n1 (.lst h1 r1))
    obtain ⟨G3, x3, hdq⟩ := hY i G' H' y H3 hlt e.gg e.gh hy
    obtain ⟨ρ2, ts, hg, hts, he⟩ := hs i hlt
    have E3 : En K G0 H0 G3 H3 (L2.wipe σ vs) (wipeS ρ vs) := ((E1.go e).go x3).wipe vs
    have n3 : G3 Dl = none := x3.own _ _ h1 rfl n1
    refine hg G0 H0 G3 H3 _ y _ E3 hdq fun σ2 E2 hl hk => ⟨wipe_eq (by rw [hl, wipe_length]) hk hts, ?_⟩
    refine et_yes G0 H0 G3 H3 σ2 _ E2 fun G4 H4 x4 => ?_
    have h4 : H4 Dl = some (.lst vl) := x4.at n3 (x3.at n1 h1)
    have n4 : G4 Dl = none := x4.own _ _ (x3.at n1 h1) rfl n3
    have r4 : DqA K G4 vl ds := (r1.mono x3.g).mono x4.g
    have e4 : Ext G1 H1 G4 H4 := (e.trans x3).trans x4
    rw [if_pos rfl]
    refine he G0 H0 G4 H4 σ2 _ (E2.go x4) fun d u G5 H5 pd x5 hu => ?_
    have h5 := x5.at n4 h4
    have n5 := x5.own _ _ h4 rfl n4
    have hl2 := r4.length
    refine ⟨vl, h5, by rw [hl2, sizeLine_eq]; omega, G5, vl ++ [u], ds ++ [d], ?_, n5, upd_same, (r4.mono x5.g).append (.one hu), by rw [List.length_append, l1]; rfl, fun j hj => ?_⟩
    · have e5 := e4.trans x5
      refine ⟨e5.gg, fun a o ha => ?_, fun a o ha => ?_, e5.own⟩
      · rw [upd_ne (ne_of_none ha hD)]; exact e5.hh a o ha
      · have ne : a ≠ Dl := ne_of_none ha n5
        exact (e5.gh a o ha).eq (upd_ne ne)
    · rw [List.getD_eq_getElem?_getD]
      by_cases z : j < i
      · rw [List.getElem?_append_left (by omega), ← List.getD_eq_getElem?_getD]
        exact k1 j z
      · have : j = ds.length := by omega
        rw [this, List.getElem?_append_right (Nat.le_refl _), Nat.sub_self]
        rw [l1]
        exact pd
theorem enp_lc {wi : TI} {g : TG} {vs : List Nat} {n : Nat} {item : Nat → D} (hi : EI K wi ρ n item) (hn : n ≤ 16000000)
    (hs : ∀ i, i < n → ∃ ρ2 ts, GT K g (wipeS ρ vs) (item i) ρ2 ts ∧ (∀ t ∈ ts, t ∈ vs) ∧ EVX K te ρ2 (OkP p)) : EVNX K (tLc wi g tYes te vs) ρ (LstP n p) := fun G0 H0 G H σ Q E q => enx_lc (R := fun _ => OkP p) hi hn hs G0 H0 G H σ Q E fun d l G' H' ⟨ds, e, hl, h⟩ => q d l G' H' ⟨ds, e, hl, List.all_eq_true.mpr fun x hx => by
    obtain ⟨i, hi, rfl⟩ := List.getElem_of_mem hx
    have := h i (by omega)
    rw [List.getD_eq_getElem?_getD, List.getElem?_eq_getElem hi] at this
    exact this⟩
/-- one of a list's elements, all of which pass the test, at a place told by a predicate -/
theorem evp_ixL {ds : List D} {Pc : D → Prop} (h : EV K ta ρ (.list ds)) (hp : ds.all p = true) (hb : EVX K tb ρ Pc) (hc : ∀ d, Pc d → ∃ k : Nat, d = .int (k : Int) ∧ k < ds.length) : EVX K (tOp (rIx K) ta tb) ρ (OkP p) := by
  refine evx_op (Pa := fun d => d = .list ds) (evx_of h rfl) hb ?_
  rintro a b rfl hb
  obtain ⟨k, rfl, hk⟩ := hc b hb
  refine ⟨ds.getD k .none, od_ixL (atI_nn PyData.none (by omega) (by omega)), ?_⟩
  exact List.all_eq_true.mp hp _ (by rw [List.getD_eq_getElem?_getD, List.getElem?_eq_getElem hk]; exact List.getElem_mem hk)
end
end DL

namespace K15
open PySem L2 DL
def isIntD : D → Bool
  | .int _ => true
  | _ => false
abbrev sL : Str := "abcdefghijklmnopqrstuvwxyz"
abbrev sF : Str := "0123456789"
def badAt (z : Str) (i : Nat) : Bool := !decide (z.cps.getD i 0 ∈ sL.cps.toList) && (decide ((i : Int) = 0) || !decide (z.cps.getD i 0 ∈ sF.cps.toList))
def lenOk (z : Str) : Bool := decide (1 ≤ (z.length : Int)) && decide ((z.length : Int) ≤ 8)
def optD : Option Nat → D
  | none => .none
  | some i => .int (i : Nat)
def nfD : D → D
  | .str z => if lenOk z = true then optD (firstP (badAt z) z.cps.size) else .int (-1)
  | _ => .int (-1)
/-- data that the law hands on: an atom, no dict, no endless text -/
def okA : D → Bool
  | .str z => decide (z.length ≤ 1000)
  | d => !isDicD d
/-- a tuple of such, or such -/
def okB : D → Bool
  | .tuple es => es.all okA && decide (es.length ≤ 1000)
  | d => okA d
def okC : D → Bool
  | .tuple es => es.all okB && decide (es.length ≤ 1000)
  | d => okA d
def okT : D → Bool
  | .tuple es => es.all okC && decide (es.length ≤ 1000)
  | d => okA d
def sp_name_fault (K : PySem.W.Frag) : Sp := PF K fun ds d => ∃ x, ds = [x] ∧ okA x = true ∧ d = nfD x
def isTupD (x : D) (m : Int) : Bool := match x with
  | .tuple ds => decide ((ds.length : Int) = m)
  | _ => false
def sp_is_tuple (K : PySem.W.Frag) : Sp := PF K fun ds d => ∃ x m, ds = [x, .int m] ∧ isDicD x = false ∧ d = .bool (isTupD x m)
def ltD : D → D → Bool
  | .str a, .str b => ltS a b
  | _, _ => false
def roomBad (es : List D) (i : Nat) : Option Str :=
  if isNoneD (nfD (es.getD i .none)) = true then (if (decide ((i : Int) > 0) && !ltD (es.getD (i - 1) .none) (es.getD i .none)) = true then some "order" else none) else some "name"
def telD : Option (Int × Str) → D
  | none => .none
  | some (i, w) => .tuple [.int i, .str w]
def upI (m : Int) : Option (Nat × Str) → Option (Int × Str)
  | none => none
  | some (i, w) => some (m + (i : Nat), w)
def RF (es : List D) : Option (Int × Str) := upI 0 (firstO (roomBad es) es.length)
def sp_rooms_fault (K : PySem.W.Frag) : Sp := PF K fun ds d => ∃ es : List D, ds = [.tuple es] ∧ es.all okA = true ∧ es.length ≤ 1000 ∧ d = telD (RF es)
structure Bx where
  w : Int
  s : Int
  e : Int
  n : Int
def bxD (b : Bx) : D := .tuple [.int b.w, .int b.s, .int b.e, .int b.n]
def plD (rs : List Str) (w h : Int) (bs : List Bx) : D := .tuple [.tuple (rs.map PyData.str), .int w, .int h, .tuple (bs.map bxD)]
def zB : Bx := ⟨0, 0, 0, 0⟩
def acr (a b : Bx) : Int := min a.e b.e - max a.w b.w
def alo (a b : Bx) : Int := min a.n b.n - max a.s b.s
/-- boxes that have no inside in common -/
def Dis (a b : Bx) : Prop := acr a b ≤ 0 ∨ alo a b ≤ 0
def Pos (b : Bx) : Prop := b.w < b.e ∧ b.s < b.n
def lowC : Str := "abcdefghijklmnopqrstuvwxyz"
def numC : Str := "0123456789"
/-- a room's name: a small letter first -/
def HeadLow (z : Str) : Prop := ∃ c r, z.cps.toList = c :: r ∧ c ∈ lowC.cps.toList ∧ ∀ x ∈ r, x ∈ lowC.cps.toList ∨ x ∈ numC.cps.toList
def Name (z : Str) : Prop := HeadLow z ∧ z.length ≤ 8
structure VP (rs : List Str) (bs : List Bx) : Prop where
  len : rs.length = bs.length
  many : rs.length ≤ 40
  up : rs.Pairwise fun a b => ltS a b = true
  names : ∀ z ∈ rs, Name z
  pos : ∀ b ∈ bs, Pos b
  dis : bs.Pairwise Dis
def rA (rs : List Str) (i : Nat) : Str := rs.getD i Str.empty
def bA (bs : List Bx) (i : Nat) : Bx := bs.getD i zB
/-! what is wrong with a plan -/
def bxOf : D → Bx
  | .tuple [.int a, .int b, .int c, .int e] => ⟨a, b, c, e⟩
  | _ => zB
def isB4 : D → Bool
  | .tuple [.int _, .int _, .int _, .int _] => true
  | _ => false
def boxOk (w h : Int) (d : D) : Bool := isB4 d && (decide (0 ≤ (bxOf d).w) && decide ((bxOf d).w < (bxOf d).e) && decide ((bxOf d).e ≤ w) && (decide (0 ≤ (bxOf d).s) && decide ((bxOf d).s < (bxOf d).n) && decide ((bxOf d).n ≤ h)))
def ovl (a b : Bx) : Bool := decide (max a.w b.w < min a.e b.e) && decide (max a.s b.s < min a.n b.n)
def area (b : Bx) : Int := (b.e - b.w) * (b.n - b.s)
def areas (bs : List Bx) : Int := (bs.map area).sum
/-- corners, in the program's sequence | in the law's -/
def cor (b : Bx) : List (Int × Int) := [(b.w, b.s), (b.e, b.s), (b.e, b.n), (b.w, b.n)]
def corL (b : Bx) : List (Int × Int) := [(b.w, b.s), (b.w, b.n), (b.e, b.s), (b.e, b.n)]
def tally (f : Bx → List (Int × Int)) (bs : List Bx) : List ((Int × Int) × Int) := bs.foldl (fun ps b => (f b).foldl bump ps) []
def fourB (bs : List Bx) : Bool := (tally cor bs).any fun p => decide (p.2 = 4)
def ovlAt (bs : List Bx) (i : Nat) : Option Str := if ((List.range i).any fun j => ovl (bA bs j) (bA bs i)) = true then some "overlap" else none
def boxBad (w h : Int) (bs : List D) (i : Nat) : Option Str := if boxOk w h (bs.getD i .none) = true then none else some "box"
def orT {α : Type} (a b : Option α) : Option α := match a with
  | some x => some x
  | none => b
/-- what comes behind the form and the limits -/
def LF (es : List D) (w h : Int) (bs : List D) : Option (Int × Str) :=
  orT (RF es) (orT (upI 0 (firstO (boxBad w h bs) bs.length)) (orT (upI 0 (firstO (ovlAt (bs.map bxOf)) bs.length))
    (if areas (bs.map bxOf) < w * h then some (-1, "gap") else if fourB (bs.map bxOf) = true then some (-1, "four") else none)))
def limB (es : List D) (w h : Int) : Bool := (decide (1 ≤ (es.length : Int)) && decide ((es.length : Int) ≤ 40)) && ((decide (1 ≤ w) && decide (w ≤ 10000)) && (decide (1 ≤ h) && decide (h ≤ 10000)))
def formB : D → Bool
  | .tuple [.tuple es, .int _, .int _, .tuple bs] => decide (es.length = bs.length)
  | _ => false
def PLF : D → Option (Int × Str)
  | .tuple [.tuple es, .int w, .int h, .tuple bs] => if es.length = bs.length then (if limB es w h = true then LF es w h bs else some (-1, "limit")) else some (-1, "shape")
  | _ => some (-1, "shape")
def lenR : D → Int
  | .tuple (.tuple es :: _) => es.length
  | _ => 0
def dueD (x : D) : D := match PLF x with
  | some (i, w) => .tuple [.int i, .str w]
  | none => .int (lenR x)
def sp_is_integer (K : PySem.W.Frag) : Sp := PF K fun ds d => ∃ x, ds = [x] ∧ isDicD x = false ∧ d = .bool (isIntD x)
def sp_integer_within (K : PySem.W.Frag) : Sp := PF K fun ds d => ∃ x, ∃ l h : Int, ds = [x, .int l, .int h] ∧ isDicD x = false ∧ d = .bool (match x with | .int i => decide (l ≤ i) && decide (i ≤ h) | _ => false)
def sp_four_meet (K : PySem.W.Frag) : Sp := PF K fun ds d => ∃ bs : List Bx, ds = [.tuple (bs.map bxD)] ∧ bs.length ≤ 40 ∧ d = .bool (fourB bs)
def sp_plan_shaped (K : PySem.W.Frag) : Sp := PF K fun ds d => ∃ x, ds = [x] ∧ okT x = true ∧ d = .bool (formB x)
def sp_is_box (K : PySem.W.Frag) : Sp := PF K fun ds d => ∃ x, ∃ w h : Int, ds = [x, .int w, .int h] ∧ okB x = true ∧ d = .bool (boxOk w h x)
def sp_boxes_overlap (K : PySem.W.Frag) : Sp := PF K fun ds d => ∃ a b : Bx, ds = [bxD a, bxD b] ∧ d = .bool (ovl a b)
def sp_plan_fault (K : PySem.W.Frag) : Sp := PF K fun ds d => ∃ x, ds = [x] ∧ okT x = true ∧ d = telD (PLF x)
def sp_check_plan (K : PySem.W.Frag) : Sp := PX K (fun ds d => ∃ x, ds = [x] ∧ okT x = true ∧ PLF x = none ∧ d = .int (lenR x))
  (fun ds C fl => ∃ x i w, ds = [x] ∧ okT x = true ∧ PLF x = some (i, w) ∧ C = He.ga K "BadPlan" ∧ fl = [(("word" : Str), .str w), (("at" : Str), .int i)])
/-! the law's own -/
def sp_u_law_state (K : PySem.W.Frag) : Sp := PF K fun ds d => ∃ ns : List Int, ds = [.dict [(.none, .list (ns.map PyData.int))]] ∧ ns.length ≤ 63 ∧ d = stD
def sp_u_law_take (K : PySem.W.Frag) : Sp := PQ K (fun ds => ∃ m : Int, ds = [stD, .int m] ∧ 0 < m ∧ m ≤ 1000000) (fun ds d => ∃ m v : Int, ds = [stD, .int m] ∧ d = .int v ∧ 0 ≤ v ∧ v < m)
def sp_u_law_names (K : PySem.W.Frag) : Sp := PQ K (fun ds => ∃ m : Nat, ds = [stD, .int (m : Int)] ∧ m ≤ 40) (fun ds d => ∃ (m : Nat) (rs : List Str), ds = [stD, .int (m : Int)] ∧ d = .list (rs.map PyData.str) ∧ rs.length = m ∧ rs.Pairwise (fun a b => ltS a b = true) ∧ ∀ z ∈ rs, Name z)
/-- b within a -/
def SubB (b a : Bx) : Prop := a.w ≤ b.w ∧ b.e ≤ a.e ∧ a.s ≤ b.s ∧ b.n ≤ a.n
def Small (b : Bx) : Prop := 0 ≤ b.w ∧ b.e ≤ 10000 ∧ 0 ≤ b.s ∧ b.n ≤ 10000
/-- no box's north-east corner is another's south-west corner -/
def Dia (a b : Bx) : Prop := ¬ (a.e = b.w ∧ a.n = b.s)
/-- one box c gives way to p :: ps: new edges at xs, ys -/
structure Gives (c p : Bx) (ps : List Bx) (xs ys : List Int) : Prop where
  dis : (p :: ps).Pairwise Dis
  sub : ∀ b ∈ p :: ps, Pos b ∧ SubB b c
  sum : areas (p :: ps) = area c
  dia : ∀ a ∈ p :: ps, ∀ b ∈ p :: ps, Dia a b
  inx : ∀ x ∈ xs, c.w < x ∧ x < c.e
  iny : ∀ y ∈ ys, c.s < y ∧ y < c.n
  ew : ∀ b ∈ p :: ps, (b.w = c.w ∨ b.w ∈ xs) ∧ (b.e = c.e ∨ b.e ∈ xs)
  es : ∀ b ∈ p :: ps, (b.s = c.s ∨ b.s ∈ ys) ∧ (b.n = c.n ∨ b.n ∈ ys)
def sp_u_law_mill (K : PySem.W.Frag) : Sp := PM K (fun ds ns ms => ∃ b : Bx, ds = [stD, bxD b] ∧ Pos b ∧ Small b ∧ ns.length ≤ 10000 ∧ ms.length ≤ 10000)
  (fun ds ns ms d ns' ms' => ∃ (b p : Bx) (ps : List Bx) (xs ys : List Int), ds = [stD, bxD b] ∧ d = .list ((p :: ps).map bxD) ∧ ps.length ≤ 4 ∧ ns' = ns ++ xs ∧ ms' = ms ++ ys ∧ xs.length ≤ 2 ∧ ys.length ≤ 2 ∧ (∀ x ∈ xs, x ∉ ns) ∧ (∀ y ∈ ys, y ∉ ms) ∧ Gives b p ps xs ys)
structure Cut (many : Nat) (w h : Int) (strict : Bool) (bs : List Bx) : Prop where
  lo : 1 ≤ bs.length
  hi : bs.length ≤ many
  ok : ∀ b ∈ bs, Pos b ∧ 0 ≤ b.w ∧ b.e ≤ w ∧ 0 ≤ b.s ∧ b.n ≤ h
  dis : bs.Pairwise Dis
  sum : areas bs = w * h
  dia : strict = true → ∀ a ∈ bs, ∀ b ∈ bs, Dia a b
def sp_u_law_cuts (K : PySem.W.Frag) : Sp := PN K (fun ds => ∃ (m : Nat) (w h : Int) (st : Bool), ds = [stD, .int (m : Int), .int w, .int h, .bool st] ∧ 1 ≤ m ∧ m ≤ 40 ∧ 1 ≤ w ∧ w ≤ 10000 ∧ 1 ≤ h ∧ h ≤ 10000)
  (fun ds d => ∃ (m : Nat) (w h : Int) (st : Bool) (bs : List Bx), ds = [stD, .int (m : Int), .int w, .int h, .bool st] ∧ d = .list (bs.map bxD) ∧ Cut m w h st bs)
def sp_u_law_plan (K : PySem.W.Frag) : Sp := PQ K (fun ds => ∃ (m : Nat) (w h : Int) (st : Bool), ds = [stD, .int (m : Int), .int w, .int h, .bool st] ∧ 1 ≤ m ∧ m ≤ 40 ∧ 1 ≤ w ∧ w ≤ 10000 ∧ 1 ≤ h ∧ h ≤ 10000)
  (fun ds d => ∃ (m : Nat) (w h : Int) (st : Bool) (rs : List Str) (bs : List Bx), ds = [stD, .int (m : Int), .int w, .int h, .bool st] ∧ d = plD rs w h bs ∧ VP rs bs ∧ Cut 40 w h st bs)
def sp_u_law_whole (K : PySem.W.Frag) : Sp := PF K fun ds d => ∃ x, ds = [x] ∧ isDicD x = false ∧ d = .bool (isIntD x)
def sp_u_law_name (K : PySem.W.Frag) : Sp := PF K fun ds d => ∃ x, ds = [x] ∧ okA x = true ∧ d = .bool (isNoneD (nfD x))
def sp_u_law_box (K : PySem.W.Frag) : Sp := PF K fun ds d => ∃ x, ∃ w h : Int, ds = [x, .int w, .int h] ∧ okB x = true ∧ d = .bool (boxOk w h x)
def sp_u_law_form (K : PySem.W.Frag) : Sp := PF K fun ds d => ∃ x, ds = [x] ∧ okT x = true ∧ d = .bool (formB x)
def sp_u_law_due (K : PySem.W.Frag) : Sp := PF K fun ds d => ∃ x, ds = [x] ∧ okT x = true ∧ d = dueD x
def sp_u_law_ask (K : PySem.W.Frag) : Sp := PF K fun ds d => ∃ x, ds = [x] ∧ okT x = true ∧ d = .bool true
/-- a list of things to be asked -/
def Things (n : Nat) (d : D) : Prop := ∃ ts : List D, d = .list ts ∧ ts.length ≤ n ∧ ∀ t ∈ ts, okT t = true
/-- a drawn plan's data -/
def PlanP (d : D) : Prop := ∃ w h rs bs, d = plD rs w h bs ∧ VP rs bs ∧ 1 ≤ rs.length ∧ (1 ≤ w ∧ w ≤ 10000) ∧ (1 ≤ h ∧ h ≤ 10000) ∧ ∀ b ∈ bs, Pos b ∧ Small b
def sp_u_law_forms (K : PySem.W.Frag) : Sp := PQ K (fun ds => ∃ p, ds = [p, stD] ∧ PlanP p) (fun ds d => Things 64 d)
def sp_u_law_strip (K : PySem.W.Frag) : Sp := PQ K (fun ds => ∃ (m : Nat) (w h : Int), ds = [.int (m : Int), .int w, .int h] ∧ 1 ≤ m ∧ m ≤ 41) (fun ds d => okT d = true)
def sp_u_law_put (K : PySem.W.Frag) : Sp := PF K fun ds d => ∃ (es : List D) (k : Nat) (x : D), ds = [.tuple es, .int (k : Int), x] ∧ k < es.length ∧ es.length ≤ 100 ∧ d = .tuple (es.take k ++ [x] ++ es.drop (k + 1))
def sp_u_law_named (K : PySem.W.Frag) : Sp := PQ K (fun ds => ∃ p, ds = [p, stD] ∧ PlanP p) (fun ds d => Things 64 d)
def sp_u_law_boxed (K : PySem.W.Frag) : Sp := PQ K (fun ds => ∃ p, ds = [p, stD] ∧ PlanP p) (fun ds d => Things 64 d)
def sp_u_law_moved (K : PySem.W.Frag) : Sp := PQ K (fun ds => ∃ p, ds = [p, stD] ∧ PlanP p) (fun ds d => Things 64 d)
def sp_law (K : PySem.W.Frag) : Sp := PF K fun ds d => ∃ ns : List Int, ds = [.dict [(.none, .list (ns.map PyData.int))]] ∧ ns.length ≤ 63 ∧ d = .bool true
end K15

set_option maxHeartbeats 4000000
namespace K15
open PySem PySem.Spec PyProof.Rows L2 DL
/-! printed by gen.py: the text by places, the names, the readings -/
def top (i : Nat) : Stmt := PySem.Challenge.pw_wallsaswished_k15_check_plan.main.body.getD i (.Pass ⟨0, 0, 0, 0⟩)
abbrev s_name_fault : Stmt := top 15
abbrev N_name_fault : List Str := ["thing", "place", "sign"]
theorem sc_name_fault : FnScope N_name_fault ["thing"] (defScope s_name_fault) := ⟨rfl, rfl, rfl, by decide +kernel, rfl, by decide +kernel, by decide +kernel⟩
abbrev s_is_integer : Stmt := top 16
abbrev N_is_integer : List Str := ["thing"]
theorem sc_is_integer : FnScope N_is_integer ["thing"] (defScope s_is_integer) := ⟨rfl, rfl, rfl, by decide +kernel, rfl, by decide +kernel, by decide +kernel⟩
abbrev s_integer_within : Stmt := top 17
abbrev N_integer_within : List Str := ["thing", "low", "high"]
theorem sc_integer_within : FnScope N_integer_within ["thing", "low", "high"] (defScope s_integer_within) := ⟨rfl, rfl, rfl, by decide +kernel, rfl, by decide +kernel, by decide +kernel⟩
abbrev s_is_tuple : Stmt := top 18
abbrev N_is_tuple : List Str := ["thing", "many"]
theorem sc_is_tuple : FnScope N_is_tuple ["thing", "many"] (defScope s_is_tuple) := ⟨rfl, rfl, rfl, by decide +kernel, rfl, by decide +kernel, by decide +kernel⟩
abbrev s_rooms_fault : Stmt := top 20
abbrev N_rooms_fault : List Str := ["rooms", "place", "room"]
theorem sc_rooms_fault : FnScope N_rooms_fault ["rooms"] (defScope s_rooms_fault) := ⟨rfl, rfl, rfl, by decide +kernel, rfl, by decide +kernel, by decide +kernel⟩
abbrev s_four_meet : Stmt := top 27
abbrev N_four_meet : List Str := ["boxes", "corners", "west", "south", "east", "north", "point", "many"]
theorem sc_four_meet : FnScope N_four_meet ["boxes"] (defScope s_four_meet) := ⟨rfl, rfl, rfl, by decide +kernel, rfl, by decide +kernel, by decide +kernel⟩
abbrev s_plan_shaped : Stmt := top 24
abbrev N_plan_shaped : List Str := ["thing", "rooms", "width", "height", "boxes"]
theorem sc_plan_shaped : FnScope N_plan_shaped ["thing"] (defScope s_plan_shaped) := ⟨rfl, rfl, rfl, by decide +kernel, rfl, by decide +kernel, by decide +kernel⟩
abbrev s_is_box : Stmt := top 25
abbrev N_is_box : List Str := ["thing", "width", "height", "west", "south", "east", "north"]
theorem sc_is_box : FnScope N_is_box ["thing", "width", "height"] (defScope s_is_box) := ⟨rfl, rfl, rfl, by decide +kernel, rfl, by decide +kernel, by decide +kernel⟩
abbrev s_boxes_overlap : Stmt := top 26
abbrev N_boxes_overlap : List Str := ["one", "other"]
theorem sc_boxes_overlap : FnScope N_boxes_overlap ["one", "other"] (defScope s_boxes_overlap) := ⟨rfl, rfl, rfl, by decide +kernel, rfl, by decide +kernel, by decide +kernel⟩
abbrev s_plan_fault : Stmt := top 23
abbrev N_plan_fault : List Str := ["thing", "rooms", "width", "height", "boxes", "fault", "place", "box", "earlier", "west", "south", "east", "north"]
theorem sc_plan_fault : FnScope N_plan_fault ["thing"] (defScope s_plan_fault) := ⟨rfl, rfl, rfl, by decide +kernel, rfl, by decide +kernel, by decide +kernel⟩
abbrev s_check_plan : Stmt := top 22
abbrev N_check_plan : List Str := ["thing", "fault"]
theorem sc_check_plan : FnScope N_check_plan ["thing"] (defScope s_check_plan) := ⟨rfl, rfl, rfl, by decide +kernel, rfl, by decide +kernel, by decide +kernel⟩
abbrev s_u_law_state : Stmt := top 29
abbrev N_u_law_state : List Str := ["script", "seed", "cell"]
theorem sc_u_law_state : FnScope N_u_law_state ["script"] (defScope s_u_law_state) := ⟨rfl, rfl, rfl, by decide +kernel, rfl, by decide +kernel, by decide +kernel⟩
abbrev s_u_law_take : Stmt := top 30
abbrev N_u_law_take : List Str := ["state", "many", "value", "mixed"]
theorem sc_u_law_take : FnScope N_u_law_take ["state", "many"] (defScope s_u_law_take) := ⟨rfl, rfl, rfl, by decide +kernel, rfl, by decide +kernel, by decide +kernel⟩
abbrev s_u_law_names : Stmt := top 31
abbrev N_u_law_names : List Str := ["state", "many", "letters", "names", "k", "name", "j", "free", "other"]
theorem sc_u_law_names : FnScope N_u_law_names ["state", "many"] (defScope s_u_law_names) := ⟨rfl, rfl, rfl, by decide +kernel, rfl, by decide +kernel, by decide +kernel⟩
abbrev s_u_law_mill : Stmt := top 32
abbrev N_u_law_mill : List Str := ["state", "box", "across", "up", "w", "s", "e", "n", "x", "y", "inner"]
theorem sc_u_law_mill : FnScope N_u_law_mill ["state", "box", "across", "up"] (defScope s_u_law_mill) := ⟨rfl, rfl, rfl, by decide +kernel, rfl, by decide +kernel, by decide +kernel⟩
abbrev s_u_law_cuts : Stmt := top 33
abbrev N_u_law_cuts : List Str := ["state", "many", "wide", "high", "strict", "boxes", "across", "up", "count", "at", "w", "s", "e", "n", "sort", "parts", "x", "y"]
theorem sc_u_law_cuts : FnScope N_u_law_cuts ["state", "many", "wide", "high", "strict"] (defScope s_u_law_cuts) := ⟨rfl, rfl, rfl, by decide +kernel, rfl, by decide +kernel, by decide +kernel⟩
abbrev s_u_law_plan : Stmt := top 34
abbrev N_u_law_plan : List Str := ["state", "many", "wide", "high", "strict", "rest", "boxes", "k"]
theorem sc_u_law_plan : FnScope N_u_law_plan ["state", "many", "wide", "high", "strict"] (defScope s_u_law_plan) := ⟨rfl, rfl, rfl, by decide +kernel, rfl, by decide +kernel, by decide +kernel⟩
abbrev s_u_law_whole : Stmt := top 35
abbrev N_u_law_whole : List Str := ["thing"]
theorem sc_u_law_whole : FnScope N_u_law_whole ["thing"] (defScope s_u_law_whole) := ⟨rfl, rfl, rfl, by decide +kernel, rfl, by decide +kernel, by decide +kernel⟩
abbrev s_u_law_name : Stmt := top 36
abbrev N_u_law_name : List Str := ["thing", "k"]
theorem sc_u_law_name : FnScope N_u_law_name ["thing"] (defScope s_u_law_name) := ⟨rfl, rfl, rfl, by decide +kernel, rfl, by decide +kernel, by decide +kernel⟩
abbrev s_u_law_box : Stmt := top 37
abbrev N_u_law_box : List Str := ["box", "wide", "high", "number"]
theorem sc_u_law_box : FnScope N_u_law_box ["box", "wide", "high"] (defScope s_u_law_box) := ⟨rfl, rfl, rfl, by decide +kernel, rfl, by decide +kernel, by decide +kernel⟩
abbrev s_u_law_form : Stmt := top 38
abbrev N_u_law_form : List Str := ["thing"]
theorem sc_u_law_form : FnScope N_u_law_form ["thing"] (defScope s_u_law_form) := ⟨rfl, rfl, rfl, by decide +kernel, rfl, by decide +kernel, by decide +kernel⟩
abbrev s_u_law_due : Stmt := top 39
abbrev N_u_law_due : List Str := ["thing", "rooms", "wide", "high", "boxes", "k", "area", "corners", "w", "s", "e", "n", "j", "west", "south", "east", "north", "corner"]
theorem sc_u_law_due : FnScope N_u_law_due ["thing"] (defScope s_u_law_due) := ⟨rfl, rfl, rfl, by decide +kernel, rfl, by decide +kernel, by decide +kernel⟩
abbrev s_u_law_ask : Stmt := top 40
abbrev N_u_law_ask : List Str := ["thing", "due", "told", "raised", "at", "word", "e"]
theorem sc_u_law_ask : FnScope N_u_law_ask ["thing"] (defScope s_u_law_ask) := ⟨rfl, rfl, rfl, by decide +kernel, rfl, by decide +kernel, by decide +kernel⟩
abbrev s_u_law_forms : Stmt := top 41
abbrev N_u_law_forms : List Str := ["plan", "state", "rooms", "wide", "high", "boxes", "odd"]
theorem sc_u_law_forms : FnScope N_u_law_forms ["plan", "state"] (defScope s_u_law_forms) := ⟨rfl, rfl, rfl, by decide +kernel, rfl, by decide +kernel, by decide +kernel⟩
abbrev s_u_law_strip : Stmt := top 42
abbrev N_u_law_strip : List Str := ["many", "wide", "high", "names", "k", "boxes"]
theorem sc_u_law_strip : FnScope N_u_law_strip ["many", "wide", "high"] (defScope s_u_law_strip) := ⟨rfl, rfl, rfl, by decide +kernel, rfl, by decide +kernel, by decide +kernel⟩
abbrev s_u_law_put : Stmt := top 43
abbrev N_u_law_put : List Str := ["row", "at", "thing"]
theorem sc_u_law_put : FnScope N_u_law_put ["row", "at", "thing"] (defScope s_u_law_put) := ⟨rfl, rfl, rfl, by decide +kernel, rfl, by decide +kernel, by decide +kernel⟩
abbrev s_u_law_named : Stmt := top 44
abbrev N_u_law_named : List Str := ["plan", "state", "rooms", "wide", "high", "boxes", "at", "names", "odd", "k", "turned", "late", "row"]
theorem sc_u_law_named : FnScope N_u_law_named ["plan", "state"] (defScope s_u_law_named) := ⟨rfl, rfl, rfl, by decide +kernel, rfl, by decide +kernel, by decide +kernel⟩
abbrev s_u_law_boxed : Stmt := top 45
abbrev N_u_law_boxed : List Str := ["plan", "state", "rooms", "wide", "high", "boxes", "at", "w", "s", "e", "n", "odd", "rows", "box", "late", "both"]
theorem sc_u_law_boxed : FnScope N_u_law_boxed ["plan", "state"] (defScope s_u_law_boxed) := ⟨rfl, rfl, rfl, by decide +kernel, rfl, by decide +kernel, by decide +kernel⟩
abbrev s_u_law_moved : Stmt := top 46
abbrev N_u_law_moved : List Str := ["plan", "state", "rooms", "wide", "high", "boxes", "at", "w", "s", "e", "n", "odd", "rows", "box", "x", "y", "names", "four"]
theorem sc_u_law_moved : FnScope N_u_law_moved ["plan", "state"] (defScope s_u_law_moved) := ⟨rfl, rfl, rfl, by decide +kernel, rfl, by decide +kernel, by decide +kernel⟩
abbrev s_law : Stmt := top 47
abbrev N_law : List Str := ["script", "state", "great", "many", "most", "wide", "high", "plan", "tall", "things", "thing"]
theorem sc_law : FnScope N_law ["script"] (defScope s_law) := ⟨rfl, rfl, rfl, by decide +kernel, rfl, by decide +kernel, by decide +kernel⟩
abbrev s_i_BadScheme : Stmt := inClass (top 9) 0
theorem sc_i_BadScheme : FnScope ["self", "at", "word"] ["self", "at", "word"] (defScope s_i_BadScheme) := ⟨rfl, rfl, rfl, by decide +kernel, rfl, by decide +kernel, by decide +kernel⟩
abbrev s_i_BadPlan : Stmt := inClass (top 10) 0
theorem sc_i_BadPlan : FnScope ["self", "at", "word"] ["self", "at", "word"] (defScope s_i_BadPlan) := ⟨rfl, rfl, rfl, by decide +kernel, rfl, by decide +kernel, by decide +kernel⟩
abbrev s_i_BadLayout : Stmt := inClass (top 11) 0
theorem sc_i_BadLayout : FnScope ["self", "word", "at"] ["self", "word", "at"] (defScope s_i_BadLayout) := ⟨rfl, rfl, rfl, by decide +kernel, rfl, by decide +kernel, by decide +kernel⟩
structure Txt (K : PySem.W.Frag) (mg : Str → Option Value) : Prop where
  f_ValueError : mg "ValueError" = none
  f_abs : mg "abs" = none
  f_any : mg "any" = none
  f_bool : mg "bool" = none
  f_enumerate : mg "enumerate" = none
  f_int : mg "int" = none
  f_isinstance : mg "isinstance" = none
  f_len : mg "len" = none
  f_list : mg "list" = none
  f_max : mg "max" = none
  f_min : mg "min" = none
  f_range : mg "range" = none
  f_sorted : mg "sorted" = none
  f_str : mg "str" = none
  f_sum : mg "sum" = none
  f_tuple : mg "tuple" = none
  g_PlanError : mg "PlanError" = some (.ref (He.ga K "PlanError"))
  g_DataError : mg "DataError" = some (.ref (He.ga K "DataError"))
  g_CallError : mg "CallError" = some (.ref (He.ga K "CallError"))
  g_TextError : mg "TextError" = some (.ref (He.ga K "TextError"))
  g_DeskError : mg "DeskError" = some (.ref (He.ga K "DeskError"))
  g_BadScheme : mg "BadScheme" = some (.ref (He.ga K "BadScheme"))
  g_BadPlan : mg "BadPlan" = some (.ref (He.ga K "BadPlan"))
  g_BadLayout : mg "BadLayout" = some (.ref (He.ga K "BadLayout"))
  c_NAME_MOST : ∃ t, mg "NAME_MOST" = some (.int 8 t)
  c_ROOMS_MOST : ∃ t, mg "ROOMS_MOST" = some (.int 40 t)
  c_PLAN_MOST : ∃ t, mg "PLAN_MOST" = some (.int 10000 t)
  c_LETTERS : ∃ t, mg "LETTERS" = some (.str "abcdefghijklmnopqrstuvwxyz" t)
  c_FIGURES : ∃ t, mg "FIGURES" = some (.str "0123456789" t)
  n_BadScheme_at : PySem.W.findIn K (.ref (He.ga K "BadScheme")) "at" = some none
  n_BadScheme_word : PySem.W.findIn K (.ref (He.ga K "BadScheme")) "word" = some none
  n_BadPlan_at : PySem.W.findIn K (.ref (He.ga K "BadPlan")) "at" = some none
  n_BadPlan_word : PySem.W.findIn K (.ref (He.ga K "BadPlan")) "word" = some none
  n_BadLayout_word : PySem.W.findIn K (.ref (He.ga K "BadLayout")) "word" = some none
  n_BadLayout_at : PySem.W.findIn K (.ref (He.ga K "BadLayout")) "at" = some none
  x_PlanError : ExF K (He.ga K "PlanError")
  x_DataError : ExF K (He.ga K "DataError")
  x_CallError : ExF K (He.ga K "CallError")
  x_TextError : ExF K (He.ga K "TextError")
  x_DeskError : ExF K (He.ga K "DeskError")
  x_BadScheme : ExF K (He.ga K "BadScheme")
  x_BadPlan : ExF K (He.ga K "BadPlan")
  x_BadLayout : ExF K (He.ga K "BadLayout")
  i_BadScheme : PySem.W.findIn K (.ref (He.ga K "BadScheme")) "__init__" = some (some (.ref (He.ma K (He.ga K "BadScheme") "__init__"))) ∧ PySem.W.typeIn K (.ref (He.ma K (He.ga K "BadScheme") "__init__")) = some (.type "function")
  i_BadPlan : PySem.W.findIn K (.ref (He.ga K "BadPlan")) "__init__" = some (some (.ref (He.ma K (He.ga K "BadPlan") "__init__"))) ∧ PySem.W.typeIn K (.ref (He.ma K (He.ga K "BadPlan") "__init__")) = some (.type "function")
  i_BadLayout : PySem.W.findIn K (.ref (He.ga K "BadLayout")) "__init__" = some (some (.ref (He.ma K (He.ga K "BadLayout") "__init__"))) ∧ PySem.W.typeIn K (.ref (He.ma K (He.ga K "BadLayout") "__init__")) = some (.type "function")
  k_BadPlan_BadPlan : PySem.W.kitOne K (.ref (He.ga K "BadPlan")) (.ref (He.ga K "BadPlan")) = some true
  k_BadPlan_DataError : PySem.W.kitOne K (.ref (He.ga K "BadPlan")) (.ref (He.ga K "DataError")) = some true
  k_BadPlan_PlanError : PySem.W.kitOne K (.ref (He.ga K "BadPlan")) (.ref (He.ga K "PlanError")) = some true
  k_BadPlan_ValueError : PySem.W.kitOne K (.ref (He.ga K "BadPlan")) (.type "ValueError") = some true
  k_BadPlan_BadScheme : PySem.W.kitOne K (.ref (He.ga K "BadPlan")) (.ref (He.ga K "BadScheme")) = some false
  k_BadPlan_BadLayout : PySem.W.kitOne K (.ref (He.ga K "BadPlan")) (.ref (He.ga K "BadLayout")) = some false
  k_BadPlan_CallError : PySem.W.kitOne K (.ref (He.ga K "BadPlan")) (.ref (He.ga K "CallError")) = some false
  k_BadPlan_TextError : PySem.W.kitOne K (.ref (He.ga K "BadPlan")) (.ref (He.ga K "TextError")) = some false
  k_BadPlan_DeskError : PySem.W.kitOne K (.ref (He.ga K "BadPlan")) (.ref (He.ga K "DeskError")) = some false
  e_BadPlan_BadPlan : PySem.W.exmOne K (.ref (He.ga K "BadPlan")) (.ref (He.ga K "BadPlan")) = some true

section
variable {P : Program} {w : World} {K : PySem.W.Frag} {mg : Str → Option Value} {base : Heap}
def t_name_fault (K : PySem.W.Frag) : TS := (tSeq (tIfS (tOr (tNot (tTr K (tCB (rIsi K) (tCons (tVar 0) (tCons (tC (.ty "str")) tNil))))) (tNot (tTest (tChain rLeU rLeU (tC (.int 1)) (tCB (rLen K) (tCons (tVar 0) tNil)) (tC (.int 8)))))) (tRet (tUn (rU fun i => .int (-i)) (tC (.int 1)))) tNext)
 (tSeq (tFor (iEnumU K (tCons (tVar 0) tNil)) (gTup K 2 (gCons (gName 1) (gCons (gName 2) gNil))) (tIfS (tAnd (tTest (tOp (rNinU K) (tVar 2) (tC (.str "abcdefghijklmnopqrstuvwxyz")))) (tOr (tTest (tOp (rEqU K) (tVar 1) (tC (.int 0)))) (tTest (tOp (rNinU K) (tVar 2) (tC (.str "0123456789")))))) (tRet (tVar 1)) tNext))
 (tRet (tC .non))))
theorem dv_name_fault (T : Txt K mg)  {f : Addr} (cdv : Value) (A : Around) (outer : List PySem.Env) (s : Shared) (H : Hp) (E : XK) (hr : Room 0 (A.deeper (envOfC "name_fault" (defScope s_name_fault) s.heap.objs.size f cdv))) :
    PSs (cxOf CX0 P w K mg base N_name_fault "name_fault" (defScope s_name_fault) f cdv A outer s H E) (defBody s_name_fault) (t_name_fault K) := by
  have sc := sc_name_fault
  have pa : PassesOwn (model P w) (cxOf CX0 P w K mg base N_name_fault "name_fault" (defScope s_name_fault) f cdv A outer s H E).A (cxOf CX0 P w K mg base N_name_fault "name_fault" (defScope s_name_fault) f cdv A outer s H E).env (cxOf CX0 P w K mg base N_name_fault "name_fault" (defScope s_name_fault) f cdv A outer s H E).xe := passes_of rfl
  exact (pss_cons (ps_if (PW.pt (pw_or (pt_not (pt_tr (pe_callB (r := rIsi _) call_isi rfl T.f_isinstance b_isinstance (pa_cons (pv 0) (pa_cons (pe_bltn (v := .ty "str") rfl T.f_str b_str rfl) pa_nil))))) (pw_or1 (pt_not (pt_chain op_leU op_leU pe_int (pe_callB (r := rLen _) call_len rfl T.f_len b_len (pa_cons (pv 0) pa_nil)) (pe_gint T.c_NAME_MOST)))))) (pss_one (ps_ret (pe_un un_neg pe_int))) pss_nil)
 (pss_cons (ps_for pa rfl (pi_enumU rfl T.f_enumerate (pa_cons (pv 0) pa_nil)) (pg_tup rfl (pgs_cons (pg_name (i := 1) sc.nd rfl (by first | exact Or.inl rfl | exact Or.inr rfl)) (pgs_cons (pg_name (i := 2) sc.nd rfl (by first | exact Or.inl rfl | exact Or.inr rfl)) pgs_nil))) (pss_one (ps_if (PW.pt (pw_and (pt_cmpR op_ninU (pv 2) (pe_gstr T.c_LETTERS) rfl) (pw_and1 (PW.pt (pw_or (pt_cmpR (op_eqU hr.units) (pv 1) pe_int (nomark _)) (pw_or1 (pt_cmpR op_ninU (pv 2) (pe_gstr T.c_FIGURES) rfl))))))) (pss_one (ps_ret (pv 1))) pss_nil)))
 (pss_one (ps_ret pe_non))))
def t_is_integer (K : PySem.W.Frag) : TS := (tRet (tAndV (tCB (rIsi K) (tCons (tVar 0) (tCons (tC (.ty "int")) tNil))) (tNotV (tCB (rIsi K) (tCons (tVar 0) (tCons (tC (.ty "bool")) tNil))))))
theorem dv_is_integer (T : Txt K mg)  {f : Addr} (cdv : Value) (A : Around) (outer : List PySem.Env) (s : Shared) (H : Hp) (E : XK) (hr : Room 0 (A.deeper (envOfC "is_integer" (defScope s_is_integer) s.heap.objs.size f cdv))) :
    PSs (cxOf CX0 P w K mg base N_is_integer "is_integer" (defScope s_is_integer) f cdv A outer s H E) (defBody s_is_integer) (t_is_integer K) := by
  have sc := sc_is_integer
  exact (pss_one (ps_ret (pe_and (pe_callB (r := rIsi _) call_isi rfl T.f_isinstance b_isinstance (pa_cons (pv 0) (pa_cons (pe_bltn (v := .ty "int") rfl T.f_int b_int rfl) pa_nil))) (pe_one (pe_not (pe_callB (r := rIsi _) call_isi rfl T.f_isinstance b_isinstance (pa_cons (pv 0) (pa_cons (pe_bltn (v := .ty "bool") rfl T.f_bool b_bool rfl) pa_nil))))))))
def t_integer_within (K : PySem.W.Frag) : TS := (tRet (tAndV (tCall (sp_is_integer K) [] E0 (tCons (tVar 0) tNil)) (tChain rLeU rLeU (tVar 1) (tVar 0) (tVar 2))))
theorem dv_integer_within (T : Txt K mg) (O_is_integer : Okd P w K mg base CX0 1 "is_integer" ["thing"] (sp_is_integer K)) {f : Addr} (cdv : Value) (A : Around) (outer : List PySem.Env) (s : Shared) (H : Hp) (E : XK) (hr : Room 1 (A.deeper (envOfC "integer_within" (defScope s_integer_within) s.heap.objs.size f cdv))) :
    PSs (cxOf CX0 P w K mg base N_integer_within "integer_within" (defScope s_integer_within) f cdv A outer s H E) (defBody s_integer_within) (t_integer_within K) := by
  have sc := sc_integer_within
  exact (pss_one (ps_ret (pe_and (pe_callD O_is_integer hr (by decide) (pa_cons (pv 0) pa_nil)) (pe_one (pe_chain op_leU op_leU (pv 1) (pv 0) (pv 2))))))
def t_is_tuple (K : PySem.W.Frag) : TS := (tRet (tAndV (tCB (rIsi K) (tCons (tVar 0) (tCons (tC (.ty "tuple")) tNil))) (tOp (rEqU K) (tCB (rLen K) (tCons (tVar 0) tNil)) (tVar 1))))
theorem dv_is_tuple (T : Txt K mg)  {f : Addr} (cdv : Value) (A : Around) (outer : List PySem.Env) (s : Shared) (H : Hp) (E : XK) (hr : Room 0 (A.deeper (envOfC "is_tuple" (defScope s_is_tuple) s.heap.objs.size f cdv))) :
    PSs (cxOf CX0 P w K mg base N_is_tuple "is_tuple" (defScope s_is_tuple) f cdv A outer s H E) (defBody s_is_tuple) (t_is_tuple K) := by
  have sc := sc_is_tuple
  exact (pss_one (ps_ret (pe_and (pe_callB (r := rIsi _) call_isi rfl T.f_isinstance b_isinstance (pa_cons (pv 0) (pa_cons (pe_bltn (v := .ty "tuple") rfl T.f_tuple b_tuple rfl) pa_nil))) (pe_one (pe_cmpR (op_eqU hr.units) (pe_callB (r := rLen _) call_len rfl T.f_len b_len (pa_cons (pv 0) pa_nil)) (pv 1) (nomark _))))))
def t_rooms_fault (K : PySem.W.Frag) : TS := (tSeq (tFor (iEnumU K (tCons (tVar 0) tNil)) (gTup K 2 (gCons (gName 1) (gCons (gName 2) gNil))) (tSeq (tIfS (tB (tNotN (tCall (sp_name_fault K) [] E0 (tCons (tVar 2) tNil)))) (tRet (tTup (tCons (tVar 1) (tCons (tC (.str "name")) tNil)))) tNext)
 (tIfS (tAnd (tTest (tOp rGtU (tVar 1) (tC (.int 0)))) (tTest (tOp rGeU (tOp (rIx K) (tVar 0) (tOp rSubU (tVar 1) (tC (.int 1)))) (tVar 2)))) (tRet (tTup (tCons (tVar 1) (tCons (tC (.str "order")) tNil)))) tNext)))
 (tRet (tC .non)))
theorem dv_rooms_fault (T : Txt K mg) (O_name_fault : Okd P w K mg base CX0 1 "name_fault" ["thing"] (sp_name_fault K)) {f : Addr} (cdv : Value) (A : Around) (outer : List PySem.Env) (s : Shared) (H : Hp) (E : XK) (hr : Room 1 (A.deeper (envOfC "rooms_fault" (defScope s_rooms_fault) s.heap.objs.size f cdv))) :
    PSs (cxOf CX0 P w K mg base N_rooms_fault "rooms_fault" (defScope s_rooms_fault) f cdv A outer s H E) (defBody s_rooms_fault) (t_rooms_fault K) := by
  have sc := sc_rooms_fault
  have pa : PassesOwn (model P w) (cxOf CX0 P w K mg base N_rooms_fault "rooms_fault" (defScope s_rooms_fault) f cdv A outer s H E).A (cxOf CX0 P w K mg base N_rooms_fault "rooms_fault" (defScope s_rooms_fault) f cdv A outer s H E).env (cxOf CX0 P w K mg base N_rooms_fault "rooms_fault" (defScope s_rooms_fault) f cdv A outer s H E).xe := passes_of rfl
  exact (pss_cons (ps_for pa rfl (pi_enumU rfl T.f_enumerate (pa_cons (pv 0) pa_nil)) (pg_tup rfl (pgs_cons (pg_name (i := 1) sc.nd rfl (by first | exact Or.inl rfl | exact Or.inr rfl)) (pgs_cons (pg_name (i := 2) sc.nd rfl (by first | exact Or.inl rfl | exact Or.inr rfl)) pgs_nil))) (pss_cons (ps_if (pt_cmp (pc_notN (pe_callD O_name_fault hr (by decide) (pa_cons (pv 2) pa_nil)))) (pss_one (ps_ret (pe_tup (pa_cons (pv 1) (pa_cons pe_str pa_nil))))) pss_nil)
 (pss_one (ps_if (PW.pt (pw_and (pt_cmpR op_gtU (pv 1) pe_int (nomark _)) (pw_and1 (pt_cmpR op_geU (pe_ix ix_seq (pv 0) (pe_op op_sub (pv 1) pe_int) (fun _ _ => rfl)) (pv 2) (nomark _))))) (pss_one (ps_ret (pe_tup (pa_cons (pv 1) (pa_cons pe_str pa_nil))))) pss_nil))))
 (pss_one (ps_ret pe_non)))
def t_four_meet (K : PySem.W.Frag) : TS := (tSeq (tAsg tDNewT (gName 1))
 (tSeq (tFor (iSeqU K (tVar 0)) (gTup K 4 (gCons (gName 2) (gCons (gName 3) (gCons (gName 4) (gCons (gName 5) gNil))))) (tFor (iSeqU K (tTup (tCons (tTup (tCons (tVar 2) (tCons (tVar 3) tNil))) (tCons (tTup (tCons (tVar 4) (tCons (tVar 3) tNil))) (tCons (tTup (tCons (tVar 4) (tCons (tVar 5) tNil))) (tCons (tTup (tCons (tVar 2) (tCons (tVar 5) tNil))) tNil)))))) (gName 6) (sDPut (tVar 1) (tVar 6) (tOp (rAddU K) (tDGet2 (tVar 1) (tVar 6) (tC (.int 0))) (tC (.int 1))))))
 (tRet (tCB (rAny K) (tCons (tLockE (tLc (iValsT (tVar 1)) (gName 7) tYes (tOp (rEqU K) (tVar 7) (tC (.int 4))) [7])) tNil)))))
theorem dv_four_meet (T : Txt K mg)  {f : Addr} (cdv : Value) (A : Around) (outer : List PySem.Env) (s : Shared) (H : Hp) (E : XK) (hr : Room 0 (A.deeper (envOfC "four_meet" (defScope s_four_meet) s.heap.objs.size f cdv))) :
    PSs (cxOf CX0 P w K mg base N_four_meet "four_meet" (defScope s_four_meet) f cdv A outer s H E) (defBody s_four_meet) (t_four_meet K) := by
  have sc := sc_four_meet
  have pa : PassesOwn (model P w) (cxOf CX0 P w K mg base N_four_meet "four_meet" (defScope s_four_meet) f cdv A outer s H E).A (cxOf CX0 P w K mg base N_four_meet "four_meet" (defScope s_four_meet) f cdv A outer s H E).env (cxOf CX0 P w K mg base N_four_meet "four_meet" (defScope s_four_meet) f cdv A outer s H E).xe := passes_of rfl
  exact (pss_cons (ps_set (i := 1) sc.nd rfl (by first | exact Or.inl rfl | exact Or.inr rfl) pe_dnewT)
 (pss_cons (ps_for pa rfl (pi_seqU (pv 0)) (pg_tup rfl (pgs_cons (pg_name (i := 2) sc.nd rfl (by first | exact Or.inl rfl | exact Or.inr rfl)) (pgs_cons (pg_name (i := 3) sc.nd rfl (by first | exact Or.inl rfl | exact Or.inr rfl)) (pgs_cons (pg_name (i := 4) sc.nd rfl (by first | exact Or.inl rfl | exact Or.inr rfl)) (pgs_cons (pg_name (i := 5) sc.nd rfl (by first | exact Or.inl rfl | exact Or.inr rfl)) pgs_nil))))) (pss_one (ps_for pa rfl (pi_seqU (pe_tup (pa_cons (pe_tup (pa_cons (pv 2) (pa_cons (pv 3) pa_nil))) (pa_cons (pe_tup (pa_cons (pv 4) (pa_cons (pv 3) pa_nil))) (pa_cons (pe_tup (pa_cons (pv 4) (pa_cons (pv 5) pa_nil))) (pa_cons (pe_tup (pa_cons (pv 2) (pa_cons (pv 5) pa_nil))) pa_nil)))))) (pg_name (i := 6) sc.nd rfl (by first | exact Or.inl rfl | exact Or.inr rfl)) (pss_one (ps_dput (hu_of hr) (pv 1) (pv 6) (pe_op op_addU (pe_dget2 (hu_of hr) (pv 1) (pv 6) pe_int ⟨rfl, rfl, rfl, rfl⟩) pe_int) rfl)))))
 (pss_one (ps_ret (pe_callB (r := rAny _) (cr_any rfl) rfl T.f_any b_any (pa_cons (pe_lock (pe_lc (own := [("many", 7)]) (g := (gName 7)) (tt := tYes) rfl sc.nd (pi_valuesT (pv 1)) (blkOk_by (own := [("many", 7)]) (N := N_four_meet) (sc := defScope s_four_meet) (by decide +kernel)) (fun _ _ _ _ _ => (pg_name (i := 7) sc.nd rfl (by first | exact Or.inl rfl | exact Or.inr rfl))) (fun _ _ _ _ _ => pts_nil) (fun _ _ _ _ _ => (pe_cmpR (op_eqU hr.units) (pv 7) pe_int (nomark _))))) pa_nil))))))
def t_plan_shaped (K : PySem.W.Frag) : TS := (tSeq (tIfS (tNot (tTr K (tCall (sp_is_tuple K) [] E0 (tCons (tVar 0) (tCons (tC (.int 4)) tNil))))) (tRet (tC (.bl false))) tNext)
 (tSeq (tAsg (tVar 0) (gTup K 4 (gCons (gName 1) (gCons (gName 2) (gCons (gName 3) (gCons (gName 4) gNil))))))
 (tSeq (tIfS (tOr (tNot (tTr K (tCB (rIsi K) (tCons (tVar 1) (tCons (tC (.ty "tuple")) tNil))))) (tNot (tTr K (tCB (rIsi K) (tCons (tVar 4) (tCons (tC (.ty "tuple")) tNil)))))) (tRet (tC (.bl false))) tNext)
 (tRet (tAndV (tOp (rEqU K) (tCB (rLen K) (tCons (tVar 1) tNil)) (tCB (rLen K) (tCons (tVar 4) tNil))) (tAndV (tCall (sp_is_integer K) [] E0 (tCons (tVar 2) tNil)) (tCall (sp_is_integer K) [] E0 (tCons (tVar 3) tNil))))))))
theorem dv_plan_shaped (T : Txt K mg) (O_is_tuple : Okd P w K mg base CX0 1 "is_tuple" ["thing", "many"] (sp_is_tuple K)) (O_is_integer : Okd P w K mg base CX0 1 "is_integer" ["thing"] (sp_is_integer K)) {f : Addr} (cdv : Value) (A : Around) (outer : List PySem.Env) (s : Shared) (H : Hp) (E : XK) (hr : Room 1 (A.deeper (envOfC "plan_shaped" (defScope s_plan_shaped) s.heap.objs.size f cdv))) :
    PSs (cxOf CX0 P w K mg base N_plan_shaped "plan_shaped" (defScope s_plan_shaped) f cdv A outer s H E) (defBody s_plan_shaped) (t_plan_shaped K) := by
  have sc := sc_plan_shaped
  exact (pss_cons (ps_if (pt_not (pt_tr (pe_callD O_is_tuple hr (by decide) (pa_cons (pv 0) (pa_cons pe_int pa_nil))))) (pss_one (ps_ret pe_bl)) pss_nil)
 (pss_cons (ps_asg (pv 0) (pg_tup rfl (pgs_cons (pg_name (i := 1) sc.nd rfl (by first | exact Or.inl rfl | exact Or.inr rfl)) (pgs_cons (pg_name (i := 2) sc.nd rfl (by first | exact Or.inl rfl | exact Or.inr rfl)) (pgs_cons (pg_name (i := 3) sc.nd rfl (by first | exact Or.inl rfl | exact Or.inr rfl)) (pgs_cons (pg_name (i := 4) sc.nd rfl (by first | exact Or.inl rfl | exact Or.inr rfl)) pgs_nil))))))
 (pss_cons (ps_if (PW.pt (pw_or (pt_not (pt_tr (pe_callB (r := rIsi _) call_isi rfl T.f_isinstance b_isinstance (pa_cons (pv 1) (pa_cons (pe_bltn (v := .ty "tuple") rfl T.f_tuple b_tuple rfl) pa_nil))))) (pw_or1 (pt_not (pt_tr (pe_callB (r := rIsi _) call_isi rfl T.f_isinstance b_isinstance (pa_cons (pv 4) (pa_cons (pe_bltn (v := .ty "tuple") rfl T.f_tuple b_tuple rfl) pa_nil)))))))) (pss_one (ps_ret pe_bl)) pss_nil)
 (pss_one (ps_ret (pe_and (pe_cmpR (op_eqU hr.units) (pe_callB (r := rLen _) call_len rfl T.f_len b_len (pa_cons (pv 1) pa_nil)) (pe_callB (r := rLen _) call_len rfl T.f_len b_len (pa_cons (pv 4) pa_nil)) (nomark _)) (pe_and (pe_callD O_is_integer hr (by decide) (pa_cons (pv 2) pa_nil)) (pe_one (pe_callD O_is_integer hr (by decide) (pa_cons (pv 3) pa_nil))))))))))
def t_is_box (K : PySem.W.Frag) : TS := (tSeq (tIfS (tNot (tTr K (tCall (sp_is_tuple K) [] E0 (tCons (tVar 0) (tCons (tC (.int 4)) tNil))))) (tRet (tC (.bl false))) tNext)
 (tSeq (tAsg (tVar 0) (gTup K 4 (gCons (gName 3) (gCons (gName 4) (gCons (gName 5) (gCons (gName 6) gNil))))))
 (tSeq (tIfS (tOr (tNot (tTr K (tCall (sp_integer_within K) [] E0 (tCons (tVar 5) (tCons (tC (.int 1)) (tCons (tVar 1) tNil)))))) (tNot (tTr K (tCall (sp_integer_within K) [] E0 (tCons (tVar 6) (tCons (tC (.int 1)) (tCons (tVar 2) tNil))))))) (tRet (tC (.bl false))) tNext)
 (tRet (tAndV (tCall (sp_integer_within K) [] E0 (tCons (tVar 3) (tCons (tC (.int 0)) (tCons (tOp rSubU (tVar 5) (tC (.int 1))) tNil)))) (tCall (sp_integer_within K) [] E0 (tCons (tVar 4) (tCons (tC (.int 0)) (tCons (tOp rSubU (tVar 6) (tC (.int 1))) tNil)))))))))
theorem dv_is_box (T : Txt K mg) (O_is_tuple : Okd P w K mg base CX0 1 "is_tuple" ["thing", "many"] (sp_is_tuple K)) (O_integer_within : Okd P w K mg base CX0 2 "integer_within" ["thing", "low", "high"] (sp_integer_within K)) {f : Addr} (cdv : Value) (A : Around) (outer : List PySem.Env) (s : Shared) (H : Hp) (E : XK) (hr : Room 2 (A.deeper (envOfC "is_box" (defScope s_is_box) s.heap.objs.size f cdv))) :
    PSs (cxOf CX0 P w K mg base N_is_box "is_box" (defScope s_is_box) f cdv A outer s H E) (defBody s_is_box) (t_is_box K) := by
  have sc := sc_is_box
  exact (pss_cons (ps_if (pt_not (pt_tr (pe_callD O_is_tuple hr (by decide) (pa_cons (pv 0) (pa_cons pe_int pa_nil))))) (pss_one (ps_ret pe_bl)) pss_nil)
 (pss_cons (ps_asg (pv 0) (pg_tup rfl (pgs_cons (pg_name (i := 3) sc.nd rfl (by first | exact Or.inl rfl | exact Or.inr rfl)) (pgs_cons (pg_name (i := 4) sc.nd rfl (by first | exact Or.inl rfl | exact Or.inr rfl)) (pgs_cons (pg_name (i := 5) sc.nd rfl (by first | exact Or.inl rfl | exact Or.inr rfl)) (pgs_cons (pg_name (i := 6) sc.nd rfl (by first | exact Or.inl rfl | exact Or.inr rfl)) pgs_nil))))))
 (pss_cons (ps_if (PW.pt (pw_or (pt_not (pt_tr (pe_callD O_integer_within hr (by decide) (pa_cons (pv 5) (pa_cons pe_int (pa_cons (pv 1) pa_nil)))))) (pw_or1 (pt_not (pt_tr (pe_callD O_integer_within hr (by decide) (pa_cons (pv 6) (pa_cons pe_int (pa_cons (pv 2) pa_nil))))))))) (pss_one (ps_ret pe_bl)) pss_nil)
 (pss_one (ps_ret (pe_and (pe_callD O_integer_within hr (by decide) (pa_cons (pv 3) (pa_cons pe_int (pa_cons (pe_op op_sub (pv 5) pe_int) pa_nil)))) (pe_one (pe_callD O_integer_within hr (by decide) (pa_cons (pv 4) (pa_cons pe_int (pa_cons (pe_op op_sub (pv 6) pe_int) pa_nil)))))))))))
def t_boxes_overlap (K : PySem.W.Frag) : TS := (tSeq (tIfS (tTest (tOp rGeU (tCB rMax2 (tCons (tOp (rIx K) (tVar 0) (tC (.int 0))) (tCons (tOp (rIx K) (tVar 1) (tC (.int 0))) tNil))) (tCB rMin2 (tCons (tOp (rIx K) (tVar 0) (tC (.int 2))) (tCons (tOp (rIx K) (tVar 1) (tC (.int 2))) tNil))))) (tRet (tC (.bl false))) tNext)
 (tRet (tOp rLtU (tCB rMax2 (tCons (tOp (rIx K) (tVar 0) (tC (.int 1))) (tCons (tOp (rIx K) (tVar 1) (tC (.int 1))) tNil))) (tCB rMin2 (tCons (tOp (rIx K) (tVar 0) (tC (.int 3))) (tCons (tOp (rIx K) (tVar 1) (tC (.int 3))) tNil))))))
theorem dv_boxes_overlap (T : Txt K mg)  {f : Addr} (cdv : Value) (A : Around) (outer : List PySem.Env) (s : Shared) (H : Hp) (E : XK) (hr : Room 0 (A.deeper (envOfC "boxes_overlap" (defScope s_boxes_overlap) s.heap.objs.size f cdv))) :
    PSs (cxOf CX0 P w K mg base N_boxes_overlap "boxes_overlap" (defScope s_boxes_overlap) f cdv A outer s H E) (defBody s_boxes_overlap) (t_boxes_overlap K) := by
  have sc := sc_boxes_overlap
  exact (pss_cons (ps_if (pt_cmpR op_geU (pe_callB (r := rMax2) (call_maxI rfl) rfl T.f_max b_max (pa_cons (pe_ix ix_seq (pv 0) pe_int (fun _ _ => rfl)) (pa_cons (pe_ix ix_seq (pv 1) pe_int (fun _ _ => rfl)) pa_nil))) (pe_callB (r := rMin2) (call_minI rfl) rfl T.f_min b_min (pa_cons (pe_ix ix_seq (pv 0) pe_int (fun _ _ => rfl)) (pa_cons (pe_ix ix_seq (pv 1) pe_int (fun _ _ => rfl)) pa_nil))) (nomark _)) (pss_one (ps_ret pe_bl)) pss_nil)
 (pss_one (ps_ret (pe_cmpR op_ltU (pe_callB (r := rMax2) (call_maxI rfl) rfl T.f_max b_max (pa_cons (pe_ix ix_seq (pv 0) pe_int (fun _ _ => rfl)) (pa_cons (pe_ix ix_seq (pv 1) pe_int (fun _ _ => rfl)) pa_nil))) (pe_callB (r := rMin2) (call_minI rfl) rfl T.f_min b_min (pa_cons (pe_ix ix_seq (pv 0) pe_int (fun _ _ => rfl)) (pa_cons (pe_ix ix_seq (pv 1) pe_int (fun _ _ => rfl)) pa_nil))) (nomark _)))))
def t_plan_fault (K : PySem.W.Frag) : TS := (tSeq (tIfS (tNot (tTr K (tCall (sp_plan_shaped K) [] E0 (tCons (tVar 0) tNil)))) (tRet (tTup (tCons (tUn (rU fun i => .int (-i)) (tC (.int 1))) (tCons (tC (.str "shape")) tNil)))) tNext)
 (tSeq (tAsg (tVar 0) (gTup K 4 (gCons (gName 1) (gCons (gName 2) (gCons (gName 3) (gCons (gName 4) gNil))))))
 (tSeq (tIfS (tNot (tTest (tChain rLeU rLeU (tC (.int 1)) (tCB (rLen K) (tCons (tVar 1) tNil)) (tC (.int 40))))) (tRet (tTup (tCons (tUn (rU fun i => .int (-i)) (tC (.int 1))) (tCons (tC (.str "limit")) tNil)))) tNext)
 (tSeq (tIfS (tOr (tNot (tTest (tChain rLeU rLeU (tC (.int 1)) (tVar 2) (tC (.int 10000))))) (tNot (tTest (tChain rLeU rLeU (tC (.int 1)) (tVar 3) (tC (.int 10000)))))) (tRet (tTup (tCons (tUn (rU fun i => .int (-i)) (tC (.int 1))) (tCons (tC (.str "limit")) tNil)))) tNext)
 (tSeq (tAsg (tCall (sp_rooms_fault K) [] E0 (tCons (tVar 1) tNil)) (gName 5))
 (tSeq (tIfS (tB (tNotN (tVar 5))) (tRet (tVar 5)) tNext)
 (tSeq (tFor (iEnumU K (tCons (tVar 4) tNil)) (gTup K 2 (gCons (gName 6) (gCons (gName 7) gNil))) (tIfS (tNot (tTr K (tCall (sp_is_box K) [] E0 (tCons (tVar 7) (tCons (tVar 2) (tCons (tVar 3) tNil)))))) (tRet (tTup (tCons (tVar 6) (tCons (tC (.str "box")) tNil)))) tNext))
 (tSeq (tFor (iEnumU K (tCons (tVar 4) tNil)) (gTup K 2 (gCons (gName 6) (gCons (gName 7) gNil))) (tIfS (tTr K (tCB (rAny K) (tCons (tLc (iSeqU K (tSl (rSlU K) (tVar 4) tNoPart (tPart (tVar 6)))) (gName 8) tYes (tCall (sp_boxes_overlap K) [] E0 (tCons (tVar 8) (tCons (tVar 7) tNil))) [8]) tNil))) (tRet (tTup (tCons (tVar 6) (tCons (tC (.str "overlap")) tNil)))) tNext))
 (tSeq (tIfS (tTest (tOp rLtU (tCB (rSum K) (tCons (tLc (iSeqU K (tVar 4)) (gTup K 4 (gCons (gName 9) (gCons (gName 10) (gCons (gName 11) (gCons (gName 12) gNil))))) tYes (tOp rMulU (tOp rSubU (tVar 11) (tVar 9)) (tOp rSubU (tVar 12) (tVar 10))) [9, 10, 11, 12]) tNil)) (tOp rMulU (tVar 2) (tVar 3)))) (tRet (tTup (tCons (tUn (rU fun i => .int (-i)) (tC (.int 1))) (tCons (tC (.str "gap")) tNil)))) tNext)
 (tSeq (tIfS (tTr K (tCall (sp_four_meet K) [] E0 (tCons (tVar 4) tNil))) (tRet (tTup (tCons (tUn (rU fun i => .int (-i)) (tC (.int 1))) (tCons (tC (.str "four")) tNil)))) tNext)
 (tRet (tC .non))))))))))))
theorem dv_plan_fault (T : Txt K mg) (O_rooms_fault : Okd P w K mg base CX0 2 "rooms_fault" ["rooms"] (sp_rooms_fault K)) (O_four_meet : Okd P w K mg base CX0 1 "four_meet" ["boxes"] (sp_four_meet K)) (O_plan_shaped : Okd P w K mg base CX0 2 "plan_shaped" ["thing"] (sp_plan_shaped K)) (O_is_box : Okd P w K mg base CX0 3 "is_box" ["thing", "width", "height"] (sp_is_box K)) (O_boxes_overlap : Okd P w K mg base CX0 1 "boxes_overlap" ["one", "other"] (sp_boxes_overlap K)) {f : Addr} (cdv : Value) (A : Around) (outer : List PySem.Env) (s : Shared) (H : Hp) (E : XK) (hr : Room 3 (A.deeper (envOfC "plan_fault" (defScope s_plan_fault) s.heap.objs.size f cdv))) :
    PSs (cxOf CX0 P w K mg base N_plan_fault "plan_fault" (defScope s_plan_fault) f cdv A outer s H E) (defBody s_plan_fault) (t_plan_fault K) := by
  have sc := sc_plan_fault
  have pa : PassesOwn (model P w) (cxOf CX0 P w K mg base N_plan_fault "plan_fault" (defScope s_plan_fault) f cdv A outer s H E).A (cxOf CX0 P w K mg base N_plan_fault "plan_fault" (defScope s_plan_fault) f cdv A outer s H E).env (cxOf CX0 P w K mg base N_plan_fault "plan_fault" (defScope s_plan_fault) f cdv A outer s H E).xe := passes_of rfl
  exact (pss_cons (ps_if (pt_not (pt_tr (pe_callD O_plan_shaped hr (by decide) (pa_cons (pv 0) pa_nil)))) (pss_one (ps_ret (pe_tup (pa_cons (pe_un un_neg pe_int) (pa_cons pe_str pa_nil))))) pss_nil)
 (pss_cons (ps_asg (pv 0) (pg_tup rfl (pgs_cons (pg_name (i := 1) sc.nd rfl (by first | exact Or.inl rfl | exact Or.inr rfl)) (pgs_cons (pg_name (i := 2) sc.nd rfl (by first | exact Or.inl rfl | exact Or.inr rfl)) (pgs_cons (pg_name (i := 3) sc.nd rfl (by first | exact Or.inl rfl | exact Or.inr rfl)) (pgs_cons (pg_name (i := 4) sc.nd rfl (by first | exact Or.inl rfl | exact Or.inr rfl)) pgs_nil))))))
 (pss_cons (ps_if (pt_not (pt_chain op_leU op_leU pe_int (pe_callB (r := rLen _) call_len rfl T.f_len b_len (pa_cons (pv 1) pa_nil)) (pe_gint T.c_ROOMS_MOST))) (pss_one (ps_ret (pe_tup (pa_cons (pe_un un_neg pe_int) (pa_cons pe_str pa_nil))))) pss_nil)
 (pss_cons (ps_if (PW.pt (pw_or (pt_not (pt_chain op_leU op_leU pe_int (pv 2) (pe_gint T.c_PLAN_MOST))) (pw_or1 (pt_not (pt_chain op_leU op_leU pe_int (pv 3) (pe_gint T.c_PLAN_MOST)))))) (pss_one (ps_ret (pe_tup (pa_cons (pe_un un_neg pe_int) (pa_cons pe_str pa_nil))))) pss_nil)
 (pss_cons (ps_set (i := 5) sc.nd rfl (by first | exact Or.inl rfl | exact Or.inr rfl) (pe_callD O_rooms_fault hr (by decide) (pa_cons (pv 1) pa_nil)))
 (pss_cons (ps_if (pt_cmp (pc_notN (pv 5))) (pss_one (ps_ret (pv 5))) pss_nil)
 (pss_cons (ps_for pa rfl (pi_enumU rfl T.f_enumerate (pa_cons (pv 4) pa_nil)) (pg_tup rfl (pgs_cons (pg_name (i := 6) sc.nd rfl (by first | exact Or.inl rfl | exact Or.inr rfl)) (pgs_cons (pg_name (i := 7) sc.nd rfl (by first | exact Or.inl rfl | exact Or.inr rfl)) pgs_nil))) (pss_one (ps_if (pt_not (pt_tr (pe_callD O_is_box hr (by decide) (pa_cons (pv 7) (pa_cons (pv 2) (pa_cons (pv 3) pa_nil)))))) (pss_one (ps_ret (pe_tup (pa_cons (pv 6) (pa_cons pe_str pa_nil))))) pss_nil)))
 (pss_cons (ps_for pa rfl (pi_enumU rfl T.f_enumerate (pa_cons (pv 4) pa_nil)) (pg_tup rfl (pgs_cons (pg_name (i := 6) sc.nd rfl (by first | exact Or.inl rfl | exact Or.inr rfl)) (pgs_cons (pg_name (i := 7) sc.nd rfl (by first | exact Or.inl rfl | exact Or.inr rfl)) pgs_nil))) (pss_one (ps_if (pt_tr (pe_callB (r := rAny _) (cr_any rfl) rfl T.f_any b_any (pa_cons (pe_lc (own := [("earlier", 8)]) (g := (gName 8)) (tt := tYes) rfl sc.nd (pi_seqU (pe_slice sl_U (pv 4) po_none (po_some (pv 6)))) (blkOk_by (own := [("earlier", 8)]) (N := N_plan_fault) (sc := defScope s_plan_fault) (by decide +kernel)) (fun _ _ _ _ _ => (pg_name (i := 8) sc.nd rfl (by first | exact Or.inl rfl | exact Or.inr rfl))) (fun _ _ _ _ _ => pts_nil) (fun _ _ _ _ _ => (pe_callD O_boxes_overlap hr (by decide) (pa_cons (pv 8) (pa_cons (pv 7) pa_nil))))) pa_nil))) (pss_one (ps_ret (pe_tup (pa_cons (pv 6) (pa_cons pe_str pa_nil))))) pss_nil)))
 (pss_cons (ps_if (pt_cmpR op_ltU (pe_callB (r := rSum _) (cr_sum rfl) rfl T.f_sum b_sum (pa_cons (pe_lc (own := [("west", 9), ("south", 10), ("east", 11), ("north", 12)]) (g := (gTup K 4 (gCons (gName 9) (gCons (gName 10) (gCons (gName 11) (gCons (gName 12) gNil)))))) (tt := tYes) rfl sc.nd (pi_seqU (pv 4)) (blkOk_by (own := [("west", 9), ("south", 10), ("east", 11), ("north", 12)]) (N := N_plan_fault) (sc := defScope s_plan_fault) (by decide +kernel)) (fun _ _ _ _ _ => (pg_tup rfl (pgs_cons (pg_name (i := 9) sc.nd rfl (by first | exact Or.inl rfl | exact Or.inr rfl)) (pgs_cons (pg_name (i := 10) sc.nd rfl (by first | exact Or.inl rfl | exact Or.inr rfl)) (pgs_cons (pg_name (i := 11) sc.nd rfl (by first | exact Or.inl rfl | exact Or.inr rfl)) (pgs_cons (pg_name (i := 12) sc.nd rfl (by first | exact Or.inl rfl | exact Or.inr rfl)) pgs_nil)))))) (fun _ _ _ _ _ => pts_nil) (fun _ _ _ _ _ => (pe_op op_mulU (pe_op op_sub (pv 11) (pv 9)) (pe_op op_sub (pv 12) (pv 10))))) pa_nil)) (pe_op op_mulU (pv 2) (pv 3)) (nomark _)) (pss_one (ps_ret (pe_tup (pa_cons (pe_un un_neg pe_int) (pa_cons pe_str pa_nil))))) pss_nil)
 (pss_cons (ps_if (pt_tr (pe_callD O_four_meet hr (by decide) (pa_cons (pv 4) pa_nil))) (pss_one (ps_ret (pe_tup (pa_cons (pe_un un_neg pe_int) (pa_cons pe_str pa_nil))))) pss_nil)
 (pss_one (ps_ret pe_non))))))))))))
def t_check_plan (K : PySem.W.Frag) (Ex : XK) : TS := (tSeq (tAsg (tCall (sp_plan_fault K) [] E0 (tCons (tVar 0) tNil)) (gName 1))
 (tSeq (tIfS (tB (tNotN (tVar 1))) (tRaiseO K (He.ga K "BadPlan") ["at", "word"] Ex (tCons (tOp (rIx K) (tVar 1) (tC (.int 0))) (tCons (tOp (rIx K) (tVar 1) (tC (.int 1))) tNil))) tNext)
 (tRet (tCB (rLen K) (tCons (tOp (rIx K) (tVar 0) (tC (.int 0))) tNil)))))
theorem dv_check_plan (T : Txt K mg) (O_plan_fault : Okd P w K mg base CX0 4 "plan_fault" ["thing"] (sp_plan_fault K)) (X_BadPlan : ExOk P w K mg base 1 "BadPlan" ["at", "word"]) {f : Addr} (cdv : Value) (A : Around) (outer : List PySem.Env) (s : Shared) (H : Hp) (E : XK) (hr : Room 4 (A.deeper (envOfC "check_plan" (defScope s_check_plan) s.heap.objs.size f cdv))) :
    PSs (cxOf (L2N.CX P w) P w K mg base N_check_plan "check_plan" (defScope s_check_plan) f cdv A outer s H E) (defBody s_check_plan) (t_check_plan K E) := by
  have sc := sc_check_plan
  have tk : L2N.Takes (cxOf (L2N.CX P w) P w K mg base N_check_plan "check_plan" (defScope s_check_plan) f cdv A outer s H E) (fun cls d _ H => E cls d H) := L2N.takes_of rfl rfl rfl rfl
  exact (pss_cons (ps_set (i := 1) sc.nd rfl (by first | exact Or.inl rfl | exact Or.inr rfl) (pe_callD O_plan_fault hr (by decide) (pa_cons (pv 0) pa_nil)))
 (pss_cons (ps_if (pt_cmp (pc_notN (pv 1))) (pss_one (ps_raiseON X_BadPlan hr (by decide) rfl tk (pa_cons (pe_ix ix_seq (pv 1) pe_int (fun _ _ => rfl)) (pa_cons (pe_ix ix_seq (pv 1) pe_int (fun _ _ => rfl)) pa_nil)))) pss_nil)
 (pss_one (ps_ret (pe_callB (r := rLen _) call_len rfl T.f_len b_len (pa_cons (pe_ix ix_seq (pv 0) pe_int (fun _ _ => rfl)) pa_nil))))))
def t_u_law_state (K : PySem.W.Frag) : TS := (tSeq (tAsg (tC (.int 7151)) (gName 1))
 (tSeq (tFor (iSeqU K (tVar 0)) (gName 2) (tAsg (tOp rModU (tOp (rAddU K) (tOp (rAddU K) (tOp rMulU (tVar 1) (tC (.int 48271))) (tOp rModU (tCB rIntU (tCons (tVar 2) tNil)) (tC (.int 1000003)))) (tC (.int 11))) (tC (.int 2147483647))) (gName 1)))
 (tRet (tLst (tCons (tC (.int 0)) (tCons (tLc (iSeqU K (tVar 0)) (gName 2) (tTest (tOp rGeU (tCB rAbs (tCons (tCB rIntU (tCons (tVar 2) tNil)) tNil)) (tOp rPowU (tC (.int 10)) (tC (.int 18))))) (tCB rAbs (tCons (tCB rIntU (tCons (tVar 2) tNil)) tNil)) [2]) (tCons (tVar 1) (tCons (tC (.int 0)) tNil))))))))
theorem dv_u_law_state (T : Txt K mg)  {f : Addr} (cdv : Value) (A : Around) (outer : List PySem.Env) (s : Shared) (H : Hp) (E : XK) (hr : Room 0 (A.deeper (envOfC "_law_state" (defScope s_u_law_state) s.heap.objs.size f cdv))) :
    PSs (cxOf CX0 P w K mg base N_u_law_state "_law_state" (defScope s_u_law_state) f cdv A outer s H E) (defBody s_u_law_state) (t_u_law_state K) := by
  have sc := sc_u_law_state
  have pa : PassesOwn (model P w) (cxOf CX0 P w K mg base N_u_law_state "_law_state" (defScope s_u_law_state) f cdv A outer s H E).A (cxOf CX0 P w K mg base N_u_law_state "_law_state" (defScope s_u_law_state) f cdv A outer s H E).env (cxOf CX0 P w K mg base N_u_law_state "_law_state" (defScope s_u_law_state) f cdv A outer s H E).xe := passes_of rfl
  exact (pss_cons (ps_set (i := 1) sc.nd rfl (by first | exact Or.inl rfl | exact Or.inr rfl) pe_int)
 (pss_cons (ps_for pa rfl (pi_seqU (pv 0)) (pg_name (i := 2) sc.nd rfl (by first | exact Or.inl rfl | exact Or.inr rfl)) (pss_one (ps_set (i := 1) sc.nd rfl (by first | exact Or.inl rfl | exact Or.inr rfl) (pe_op op_mod (pe_op op_addU (pe_op op_addU (pe_op op_mulU (pv 1) pe_int) (pe_op op_mod (pe_callTy (r := rIntU) call_int1 rfl T.f_int b_int (pa_cons (pv 2) pa_nil)) pe_int)) pe_int) pe_int))))
 (pss_one (ps_ret (pe_lst (pa_cons pe_int (pa_cons (pe_lc (own := [("cell", 2)]) (g := (gName 2)) (tt := (tTest (tOp rGeU (tCB rAbs (tCons (tCB rIntU (tCons (tVar 2) tNil)) tNil)) (tOp rPowU (tC (.int 10)) (tC (.int 18)))))) rfl sc.nd (pi_seqU (pv 0)) (blkOk_by (own := [("cell", 2)]) (N := N_u_law_state) (sc := defScope s_u_law_state) (by decide +kernel)) (fun _ _ _ _ _ => (pg_name (i := 2) sc.nd rfl (by first | exact Or.inl rfl | exact Or.inr rfl))) (fun _ _ _ _ _ => (pts_one (pt_cmpR op_geU (pe_callB (r := rAbs) call_absI rfl T.f_abs b_abs (pa_cons (pe_callTy (r := rIntU) call_int1 rfl T.f_int b_int (pa_cons (pv 2) pa_nil)) pa_nil)) (pe_op op_pow pe_int pe_int) (nomark _)))) (fun _ _ _ _ _ => (pe_callB (r := rAbs) call_absI rfl T.f_abs b_abs (pa_cons (pe_callTy (r := rIntU) call_int1 rfl T.f_int b_int (pa_cons (pv 2) pa_nil)) pa_nil)))) (pa_cons (pv 1) (pa_cons pe_int pa_nil)))))))))
def t_u_law_take (K : PySem.W.Frag) : TS := (tSeq (tIfS (tAnd (tTest (tOp (rEqU K) (tOp (rIx K) (tVar 0) (tC (.int 0))) (tC (.int 0)))) (tTest (tOp rGtU (tCB (rLen K) (tCons (tOp (rIx K) (tVar 0) (tC (.int 1))) tNil)) (tC (.int 0))))) (tAsg (tBM K "list" rPopAt (tOp (rIx K) (tVar 0) (tC (.int 1))) (tCons (tC (.int 0)) tNil)) (gSub (tVar 0) (tC (.int 0)) rSetL)) tNext)
 (tSeq (tIfS (tTest (tOp rGtU (tOp (rIx K) (tVar 0) (tC (.int 0))) (tC (.int 0)))) (tSeq (tAsg (tOp rModU (tCB rIntU (tCons (tOp (rIx K) (tVar 0) (tC (.int 0))) tNil)) (tVar 1)) (gName 2))
 (tSeq (tAsg (tOp rDivU (tCB rIntU (tCons (tOp (rIx K) (tVar 0) (tC (.int 0))) tNil)) (tVar 1)) (gSub (tVar 0) (tC (.int 0)) rSetL))
 (tRet (tVar 2)))) tNext)
 (tSeq (tAugS (tVar 0) (tC (.int 3)) (tC (.int 1)) (rGetN K) rIAddU rSetL)
 (tSeq (tAsg (tOp rModU (tOp (rAddU K) (tOp (rAddU K) (tOp rMulU (tCB rIntU (tCons (tOp (rIx K) (tVar 0) (tC (.int 2))) tNil)) (tC (.int 69621))) (tOp rMulU (tCB rIntU (tCons (tOp (rIx K) (tVar 0) (tC (.int 3))) tNil)) (tC (.int 40692)))) (tC (.int 3))) (tC (.int 2147483399))) (gName 3))
 (tSeq (tAsg (tOp rModU (tOp (rAddU K) (tOp rMulU (tVar 3) (tVar 3)) (tCB rIntU (tCons (tOp (rIx K) (tVar 0) (tC (.int 2))) tNil))) (tC (.int 2147483249))) (gName 3))
 (tSeq (tAsg (tOp rModU (tOp (rAddU K) (tOp rMulU (tVar 3) (tVar 3)) (tCB rIntU (tCons (tOp (rIx K) (tVar 0) (tC (.int 3))) tNil))) (tC (.int 2147483179))) (gName 3))
 (tRet (tOp rModU (tOp rDivU (tVar 3) (tC (.int 13))) (tVar 1)))))))))
theorem dv_u_law_take (T : Txt K mg)  {f : Addr} (cdv : Value) (A : Around) (outer : List PySem.Env) (s : Shared) (H : Hp) (E : XK) (hr : Room 0 (A.deeper (envOfC "_law_take" (defScope s_u_law_take) s.heap.objs.size f cdv))) :
    PSs (cxOf CX0 P w K mg base N_u_law_take "_law_take" (defScope s_u_law_take) f cdv A outer s H E) (defBody s_u_law_take) (t_u_law_take K) := by
  have sc := sc_u_law_take
  exact (pss_cons (ps_if (PW.pt (pw_and (pt_cmpR (op_eqU hr.units) (pe_ix ix_seq (pv 0) pe_int (fun _ _ => rfl)) pe_int (nomark _)) (pw_and1 (pt_cmpR op_gtU (pe_callB (r := rLen _) call_len rfl T.f_len b_len (pa_cons (pe_ix ix_seq (pv 0) pe_int (fun _ _ => rfl)) pa_nil)) pe_int (nomark _))))) (pss_one (ps_asg (pe_bm PySem.F.plainAttrs_list PySem.F.slot_list_pop PySem.F.type_list_pop mt_popAt (pe_ix ix_seq (pv 0) pe_int (fun _ _ => rfl)) (pa_cons pe_int pa_nil)) (pg_sub (pv 0) pe_int set_list))) pss_nil)
 (pss_cons (ps_if (pt_cmpR op_gtU (pe_ix ix_seq (pv 0) pe_int (fun _ _ => rfl)) pe_int (nomark _)) (pss_cons (ps_set (i := 2) sc.nd rfl (by first | exact Or.inl rfl | exact Or.inr rfl) (pe_op op_mod (pe_callTy (r := rIntU) call_int1 rfl T.f_int b_int (pa_cons (pe_ix ix_seq (pv 0) pe_int (fun _ _ => rfl)) pa_nil)) (pv 1)))
 (pss_cons (ps_asg (pe_op op_fdiv (pe_callTy (r := rIntU) call_int1 rfl T.f_int b_int (pa_cons (pe_ix ix_seq (pv 0) pe_int (fun _ _ => rfl)) pa_nil)) (pv 1)) (pg_sub (pv 0) pe_int set_list))
 (pss_one (ps_ret (pv 2))))) pss_nil)
 (pss_cons (ps_augS (pv 0) pe_int get_ixN pe_int ip_addU set_list)
 (pss_cons (ps_set (i := 3) sc.nd rfl (by first | exact Or.inl rfl | exact Or.inr rfl) (pe_op op_mod (pe_op op_addU (pe_op op_addU (pe_op op_mulU (pe_callTy (r := rIntU) call_int1 rfl T.f_int b_int (pa_cons (pe_ix ix_seq (pv 0) pe_int (fun _ _ => rfl)) pa_nil)) pe_int) (pe_op op_mulU (pe_callTy (r := rIntU) call_int1 rfl T.f_int b_int (pa_cons (pe_ix ix_seq (pv 0) pe_int (fun _ _ => rfl)) pa_nil)) pe_int)) pe_int) pe_int))
 (pss_cons (ps_set (i := 3) sc.nd rfl (by first | exact Or.inl rfl | exact Or.inr rfl) (pe_op op_mod (pe_op op_addU (pe_op op_mulU (pv 3) (pv 3)) (pe_callTy (r := rIntU) call_int1 rfl T.f_int b_int (pa_cons (pe_ix ix_seq (pv 0) pe_int (fun _ _ => rfl)) pa_nil))) pe_int))
 (pss_cons (ps_set (i := 3) sc.nd rfl (by first | exact Or.inl rfl | exact Or.inr rfl) (pe_op op_mod (pe_op op_addU (pe_op op_mulU (pv 3) (pv 3)) (pe_callTy (r := rIntU) call_int1 rfl T.f_int b_int (pa_cons (pe_ix ix_seq (pv 0) pe_int (fun _ _ => rfl)) pa_nil))) pe_int))
 (pss_one (ps_ret (pe_op op_mod (pe_op op_fdiv (pv 3) pe_int) (pv 1))))))))))
def t_u_law_names (K : PySem.W.Frag) : TS := (tSeq (tAsg (tC (.str "abcdefghijklmnopqrstuvwxyz")) (gName 2))
 (tSeq (tAsg (tLst tNil) (gName 3))
 (tSeq (tFor (iRng1 (tCons (tVar 1) tNil)) (gName 4) (tSeq (tAsg (tOp (rIx K) (tVar 2) (tCall (sp_u_law_take K) [] E0 (tCons (tVar 0) (tCons (tC (.int 26)) tNil)))) (gName 5))
 (tSeq (tFor (iRng1 (tCons (tOp (rIx K) (tLst (tCons (tC (.int 0)) (tCons (tC (.int 0)) (tCons (tC (.int 1)) (tCons (tC (.int 1)) (tCons (tC (.int 2)) (tCons (tC (.int 7)) tNil))))))) (tCall (sp_u_law_take K) [] E0 (tCons (tVar 0) (tCons (tC (.int 6)) tNil)))) tNil)) (gName 6) (tAsg (tOp (rAddU K) (tVar 5) (tOp (rIx K) (tOp (rAddU K) (tVar 2) (tC (.str "0123456789"))) (tCall (sp_u_law_take K) [] E0 (tCons (tVar 0) (tCons (tC (.int 36)) tNil))))) (gName 5)))
 (tSeq (tIfS (tAnd (tTest (tOp rGtU (tVar 4) (tC (.int 0)))) (tTest (tOp (rEqU K) (tCall (sp_u_law_take K) [] E0 (tCons (tVar 0) (tCons (tC (.int 5)) tNil))) (tC (.int 0))))) (tAsg (tSl (rSlU K) (tOp (rAddU K) (tOp (rIx K) (tVar 3) (tOp rSubU (tVar 4) (tC (.int 1)))) (tVar 5)) tNoPart (tPart (tC (.int 8)))) (gName 5)) tNext)
 (tSeq (tIfS (tTest (tOp (rInU K) (tVar 5) (tVar 3))) (tSeq (tAsg (tLc (iRng1 (tCons (tOp (rAddU K) (tCB (rLen K) (tCons (tVar 3) tNil)) (tC (.int 1))) tNil)) (gName 6) tYes (tOp (rAddU K) (tC (.str "n")) (tCB rStrI (tCons (tVar 6) tNil))) [6]) (gName 7))
 (tSeq (tAsg (tLc (iSeqU K (tVar 7)) (gName 8) (tTest (tOp (rNinU K) (tVar 8) (tVar 3))) (tVar 8) [8]) (gName 7))
 (tAsg (tOp (rIx K) (tVar 7) (tC (.int 0))) (gName 5)))) tNext)
 (tDrop (tBM K "list" rAppend (tVar 3) (tCons (tVar 5) tNil))))))))
 (tRet (tCB (rSortedS K) (tCons (tVar 3) tNil))))))
theorem dv_u_law_names (T : Txt K mg) (O_u_law_take : Okd P w K mg base CX0 1 "_law_take" ["state", "many"] (sp_u_law_take K)) {f : Addr} (cdv : Value) (A : Around) (outer : List PySem.Env) (s : Shared) (H : Hp) (E : XK) (hr : Room 1 (A.deeper (envOfC "_law_names" (defScope s_u_law_names) s.heap.objs.size f cdv))) :
    PSs (cxOf CX0 P w K mg base N_u_law_names "_law_names" (defScope s_u_law_names) f cdv A outer s H E) (defBody s_u_law_names) (t_u_law_names K) := by
  have sc := sc_u_law_names
  have pa : PassesOwn (model P w) (cxOf CX0 P w K mg base N_u_law_names "_law_names" (defScope s_u_law_names) f cdv A outer s H E).A (cxOf CX0 P w K mg base N_u_law_names "_law_names" (defScope s_u_law_names) f cdv A outer s H E).env (cxOf CX0 P w K mg base N_u_law_names "_law_names" (defScope s_u_law_names) f cdv A outer s H E).xe := passes_of rfl
  exact (pss_cons (ps_set (i := 2) sc.nd rfl (by first | exact Or.inl rfl | exact Or.inr rfl) pe_str)
 (pss_cons (ps_set (i := 3) sc.nd rfl (by first | exact Or.inl rfl | exact Or.inr rfl) (pe_lst pa_nil))
 (pss_cons (ps_for pa rfl (pi_range1 rfl T.f_range (pa_cons (pv 1) pa_nil)) (pg_name (i := 4) sc.nd rfl (by first | exact Or.inl rfl | exact Or.inr rfl)) (pss_cons (ps_set (i := 5) sc.nd rfl (by first | exact Or.inl rfl | exact Or.inr rfl) (pe_ix ix_seq (pv 2) (pe_callD O_u_law_take hr (by decide) (pa_cons (pv 0) (pa_cons pe_int pa_nil))) (fun _ _ => rfl)))
 (pss_cons (ps_for pa rfl (pi_range1 rfl T.f_range (pa_cons (pe_ix ix_seq (pe_lst (pa_cons pe_int (pa_cons pe_int (pa_cons pe_int (pa_cons pe_int (pa_cons pe_int (pa_cons pe_int pa_nil))))))) (pe_callD O_u_law_take hr (by decide) (pa_cons (pv 0) (pa_cons pe_int pa_nil))) (fun _ _ => rfl)) pa_nil)) (pg_name (i := 6) sc.nd rfl (by first | exact Or.inl rfl | exact Or.inr rfl)) (pss_one (ps_set (i := 5) sc.nd rfl (by first | exact Or.inl rfl | exact Or.inr rfl) (pe_op op_addU (pv 5) (pe_ix ix_seq (pe_op op_addU (pv 2) pe_str) (pe_callD O_u_law_take hr (by decide) (pa_cons (pv 0) (pa_cons pe_int pa_nil))) (fun _ _ => rfl))))))
 (pss_cons (ps_if (PW.pt (pw_and (pt_cmpR op_gtU (pv 4) pe_int (nomark _)) (pw_and1 (pt_cmpR (op_eqU hr.units) (pe_callD O_u_law_take hr (by decide) (pa_cons (pv 0) (pa_cons pe_int pa_nil))) pe_int (nomark _))))) (pss_one (ps_set (i := 5) sc.nd rfl (by first | exact Or.inl rfl | exact Or.inr rfl) (pe_slice sl_U (pe_op op_addU (pe_ix ix_seq (pv 3) (pe_op op_sub (pv 4) pe_int) (fun _ _ => rfl)) (pv 5)) po_none (po_some pe_int)))) pss_nil)
 (pss_cons (ps_if (pt_cmpR op_inU (pv 5) (pv 3) rfl) (pss_cons (ps_setLc (i := 7) (own := [("j", 6)]) (g := (gName 6)) (tt := tYes) rfl sc.nd rfl rfl (sw_true rfl rfl rfl (by decide +kernel)) (pi_range1 rfl T.f_range (pa_cons (pe_op op_addU (pe_callB (r := rLen _) call_len rfl T.f_len b_len (pa_cons (pv 3) pa_nil)) pe_int) pa_nil)) (blkOk_by (own := [("j", 6)]) (N := N_u_law_names) (sc := defScope s_u_law_names) (by decide +kernel)) (fun _ _ _ _ _ => (pg_name (i := 6) sc.nd rfl (by first | exact Or.inl rfl | exact Or.inr rfl))) (fun _ _ _ _ _ => pts_nil) (fun _ _ _ _ _ => (pe_op op_addU pe_str (pe_callTy (r := rStrI) call_strI rfl T.f_str b_str (pa_cons (pv 6) pa_nil)))))
 (pss_cons (ps_setLc (i := 7) (own := [("other", 8)]) (g := (gName 8)) (tt := (tTest (tOp (rNinU K) (tVar 8) (tVar 3)))) rfl sc.nd rfl rfl (sw_true rfl rfl rfl (by decide +kernel)) (pi_seqU (pv 7)) (blkOk_by (own := [("other", 8)]) (N := N_u_law_names) (sc := defScope s_u_law_names) (by decide +kernel)) (fun _ _ _ _ _ => (pg_name (i := 8) sc.nd rfl (by first | exact Or.inl rfl | exact Or.inr rfl))) (fun _ _ _ _ _ => (pts_one (pt_cmpR op_ninU (pv 8) (pv 3) rfl))) (fun _ _ _ _ _ => (pv 8)))
 (pss_one (ps_set (i := 5) sc.nd rfl (by first | exact Or.inl rfl | exact Or.inr rfl) (pe_ix ix_seq (pv 7) pe_int (fun _ _ => rfl)))))) pss_nil)
 (pss_one (ps_expr (pe_bm PySem.F.plainAttrs_list PySem.F.slot_list_append PySem.F.type_list_append mt_append (pv 3) (pa_cons (pv 5) pa_nil)))))))))
 (pss_one (ps_ret (pe_callB (r := rSortedS _) cr_sortedS rfl T.f_sorted b_sorted (pa_cons (pv 3) pa_nil)))))))
def t_u_law_mill (K : PySem.W.Frag) : TS := (tSeq (tAsg (tVar 1) (gTup K 4 (gCons (gName 4) (gCons (gName 5) (gCons (gName 6) (gCons (gName 7) gNil))))))
 (tSeq (tAsg (tCB (rSorted K) (tCons (tLst (tCons (tOp (rAddU K) (tOp (rAddU K) (tVar 4) (tC (.int 1))) (tCall (sp_u_law_take K) [] E0 (tCons (tVar 0) (tCons (tCB rMax2 (tCons (tC (.int 1)) (tCons (tOp rSubU (tOp rSubU (tVar 6) (tVar 4)) (tC (.int 1))) tNil))) tNil)))) (tCons (tOp (rAddU K) (tOp (rAddU K) (tVar 4) (tC (.int 1))) (tCall (sp_u_law_take K) [] E0 (tCons (tVar 0) (tCons (tCB rMax2 (tCons (tC (.int 1)) (tCons (tOp rSubU (tOp rSubU (tVar 6) (tVar 4)) (tC (.int 1))) tNil))) tNil)))) tNil))) tNil)) (gName 8))
 (tSeq (tAsg (tCB (rSorted K) (tCons (tLst (tCons (tOp (rAddU K) (tOp (rAddU K) (tVar 5) (tC (.int 1))) (tCall (sp_u_law_take K) [] E0 (tCons (tVar 0) (tCons (tCB rMax2 (tCons (tC (.int 1)) (tCons (tOp rSubU (tOp rSubU (tVar 7) (tVar 5)) (tC (.int 1))) tNil))) tNil)))) (tCons (tOp (rAddU K) (tOp (rAddU K) (tVar 5) (tC (.int 1))) (tCall (sp_u_law_take K) [] E0 (tCons (tVar 0) (tCons (tCB rMax2 (tCons (tC (.int 1)) (tCons (tOp rSubU (tOp rSubU (tVar 7) (tVar 5)) (tC (.int 1))) tNil))) tNil)))) tNil))) tNil)) (gName 9))
 (tSeq (tIfS (tOr (tTest (tOp (rEqU K) (tOp (rIx K) (tVar 8) (tC (.int 0))) (tOp (rIx K) (tVar 8) (tC (.int 1))))) (tOr (tTest (tOp (rEqU K) (tOp (rIx K) (tVar 9) (tC (.int 0))) (tOp (rIx K) (tVar 9) (tC (.int 1))))) (tOr (tTest (tOp rGeU (tOp (rIx K) (tVar 8) (tC (.int 1))) (tVar 6))) (tTest (tOp rGeU (tOp (rIx K) (tVar 9) (tC (.int 1))) (tVar 7)))))) (tRet (tLst (tCons (tVar 1) tNil))) tNext)
 (tSeq (tIfS (tOr (tTest (tOp (rInU K) (tOp (rIx K) (tVar 8) (tC (.int 0))) (tVar 2))) (tOr (tTest (tOp (rInU K) (tOp (rIx K) (tVar 8) (tC (.int 1))) (tVar 2))) (tOr (tTest (tOp (rInU K) (tOp (rIx K) (tVar 9) (tC (.int 0))) (tVar 3))) (tTest (tOp (rInU K) (tOp (rIx K) (tVar 9) (tC (.int 1))) (tVar 3)))))) (tRet (tLst (tCons (tVar 1) tNil))) tNext)
 (tSeq (tDrop (tBM K "list" rAppend (tVar 2) (tCons (tOp (rIx K) (tVar 8) (tC (.int 0))) tNil)))
 (tSeq (tDrop (tBM K "list" rAppend (tVar 2) (tCons (tOp (rIx K) (tVar 8) (tC (.int 1))) tNil)))
 (tSeq (tDrop (tBM K "list" rAppend (tVar 3) (tCons (tOp (rIx K) (tVar 9) (tC (.int 0))) tNil)))
 (tSeq (tDrop (tBM K "list" rAppend (tVar 3) (tCons (tOp (rIx K) (tVar 9) (tC (.int 1))) tNil)))
 (tSeq (tAsg (tTup (tCons (tOp (rIx K) (tVar 8) (tC (.int 0))) (tCons (tOp (rIx K) (tVar 9) (tC (.int 0))) (tCons (tOp (rIx K) (tVar 8) (tC (.int 1))) (tCons (tOp (rIx K) (tVar 9) (tC (.int 1))) tNil))))) (gName 10))
 (tSeq (tIfS (tTest (tOp (rEqU K) (tCall (sp_u_law_take K) [] E0 (tCons (tVar 0) (tCons (tC (.int 2)) tNil))) (tC (.int 0)))) (tRet (tLst (tCons (tVar 10) (tCons (tTup (tCons (tVar 4) (tCons (tOp (rIx K) (tVar 9) (tC (.int 1))) (tCons (tOp (rIx K) (tVar 8) (tC (.int 1))) (tCons (tVar 7) tNil))))) (tCons (tTup (tCons (tOp (rIx K) (tVar 8) (tC (.int 1))) (tCons (tOp (rIx K) (tVar 9) (tC (.int 0))) (tCons (tVar 6) (tCons (tVar 7) tNil))))) (tCons (tTup (tCons (tOp (rIx K) (tVar 8) (tC (.int 0))) (tCons (tVar 5) (tCons (tVar 6) (tCons (tOp (rIx K) (tVar 9) (tC (.int 0))) tNil))))) (tCons (tTup (tCons (tVar 4) (tCons (tVar 5) (tCons (tOp (rIx K) (tVar 8) (tC (.int 0))) (tCons (tOp (rIx K) (tVar 9) (tC (.int 1))) tNil))))) tNil))))))) tNext)
 (tRet (tLst (tCons (tVar 10) (tCons (tTup (tCons (tOp (rIx K) (tVar 8) (tC (.int 0))) (tCons (tOp (rIx K) (tVar 9) (tC (.int 1))) (tCons (tVar 6) (tCons (tVar 7) tNil))))) (tCons (tTup (tCons (tVar 4) (tCons (tOp (rIx K) (tVar 9) (tC (.int 0))) (tCons (tOp (rIx K) (tVar 8) (tC (.int 0))) (tCons (tVar 7) tNil))))) (tCons (tTup (tCons (tVar 4) (tCons (tVar 5) (tCons (tOp (rIx K) (tVar 8) (tC (.int 1))) (tCons (tOp (rIx K) (tVar 9) (tC (.int 0))) tNil))))) (tCons (tTup (tCons (tOp (rIx K) (tVar 8) (tC (.int 1))) (tCons (tVar 5) (tCons (tVar 6) (tCons (tOp (rIx K) (tVar 9) (tC (.int 1))) tNil))))) tNil))))))))))))))))))
theorem dv_u_law_mill (T : Txt K mg) (O_u_law_take : Okd P w K mg base CX0 1 "_law_take" ["state", "many"] (sp_u_law_take K)) {f : Addr} (cdv : Value) (A : Around) (outer : List PySem.Env) (s : Shared) (H : Hp) (E : XK) (hr : Room 1 (A.deeper (envOfC "_law_mill" (defScope s_u_law_mill) s.heap.objs.size f cdv))) :
    PSs (cxOf CX0 P w K mg base N_u_law_mill "_law_mill" (defScope s_u_law_mill) f cdv A outer s H E) (defBody s_u_law_mill) (t_u_law_mill K) := by
  have sc := sc_u_law_mill
  exact (pss_cons (ps_asg (pv 1) (pg_tup rfl (pgs_cons (pg_name (i := 4) sc.nd rfl (by first | exact Or.inl rfl | exact Or.inr rfl)) (pgs_cons (pg_name (i := 5) sc.nd rfl (by first | exact Or.inl rfl | exact Or.inr rfl)) (pgs_cons (pg_name (i := 6) sc.nd rfl (by first | exact Or.inl rfl | exact Or.inr rfl)) (pgs_cons (pg_name (i := 7) sc.nd rfl (by first | exact Or.inl rfl | exact Or.inr rfl)) pgs_nil))))))
 (pss_cons (ps_set (i := 8) sc.nd rfl (by first | exact Or.inl rfl | exact Or.inr rfl) (pe_callB (r := rSorted _) cr_sorted rfl T.f_sorted b_sorted (pa_cons (pe_lst (pa_cons (pe_op op_addU (pe_op op_addU (pv 4) pe_int) (pe_callD O_u_law_take hr (by decide) (pa_cons (pv 0) (pa_cons (pe_callB (r := rMax2) (call_maxI rfl) rfl T.f_max b_max (pa_cons pe_int (pa_cons (pe_op op_sub (pe_op op_sub (pv 6) (pv 4)) pe_int) pa_nil))) pa_nil)))) (pa_cons (pe_op op_addU (pe_op op_addU (pv 4) pe_int) (pe_callD O_u_law_take hr (by decide) (pa_cons (pv 0) (pa_cons (pe_callB (r := rMax2) (call_maxI rfl) rfl T.f_max b_max (pa_cons pe_int (pa_cons (pe_op op_sub (pe_op op_sub (pv 6) (pv 4)) pe_int) pa_nil))) pa_nil)))) pa_nil))) pa_nil)))
 (pss_cons (ps_set (i := 9) sc.nd rfl (by first | exact Or.inl rfl | exact Or.inr rfl) (pe_callB (r := rSorted _) cr_sorted rfl T.f_sorted b_sorted (pa_cons (pe_lst (pa_cons (pe_op op_addU (pe_op op_addU (pv 5) pe_int) (pe_callD O_u_law_take hr (by decide) (pa_cons (pv 0) (pa_cons (pe_callB (r := rMax2) (call_maxI rfl) rfl T.f_max b_max (pa_cons pe_int (pa_cons (pe_op op_sub (pe_op op_sub (pv 7) (pv 5)) pe_int) pa_nil))) pa_nil)))) (pa_cons (pe_op op_addU (pe_op op_addU (pv 5) pe_int) (pe_callD O_u_law_take hr (by decide) (pa_cons (pv 0) (pa_cons (pe_callB (r := rMax2) (call_maxI rfl) rfl T.f_max b_max (pa_cons pe_int (pa_cons (pe_op op_sub (pe_op op_sub (pv 7) (pv 5)) pe_int) pa_nil))) pa_nil)))) pa_nil))) pa_nil)))
 (pss_cons (ps_if (PW.pt (pw_or (pt_cmpR (op_eqU hr.units) (pe_ix ix_seq (pv 8) pe_int (fun _ _ => rfl)) (pe_ix ix_seq (pv 8) pe_int (fun _ _ => rfl)) (nomark _)) (pw_or (pt_cmpR (op_eqU hr.units) (pe_ix ix_seq (pv 9) pe_int (fun _ _ => rfl)) (pe_ix ix_seq (pv 9) pe_int (fun _ _ => rfl)) (nomark _)) (pw_or (pt_cmpR op_geU (pe_ix ix_seq (pv 8) pe_int (fun _ _ => rfl)) (pv 6) (nomark _)) (pw_or1 (pt_cmpR op_geU (pe_ix ix_seq (pv 9) pe_int (fun _ _ => rfl)) (pv 7) (nomark _))))))) (pss_one (ps_ret (pe_lst (pa_cons (pv 1) pa_nil)))) pss_nil)
 (pss_cons (ps_if (PW.pt (pw_or (pt_cmpR op_inU (pe_ix ix_seq (pv 8) pe_int (fun _ _ => rfl)) (pv 2) rfl) (pw_or (pt_cmpR op_inU (pe_ix ix_seq (pv 8) pe_int (fun _ _ => rfl)) (pv 2) rfl) (pw_or (pt_cmpR op_inU (pe_ix ix_seq (pv 9) pe_int (fun _ _ => rfl)) (pv 3) rfl) (pw_or1 (pt_cmpR op_inU (pe_ix ix_seq (pv 9) pe_int (fun _ _ => rfl)) (pv 3) rfl)))))) (pss_one (ps_ret (pe_lst (pa_cons (pv 1) pa_nil)))) pss_nil)
 (pss_cons (ps_expr (pe_bm PySem.F.plainAttrs_list PySem.F.slot_list_append PySem.F.type_list_append mt_append (pv 2) (pa_cons (pe_ix ix_seq (pv 8) pe_int (fun _ _ => rfl)) pa_nil)))
 (pss_cons (ps_expr (pe_bm PySem.F.plainAttrs_list PySem.F.slot_list_append PySem.F.type_list_append mt_append (pv 2) (pa_cons (pe_ix ix_seq (pv 8) pe_int (fun _ _ => rfl)) pa_nil)))
 (pss_cons (ps_expr (pe_bm PySem.F.plainAttrs_list PySem.F.slot_list_append PySem.F.type_list_append mt_append (pv 3) (pa_cons (pe_ix ix_seq (pv 9) pe_int (fun _ _ => rfl)) pa_nil)))
 (pss_cons (ps_expr (pe_bm PySem.F.plainAttrs_list PySem.F.slot_list_append PySem.F.type_list_append mt_append (pv 3) (pa_cons (pe_ix ix_seq (pv 9) pe_int (fun _ _ => rfl)) pa_nil)))
 (pss_cons (ps_set (i := 10) sc.nd rfl (by first | exact Or.inl rfl | exact Or.inr rfl) (pe_tup (pa_cons (pe_ix ix_seq (pv 8) pe_int (fun _ _ => rfl)) (pa_cons (pe_ix ix_seq (pv 9) pe_int (fun _ _ => rfl)) (pa_cons (pe_ix ix_seq (pv 8) pe_int (fun _ _ => rfl)) (pa_cons (pe_ix ix_seq (pv 9) pe_int (fun _ _ => rfl)) pa_nil))))))
 (pss_cons (ps_if (pt_cmpR (op_eqU hr.units) (pe_callD O_u_law_take hr (by decide) (pa_cons (pv 0) (pa_cons pe_int pa_nil))) pe_int (nomark _)) (pss_one (ps_ret (pe_lst (pa_cons (pv 10) (pa_cons (pe_tup (pa_cons (pv 4) (pa_cons (pe_ix ix_seq (pv 9) pe_int (fun _ _ => rfl)) (pa_cons (pe_ix ix_seq (pv 8) pe_int (fun _ _ => rfl)) (pa_cons (pv 7) pa_nil))))) (pa_cons (pe_tup (pa_cons (pe_ix ix_seq (pv 8) pe_int (fun _ _ => rfl)) (pa_cons (pe_ix ix_seq (pv 9) pe_int (fun _ _ => rfl)) (pa_cons (pv 6) (pa_cons (pv 7) pa_nil))))) (pa_cons (pe_tup (pa_cons (pe_ix ix_seq (pv 8) pe_int (fun _ _ => rfl)) (pa_cons (pv 5) (pa_cons (pv 6) (pa_cons (pe_ix ix_seq (pv 9) pe_int (fun _ _ => rfl)) pa_nil))))) (pa_cons (pe_tup (pa_cons (pv 4) (pa_cons (pv 5) (pa_cons (pe_ix ix_seq (pv 8) pe_int (fun _ _ => rfl)) (pa_cons (pe_ix ix_seq (pv 9) pe_int (fun _ _ => rfl)) pa_nil))))) pa_nil)))))))) pss_nil)
 (pss_one (ps_ret (pe_lst (pa_cons (pv 10) (pa_cons (pe_tup (pa_cons (pe_ix ix_seq (pv 8) pe_int (fun _ _ => rfl)) (pa_cons (pe_ix ix_seq (pv 9) pe_int (fun _ _ => rfl)) (pa_cons (pv 6) (pa_cons (pv 7) pa_nil))))) (pa_cons (pe_tup (pa_cons (pv 4) (pa_cons (pe_ix ix_seq (pv 9) pe_int (fun _ _ => rfl)) (pa_cons (pe_ix ix_seq (pv 8) pe_int (fun _ _ => rfl)) (pa_cons (pv 7) pa_nil))))) (pa_cons (pe_tup (pa_cons (pv 4) (pa_cons (pv 5) (pa_cons (pe_ix ix_seq (pv 8) pe_int (fun _ _ => rfl)) (pa_cons (pe_ix ix_seq (pv 9) pe_int (fun _ _ => rfl)) pa_nil))))) (pa_cons (pe_tup (pa_cons (pe_ix ix_seq (pv 8) pe_int (fun _ _ => rfl)) (pa_cons (pv 5) (pa_cons (pv 6) (pa_cons (pe_ix ix_seq (pv 9) pe_int (fun _ _ => rfl)) pa_nil))))) pa_nil)))))))))))))))))))
def t_u_law_cuts (K : PySem.W.Frag) : TS := (tSeq (tAsg (tLst (tCons (tTup (tCons (tC (.int 0)) (tCons (tC (.int 0)) (tCons (tVar 2) (tCons (tVar 3) tNil))))) tNil)) (gName 5))
 (tSeq (tPar 6 7 (tCons (tLst tNil) (tCons (tLst tNil) tNil)))
 (tSeq (tFor (iRng1 (tCons (tOp rMulU (tC (.int 4)) (tVar 1)) tNil)) (gName 8) (tSeq (tIfS (tTest (tOp rGeU (tCB (rLen K) (tCons (tVar 5) tNil)) (tVar 1))) tBreak tNext)
 (tSeq (tAsg (tCall (sp_u_law_take K) [] E0 (tCons (tVar 0) (tCons (tCB (rLen K) (tCons (tVar 5) tNil)) tNil))) (gName 9))
 (tSeq (tAsg (tOp (rIx K) (tVar 5) (tVar 9)) (gTup K 4 (gCons (gName 10) (gCons (gName 11) (gCons (gName 12) (gCons (gName 13) gNil))))))
 (tSeq (tAsg (tCall (sp_u_law_take K) [] E0 (tCons (tVar 0) (tCons (tC (.int 5)) tNil))) (gName 14))
 (tIfS (tAnd (tTest (tOp (rEqU K) (tVar 14) (tC (.int 4)))) (tTest (tOp rLeU (tOp (rAddU K) (tCB (rLen K) (tCons (tVar 5) tNil)) (tC (.int 4))) (tVar 1)))) (tSeq (tAsg (tCall (sp_u_law_mill K) [] E0 (tCons (tVar 0) (tCons (tOp (rIx K) (tVar 5) (tVar 9)) (tCons (tVar 6) (tCons (tVar 7) tNil))))) (gName 15))
 (tSeq (tAsg (tOp (rIx K) (tVar 15) (tC (.int 0))) (gSub (tVar 5) (tVar 9) rSetL))
 (tAsg (tOp (rAddU K) (tVar 5) (tSl (rSlU K) (tVar 15) (tPart (tC (.int 1))) tNoPart)) (gName 5)))) (tIfS (tTest (tOp rLtU (tVar 14) (tC (.int 2)))) (tSeq (tAsg (tOp (rAddU K) (tOp (rAddU K) (tVar 10) (tC (.int 1))) (tCall (sp_u_law_take K) [] E0 (tCons (tVar 0) (tCons (tCB rMax2 (tCons (tC (.int 1)) (tCons (tOp rSubU (tOp rSubU (tVar 12) (tVar 10)) (tC (.int 1))) tNil))) tNil)))) (gName 16))
 (tIfS (tAnd (tTest (tOp rLtU (tVar 16) (tVar 12))) (tOr (tNot (tTr K (tVar 4))) (tTest (tOp (rNinU K) (tVar 16) (tVar 6))))) (tSeq (tDrop (tBM K "list" rAppend (tVar 6) (tCons (tVar 16) tNil)))
 (tSeq (tAsg (tTup (tCons (tVar 10) (tCons (tVar 11) (tCons (tVar 16) (tCons (tVar 13) tNil))))) (gSub (tVar 5) (tVar 9) rSetL))
 (tDrop (tBM K "list" rAppend (tVar 5) (tCons (tTup (tCons (tVar 16) (tCons (tVar 11) (tCons (tVar 12) (tCons (tVar 13) tNil))))) tNil))))) tNext)) (tSeq (tAsg (tOp (rAddU K) (tOp (rAddU K) (tVar 11) (tC (.int 1))) (tCall (sp_u_law_take K) [] E0 (tCons (tVar 0) (tCons (tCB rMax2 (tCons (tC (.int 1)) (tCons (tOp rSubU (tOp rSubU (tVar 13) (tVar 11)) (tC (.int 1))) tNil))) tNil)))) (gName 17))
 (tIfS (tAnd (tTest (tOp rLtU (tVar 17) (tVar 13))) (tOr (tNot (tTr K (tVar 4))) (tTest (tOp (rNinU K) (tVar 17) (tVar 7))))) (tSeq (tDrop (tBM K "list" rAppend (tVar 7) (tCons (tVar 17) tNil)))
 (tSeq (tAsg (tTup (tCons (tVar 10) (tCons (tVar 11) (tCons (tVar 12) (tCons (tVar 17) tNil))))) (gSub (tVar 5) (tVar 9) rSetL))
 (tDrop (tBM K "list" rAppend (tVar 5) (tCons (tTup (tCons (tVar 10) (tCons (tVar 17) (tCons (tVar 12) (tCons (tVar 13) tNil))))) tNil))))) tNext)))))))))
 (tRet (tVar 5)))))
theorem dv_u_law_cuts (T : Txt K mg) (O_u_law_take : Okd P w K mg base CX0 1 "_law_take" ["state", "many"] (sp_u_law_take K)) (O_u_law_mill : Okd P w K mg base CX0 2 "_law_mill" ["state", "box", "across", "up"] (sp_u_law_mill K)) {f : Addr} (cdv : Value) (A : Around) (outer : List PySem.Env) (s : Shared) (H : Hp) (E : XK) (hr : Room 2 (A.deeper (envOfC "_law_cuts" (defScope s_u_law_cuts) s.heap.objs.size f cdv))) :
    PSs (cxOf CX0 P w K mg base N_u_law_cuts "_law_cuts" (defScope s_u_law_cuts) f cdv A outer s H E) (defBody s_u_law_cuts) (t_u_law_cuts K) := by
  have sc := sc_u_law_cuts
  have pa : PassesOwn (model P w) (cxOf CX0 P w K mg base N_u_law_cuts "_law_cuts" (defScope s_u_law_cuts) f cdv A outer s H E).A (cxOf CX0 P w K mg base N_u_law_cuts "_law_cuts" (defScope s_u_law_cuts) f cdv A outer s H E).env (cxOf CX0 P w K mg base N_u_law_cuts "_law_cuts" (defScope s_u_law_cuts) f cdv A outer s H E).xe := passes_of rfl
  exact (pss_cons (ps_set (i := 5) sc.nd rfl (by first | exact Or.inl rfl | exact Or.inr rfl) (pe_lst (pa_cons (pe_tup (pa_cons pe_int (pa_cons pe_int (pa_cons (pv 2) (pa_cons (pv 3) pa_nil))))) pa_nil)))
 (pss_cons (ps_par (i := 6) (j := 7) rfl sc.nd rfl rfl (by decide) rfl rfl (pa_cons (pe_lst pa_nil) (pa_cons (pe_lst pa_nil) pa_nil)) rfl)
 (pss_cons (ps_for pa rfl (pi_range1 rfl T.f_range (pa_cons (pe_op op_mulU pe_int (pv 1)) pa_nil)) (pg_name (i := 8) sc.nd rfl (by first | exact Or.inl rfl | exact Or.inr rfl)) (pss_cons (ps_if (pt_cmpR op_geU (pe_callB (r := rLen _) call_len rfl T.f_len b_len (pa_cons (pv 5) pa_nil)) (pv 1) (nomark _)) (pss_one ps_break) pss_nil)
 (pss_cons (ps_set (i := 9) sc.nd rfl (by first | exact Or.inl rfl | exact Or.inr rfl) (pe_callD O_u_law_take hr (by decide) (pa_cons (pv 0) (pa_cons (pe_callB (r := rLen _) call_len rfl T.f_len b_len (pa_cons (pv 5) pa_nil)) pa_nil))))
 (pss_cons (ps_asg (pe_ix ix_seq (pv 5) (pv 9) (fun _ _ => rfl)) (pg_tup rfl (pgs_cons (pg_name (i := 10) sc.nd rfl (by first | exact Or.inl rfl | exact Or.inr rfl)) (pgs_cons (pg_name (i := 11) sc.nd rfl (by first | exact Or.inl rfl | exact Or.inr rfl)) (pgs_cons (pg_name (i := 12) sc.nd rfl (by first | exact Or.inl rfl | exact Or.inr rfl)) (pgs_cons (pg_name (i := 13) sc.nd rfl (by first | exact Or.inl rfl | exact Or.inr rfl)) pgs_nil))))))
 (pss_cons (ps_set (i := 14) sc.nd rfl (by first | exact Or.inl rfl | exact Or.inr rfl) (pe_callD O_u_law_take hr (by decide) (pa_cons (pv 0) (pa_cons pe_int pa_nil))))
 (pss_one (ps_if (PW.pt (pw_and (pt_cmpR (op_eqU hr.units) (pv 14) pe_int (nomark _)) (pw_and1 (pt_cmpR op_leU (pe_op op_addU (pe_callB (r := rLen _) call_len rfl T.f_len b_len (pa_cons (pv 5) pa_nil)) pe_int) (pv 1) (nomark _))))) (pss_cons (ps_set (i := 15) sc.nd rfl (by first | exact Or.inl rfl | exact Or.inr rfl) (pe_callD O_u_law_mill hr (by decide) (pa_cons (pv 0) (pa_cons (pe_ix ix_seq (pv 5) (pv 9) (fun _ _ => rfl)) (pa_cons (pv 6) (pa_cons (pv 7) pa_nil))))))
 (pss_cons (ps_asg (pe_ix ix_seq (pv 15) pe_int (fun _ _ => rfl)) (pg_sub (pv 5) (pv 9) set_list))
 (pss_one (ps_set (i := 5) sc.nd rfl (by first | exact Or.inl rfl | exact Or.inr rfl) (pe_op op_addU (pv 5) (pe_slice sl_U (pv 15) (po_some pe_int) po_none)))))) (pss_one (ps_if (pt_cmpR op_ltU (pv 14) pe_int (nomark _)) (pss_cons (ps_set (i := 16) sc.nd rfl (by first | exact Or.inl rfl | exact Or.inr rfl) (pe_op op_addU (pe_op op_addU (pv 10) pe_int) (pe_callD O_u_law_take hr (by decide) (pa_cons (pv 0) (pa_cons (pe_callB (r := rMax2) (call_maxI rfl) rfl T.f_max b_max (pa_cons pe_int (pa_cons (pe_op op_sub (pe_op op_sub (pv 12) (pv 10)) pe_int) pa_nil))) pa_nil)))))
 (pss_one (ps_if (PW.pt (pw_and (pt_cmpR op_ltU (pv 16) (pv 12) (nomark _)) (pw_and1 (PW.pt (pw_or (pt_not (pt_tr (pv 4))) (pw_or1 (pt_cmpR op_ninU (pv 16) (pv 6) rfl))))))) (pss_cons (ps_expr (pe_bm PySem.F.plainAttrs_list PySem.F.slot_list_append PySem.F.type_list_append mt_append (pv 6) (pa_cons (pv 16) pa_nil)))
 (pss_cons (ps_asg (pe_tup (pa_cons (pv 10) (pa_cons (pv 11) (pa_cons (pv 16) (pa_cons (pv 13) pa_nil))))) (pg_sub (pv 5) (pv 9) set_list))
 (pss_one (ps_expr (pe_bm PySem.F.plainAttrs_list PySem.F.slot_list_append PySem.F.type_list_append mt_append (pv 5) (pa_cons (pe_tup (pa_cons (pv 16) (pa_cons (pv 11) (pa_cons (pv 12) (pa_cons (pv 13) pa_nil))))) pa_nil)))))) pss_nil))) (pss_cons (ps_set (i := 17) sc.nd rfl (by first | exact Or.inl rfl | exact Or.inr rfl) (pe_op op_addU (pe_op op_addU (pv 11) pe_int) (pe_callD O_u_law_take hr (by decide) (pa_cons (pv 0) (pa_cons (pe_callB (r := rMax2) (call_maxI rfl) rfl T.f_max b_max (pa_cons pe_int (pa_cons (pe_op op_sub (pe_op op_sub (pv 13) (pv 11)) pe_int) pa_nil))) pa_nil)))))
 (pss_one (ps_if (PW.pt (pw_and (pt_cmpR op_ltU (pv 17) (pv 13) (nomark _)) (pw_and1 (PW.pt (pw_or (pt_not (pt_tr (pv 4))) (pw_or1 (pt_cmpR op_ninU (pv 17) (pv 7) rfl))))))) (pss_cons (ps_expr (pe_bm PySem.F.plainAttrs_list PySem.F.slot_list_append PySem.F.type_list_append mt_append (pv 7) (pa_cons (pv 17) pa_nil)))
 (pss_cons (ps_asg (pe_tup (pa_cons (pv 10) (pa_cons (pv 11) (pa_cons (pv 12) (pa_cons (pv 17) pa_nil))))) (pg_sub (pv 5) (pv 9) set_list))
 (pss_one (ps_expr (pe_bm PySem.F.plainAttrs_list PySem.F.slot_list_append PySem.F.type_list_append mt_append (pv 5) (pa_cons (pe_tup (pa_cons (pv 10) (pa_cons (pv 17) (pa_cons (pv 12) (pa_cons (pv 13) pa_nil))))) pa_nil)))))) pss_nil))))))))))))
 (pss_one (ps_ret (pv 5))))))
def t_u_law_plan (K : PySem.W.Frag) : TS := (tSeq (tAsg (tCall (sp_u_law_cuts K) [] E0 (tCons (tVar 0) (tCons (tVar 1) (tCons (tVar 2) (tCons (tVar 3) (tCons (tVar 4) tNil)))))) (gName 5))
 (tSeq (tAsg (tLst tNil) (gName 6))
 (tSeq (tFor (iRng1 (tCons (tCB (rLen K) (tCons (tVar 5) tNil)) tNil)) (gName 7) (tDrop (tBM K "list" rAppend (tVar 6) (tCons (tBM K "list" rPopAt (tVar 5) (tCons (tCall (sp_u_law_take K) [] E0 (tCons (tVar 0) (tCons (tCB (rLen K) (tCons (tVar 5) tNil)) tNil))) tNil)) tNil))))
 (tRet (tTup (tCons (tCB (rTupU K) (tCons (tCall (sp_u_law_names K) [] E0 (tCons (tVar 0) (tCons (tCB (rLen K) (tCons (tVar 6) tNil)) tNil))) tNil)) (tCons (tVar 2) (tCons (tVar 3) (tCons (tCB (rTupU K) (tCons (tVar 6) tNil)) tNil)))))))))
theorem dv_u_law_plan (T : Txt K mg) (O_u_law_cuts : Okd P w K mg base CX0 3 "_law_cuts" ["state", "many", "wide", "high", "strict"] (sp_u_law_cuts K)) (O_u_law_names : Okd P w K mg base CX0 2 "_law_names" ["state", "many"] (sp_u_law_names K)) (O_u_law_take : Okd P w K mg base CX0 1 "_law_take" ["state", "many"] (sp_u_law_take K)) {f : Addr} (cdv : Value) (A : Around) (outer : List PySem.Env) (s : Shared) (H : Hp) (E : XK) (hr : Room 3 (A.deeper (envOfC "_law_plan" (defScope s_u_law_plan) s.heap.objs.size f cdv))) :
    PSs (cxOf CX0 P w K mg base N_u_law_plan "_law_plan" (defScope s_u_law_plan) f cdv A outer s H E) (defBody s_u_law_plan) (t_u_law_plan K) := by
  have sc := sc_u_law_plan
  have pa : PassesOwn (model P w) (cxOf CX0 P w K mg base N_u_law_plan "_law_plan" (defScope s_u_law_plan) f cdv A outer s H E).A (cxOf CX0 P w K mg base N_u_law_plan "_law_plan" (defScope s_u_law_plan) f cdv A outer s H E).env (cxOf CX0 P w K mg base N_u_law_plan "_law_plan" (defScope s_u_law_plan) f cdv A outer s H E).xe := passes_of rfl
  exact (pss_cons (ps_set (i := 5) sc.nd rfl (by first | exact Or.inl rfl | exact Or.inr rfl) (pe_callD O_u_law_cuts hr (by decide) (pa_cons (pv 0) (pa_cons (pv 1) (pa_cons (pv 2) (pa_cons (pv 3) (pa_cons (pv 4) pa_nil)))))))
 (pss_cons (ps_set (i := 6) sc.nd rfl (by first | exact Or.inl rfl | exact Or.inr rfl) (pe_lst pa_nil))
 (pss_cons (ps_for pa rfl (pi_range1 rfl T.f_range (pa_cons (pe_callB (r := rLen _) call_len rfl T.f_len b_len (pa_cons (pv 5) pa_nil)) pa_nil)) (pg_name (i := 7) sc.nd rfl (by first | exact Or.inl rfl | exact Or.inr rfl)) (pss_one (ps_expr (pe_bm PySem.F.plainAttrs_list PySem.F.slot_list_append PySem.F.type_list_append mt_append (pv 6) (pa_cons (pe_bm PySem.F.plainAttrs_list PySem.F.slot_list_pop PySem.F.type_list_pop mt_popAt (pv 5) (pa_cons (pe_callD O_u_law_take hr (by decide) (pa_cons (pv 0) (pa_cons (pe_callB (r := rLen _) call_len rfl T.f_len b_len (pa_cons (pv 5) pa_nil)) pa_nil))) pa_nil)) pa_nil)))))
 (pss_one (ps_ret (pe_tup (pa_cons (pe_callTy (r := rTupU _) call_tupleU rfl T.f_tuple b_tuple (pa_cons (pe_callD O_u_law_names hr (by decide) (pa_cons (pv 0) (pa_cons (pe_callB (r := rLen _) call_len rfl T.f_len b_len (pa_cons (pv 6) pa_nil)) pa_nil))) pa_nil)) (pa_cons (pv 2) (pa_cons (pv 3) (pa_cons (pe_callTy (r := rTupU _) call_tupleU rfl T.f_tuple b_tuple (pa_cons (pv 6) pa_nil)) pa_nil))))))))))
def t_u_law_whole (K : PySem.W.Frag) : TS := (tRet (tAndV (tCB (rIsi K) (tCons (tVar 0) (tCons (tC (.ty "int")) tNil))) (tNotV (tCB (rIsi K) (tCons (tVar 0) (tCons (tC (.ty "bool")) tNil))))))
theorem dv_u_law_whole (T : Txt K mg)  {f : Addr} (cdv : Value) (A : Around) (outer : List PySem.Env) (s : Shared) (H : Hp) (E : XK) (hr : Room 0 (A.deeper (envOfC "_law_whole" (defScope s_u_law_whole) s.heap.objs.size f cdv))) :
    PSs (cxOf CX0 P w K mg base N_u_law_whole "_law_whole" (defScope s_u_law_whole) f cdv A outer s H E) (defBody s_u_law_whole) (t_u_law_whole K) := by
  have sc := sc_u_law_whole
  exact (pss_one (ps_ret (pe_and (pe_callB (r := rIsi _) call_isi rfl T.f_isinstance b_isinstance (pa_cons (pv 0) (pa_cons (pe_bltn (v := .ty "int") rfl T.f_int b_int rfl) pa_nil))) (pe_one (pe_not (pe_callB (r := rIsi _) call_isi rfl T.f_isinstance b_isinstance (pa_cons (pv 0) (pa_cons (pe_bltn (v := .ty "bool") rfl T.f_bool b_bool rfl) pa_nil))))))))
def t_u_law_name (K : PySem.W.Frag) : TS := (tSeq (tIfS (tOr (tNot (tTr K (tCB (rIsi K) (tCons (tVar 0) (tCons (tC (.ty "str")) tNil))))) (tOr (tTest (tOp rLtU (tCB (rLen K) (tCons (tVar 0) tNil)) (tC (.int 1)))) (tTest (tOp rGtU (tCB (rLen K) (tCons (tVar 0) tNil)) (tC (.int 8)))))) (tRet (tC (.bl false))) tNext)
 (tSeq (tFor (iRng1 (tCons (tCB (rLen K) (tCons (tVar 0) tNil)) tNil)) (gName 1) (tIfS (tAnd (tTest (tOp (rNinU K) (tOp (rIx K) (tVar 0) (tVar 1)) (tC (.str "abcdefghijklmnopqrstuvwxyz")))) (tOr (tTest (tOp (rEqU K) (tVar 1) (tC (.int 0)))) (tTest (tOp (rNinU K) (tOp (rIx K) (tVar 0) (tVar 1)) (tC (.str "0123456789")))))) (tRet (tC (.bl false))) tNext))
 (tRet (tC (.bl true)))))
theorem dv_u_law_name (T : Txt K mg)  {f : Addr} (cdv : Value) (A : Around) (outer : List PySem.Env) (s : Shared) (H : Hp) (E : XK) (hr : Room 0 (A.deeper (envOfC "_law_name" (defScope s_u_law_name) s.heap.objs.size f cdv))) :
    PSs (cxOf CX0 P w K mg base N_u_law_name "_law_name" (defScope s_u_law_name) f cdv A outer s H E) (defBody s_u_law_name) (t_u_law_name K) := by
  have sc := sc_u_law_name
  have pa : PassesOwn (model P w) (cxOf CX0 P w K mg base N_u_law_name "_law_name" (defScope s_u_law_name) f cdv A outer s H E).A (cxOf CX0 P w K mg base N_u_law_name "_law_name" (defScope s_u_law_name) f cdv A outer s H E).env (cxOf CX0 P w K mg base N_u_law_name "_law_name" (defScope s_u_law_name) f cdv A outer s H E).xe := passes_of rfl
  exact (pss_cons (ps_if (PW.pt (pw_or (pt_not (pt_tr (pe_callB (r := rIsi _) call_isi rfl T.f_isinstance b_isinstance (pa_cons (pv 0) (pa_cons (pe_bltn (v := .ty "str") rfl T.f_str b_str rfl) pa_nil))))) (pw_or (pt_cmpR op_ltU (pe_callB (r := rLen _) call_len rfl T.f_len b_len (pa_cons (pv 0) pa_nil)) pe_int (nomark _)) (pw_or1 (pt_cmpR op_gtU (pe_callB (r := rLen _) call_len rfl T.f_len b_len (pa_cons (pv 0) pa_nil)) pe_int (nomark _)))))) (pss_one (ps_ret pe_bl)) pss_nil)
 (pss_cons (ps_for pa rfl (pi_range1 rfl T.f_range (pa_cons (pe_callB (r := rLen _) call_len rfl T.f_len b_len (pa_cons (pv 0) pa_nil)) pa_nil)) (pg_name (i := 1) sc.nd rfl (by first | exact Or.inl rfl | exact Or.inr rfl)) (pss_one (ps_if (PW.pt (pw_and (pt_cmpR op_ninU (pe_ix ix_seq (pv 0) (pv 1) (fun _ _ => rfl)) pe_str rfl) (pw_and1 (PW.pt (pw_or (pt_cmpR (op_eqU hr.units) (pv 1) pe_int (nomark _)) (pw_or1 (pt_cmpR op_ninU (pe_ix ix_seq (pv 0) (pv 1) (fun _ _ => rfl)) pe_str rfl))))))) (pss_one (ps_ret pe_bl)) pss_nil)))
 (pss_one (ps_ret pe_bl))))
def t_u_law_box (K : PySem.W.Frag) : TS := (tSeq (tIfS (tOr (tNot (tTr K (tCB (rIsi K) (tCons (tVar 0) (tCons (tC (.ty "tuple")) tNil))))) (tTest (tOp (rNeU K) (tCB (rLen K) (tCons (tVar 0) tNil)) (tC (.int 4))))) (tRet (tC (.bl false))) tNext)
 (tSeq (tFor (iSeqU K (tVar 0)) (gName 3) (tIfS (tNot (tTr K (tCall (sp_u_law_whole K) [] E0 (tCons (tVar 3) tNil)))) (tRet (tC (.bl false))) tNext))
 (tRet (tAndV (tChain3 rLeU rLtU rLeU (tC (.int 0)) (tOp (rIx K) (tVar 0) (tC (.int 0))) (tOp (rIx K) (tVar 0) (tC (.int 2))) (tVar 1)) (tChain3 rLeU rLtU rLeU (tC (.int 0)) (tOp (rIx K) (tVar 0) (tC (.int 1))) (tOp (rIx K) (tVar 0) (tC (.int 3))) (tVar 2))))))
theorem dv_u_law_box (T : Txt K mg) (O_u_law_whole : Okd P w K mg base CX0 1 "_law_whole" ["thing"] (sp_u_law_whole K)) {f : Addr} (cdv : Value) (A : Around) (outer : List PySem.Env) (s : Shared) (H : Hp) (E : XK) (hr : Room 1 (A.deeper (envOfC "_law_box" (defScope s_u_law_box) s.heap.objs.size f cdv))) :
    PSs (cxOf CX0 P w K mg base N_u_law_box "_law_box" (defScope s_u_law_box) f cdv A outer s H E) (defBody s_u_law_box) (t_u_law_box K) := by
  have sc := sc_u_law_box
  have pa : PassesOwn (model P w) (cxOf CX0 P w K mg base N_u_law_box "_law_box" (defScope s_u_law_box) f cdv A outer s H E).A (cxOf CX0 P w K mg base N_u_law_box "_law_box" (defScope s_u_law_box) f cdv A outer s H E).env (cxOf CX0 P w K mg base N_u_law_box "_law_box" (defScope s_u_law_box) f cdv A outer s H E).xe := passes_of rfl
  exact (pss_cons (ps_if (PW.pt (pw_or (pt_not (pt_tr (pe_callB (r := rIsi _) call_isi rfl T.f_isinstance b_isinstance (pa_cons (pv 0) (pa_cons (pe_bltn (v := .ty "tuple") rfl T.f_tuple b_tuple rfl) pa_nil))))) (pw_or1 (pt_cmpR (op_neU hr.units) (pe_callB (r := rLen _) call_len rfl T.f_len b_len (pa_cons (pv 0) pa_nil)) pe_int (nomark _))))) (pss_one (ps_ret pe_bl)) pss_nil)
 (pss_cons (ps_for pa rfl (pi_seqU (pv 0)) (pg_name (i := 3) sc.nd rfl (by first | exact Or.inl rfl | exact Or.inr rfl)) (pss_one (ps_if (pt_not (pt_tr (pe_callD O_u_law_whole hr (by decide) (pa_cons (pv 3) pa_nil)))) (pss_one (ps_ret pe_bl)) pss_nil)))
 (pss_one (ps_ret (pe_and (pe_chain3 op_leU op_ltU op_leU pe_int (pe_ix ix_seq (pv 0) pe_int (fun _ _ => rfl)) (pe_ix ix_seq (pv 0) pe_int (fun _ _ => rfl)) (pv 1)) (pe_one (pe_chain3 op_leU op_ltU op_leU pe_int (pe_ix ix_seq (pv 0) pe_int (fun _ _ => rfl)) (pe_ix ix_seq (pv 0) pe_int (fun _ _ => rfl)) (pv 2))))))))
def t_u_law_form (K : PySem.W.Frag) : TS := (tSeq (tIfS (tOr (tNot (tTr K (tCB (rIsi K) (tCons (tVar 0) (tCons (tC (.ty "tuple")) tNil))))) (tTest (tOp (rNeU K) (tCB (rLen K) (tCons (tVar 0) tNil)) (tC (.int 4))))) (tRet (tC (.bl false))) tNext)
 (tSeq (tIfS (tOr (tNot (tTr K (tCB (rIsi K) (tCons (tOp (rIx K) (tVar 0) (tC (.int 0))) (tCons (tC (.ty "tuple")) tNil))))) (tOr (tNot (tTr K (tCB (rIsi K) (tCons (tOp (rIx K) (tVar 0) (tC (.int 3))) (tCons (tC (.ty "tuple")) tNil))))) (tTest (tOp (rNeU K) (tCB (rLen K) (tCons (tOp (rIx K) (tVar 0) (tC (.int 0))) tNil)) (tCB (rLen K) (tCons (tOp (rIx K) (tVar 0) (tC (.int 3))) tNil)))))) (tRet (tC (.bl false))) tNext)
 (tRet (tAndV (tCall (sp_u_law_whole K) [] E0 (tCons (tOp (rIx K) (tVar 0) (tC (.int 1))) tNil)) (tCall (sp_u_law_whole K) [] E0 (tCons (tOp (rIx K) (tVar 0) (tC (.int 2))) tNil))))))
theorem dv_u_law_form (T : Txt K mg) (O_u_law_whole : Okd P w K mg base CX0 1 "_law_whole" ["thing"] (sp_u_law_whole K)) {f : Addr} (cdv : Value) (A : Around) (outer : List PySem.Env) (s : Shared) (H : Hp) (E : XK) (hr : Room 1 (A.deeper (envOfC "_law_form" (defScope s_u_law_form) s.heap.objs.size f cdv))) :
    PSs (cxOf CX0 P w K mg base N_u_law_form "_law_form" (defScope s_u_law_form) f cdv A outer s H E) (defBody s_u_law_form) (t_u_law_form K) := by
  have sc := sc_u_law_form
  exact (pss_cons (ps_if (PW.pt (pw_or (pt_not (pt_tr (pe_callB (r := rIsi _) call_isi rfl T.f_isinstance b_isinstance (pa_cons (pv 0) (pa_cons (pe_bltn (v := .ty "tuple") rfl T.f_tuple b_tuple rfl) pa_nil))))) (pw_or1 (pt_cmpR (op_neU hr.units) (pe_callB (r := rLen _) call_len rfl T.f_len b_len (pa_cons (pv 0) pa_nil)) pe_int (nomark _))))) (pss_one (ps_ret pe_bl)) pss_nil)
 (pss_cons (ps_if (PW.pt (pw_or (pt_not (pt_tr (pe_callB (r := rIsi _) call_isi rfl T.f_isinstance b_isinstance (pa_cons (pe_ix ix_seq (pv 0) pe_int (fun _ _ => rfl)) (pa_cons (pe_bltn (v := .ty "tuple") rfl T.f_tuple b_tuple rfl) pa_nil))))) (pw_or (pt_not (pt_tr (pe_callB (r := rIsi _) call_isi rfl T.f_isinstance b_isinstance (pa_cons (pe_ix ix_seq (pv 0) pe_int (fun _ _ => rfl)) (pa_cons (pe_bltn (v := .ty "tuple") rfl T.f_tuple b_tuple rfl) pa_nil))))) (pw_or1 (pt_cmpR (op_neU hr.units) (pe_callB (r := rLen _) call_len rfl T.f_len b_len (pa_cons (pe_ix ix_seq (pv 0) pe_int (fun _ _ => rfl)) pa_nil)) (pe_callB (r := rLen _) call_len rfl T.f_len b_len (pa_cons (pe_ix ix_seq (pv 0) pe_int (fun _ _ => rfl)) pa_nil)) (nomark _)))))) (pss_one (ps_ret pe_bl)) pss_nil)
 (pss_one (ps_ret (pe_and (pe_callD O_u_law_whole hr (by decide) (pa_cons (pe_ix ix_seq (pv 0) pe_int (fun _ _ => rfl)) pa_nil)) (pe_one (pe_callD O_u_law_whole hr (by decide) (pa_cons (pe_ix ix_seq (pv 0) pe_int (fun _ _ => rfl)) pa_nil))))))))
def t_u_law_due (K : PySem.W.Frag) : TS := (tSeq (tIfS (tNot (tTr K (tCall (sp_u_law_form K) [] E0 (tCons (tVar 0) tNil)))) (tRet (tTup (tCons (tUn (rU fun i => .int (-i)) (tC (.int 1))) (tCons (tC (.str "shape")) tNil)))) tNext)
 (tSeq (tAsg (tVar 0) (gTup K 4 (gCons (gName 1) (gCons (gName 2) (gCons (gName 3) (gCons (gName 4) gNil))))))
 (tSeq (tIfS (tOr (tNot (tTest (tChain rLeU rLeU (tC (.int 1)) (tCB (rLen K) (tCons (tVar 1) tNil)) (tC (.int 40))))) (tOr (tNot (tTest (tChain rLeU rLeU (tC (.int 1)) (tVar 2) (tC (.int 10000))))) (tNot (tTest (tChain rLeU rLeU (tC (.int 1)) (tVar 3) (tC (.int 10000))))))) (tRet (tTup (tCons (tUn (rU fun i => .int (-i)) (tC (.int 1))) (tCons (tC (.str "limit")) tNil)))) tNext)
 (tSeq (tFor (iRng1 (tCons (tCB (rLen K) (tCons (tVar 1) tNil)) tNil)) (gName 5) (tSeq (tIfS (tNot (tTr K (tCall (sp_u_law_name K) [] E0 (tCons (tOp (rIx K) (tVar 1) (tVar 5)) tNil)))) (tRet (tTup (tCons (tVar 5) (tCons (tC (.str "name")) tNil)))) tNext)
 (tIfS (tAnd (tTest (tOp rGtU (tVar 5) (tC (.int 0)))) (tNot (tTest (tOp rLtU (tOp (rIx K) (tVar 1) (tOp rSubU (tVar 5) (tC (.int 1)))) (tOp (rIx K) (tVar 1) (tVar 5)))))) (tRet (tTup (tCons (tVar 5) (tCons (tC (.str "order")) tNil)))) tNext)))
 (tSeq (tFor (iRng1 (tCons (tCB (rLen K) (tCons (tVar 1) tNil)) tNil)) (gName 5) (tIfS (tNot (tTr K (tCall (sp_u_law_box K) [] E0 (tCons (tOp (rIx K) (tVar 4) (tVar 5)) (tCons (tVar 2) (tCons (tVar 3) tNil)))))) (tRet (tTup (tCons (tVar 5) (tCons (tC (.str "box")) tNil)))) tNext))
 (tSeq (tAsg (tC (.int 0)) (gName 6))
 (tSeq (tAsg tDNewT (gName 7))
 (tSeq (tFor (iRng1 (tCons (tCB (rLen K) (tCons (tVar 1) tNil)) tNil)) (gName 5) (tSeq (tAsg (tOp (rIx K) (tVar 4) (tVar 5)) (gTup K 4 (gCons (gName 8) (gCons (gName 9) (gCons (gName 10) (gCons (gName 11) gNil))))))
 (tSeq (tAug 6 (tOp rMulU (tOp rSubU (tVar 10) (tVar 8)) (tOp rSubU (tVar 11) (tVar 9))) rIAddU)
 (tSeq (tFor (iRng1 (tCons (tVar 5) tNil)) (gName 12) (tSeq (tAsg (tOp (rIx K) (tVar 4) (tVar 12)) (gTup K 4 (gCons (gName 13) (gCons (gName 14) (gCons (gName 15) (gCons (gName 16) gNil))))))
 (tIfS (tAnd (tTest (tOp rGtU (tCB rMin2 (tCons (tVar 10) (tCons (tVar 15) tNil))) (tCB rMax2 (tCons (tVar 8) (tCons (tVar 13) tNil))))) (tTest (tOp rGtU (tCB rMin2 (tCons (tVar 11) (tCons (tVar 16) tNil))) (tCB rMax2 (tCons (tVar 9) (tCons (tVar 14) tNil)))))) (tRet (tTup (tCons (tVar 5) (tCons (tC (.str "overlap")) tNil)))) tNext)))
 (tFor (iSeqU K (tLst (tCons (tTup (tCons (tVar 8) (tCons (tVar 9) tNil))) (tCons (tTup (tCons (tVar 8) (tCons (tVar 11) tNil))) (tCons (tTup (tCons (tVar 10) (tCons (tVar 9) tNil))) (tCons (tTup (tCons (tVar 10) (tCons (tVar 11) tNil))) tNil)))))) (gName 17) (sDPut (tVar 7) (tVar 17) (tOp (rAddU K) (tDGet2 (tVar 7) (tVar 17) (tC (.int 0))) (tC (.int 1)))))))))
 (tSeq (tIfS (tTest (tOp (rNeU K) (tVar 6) (tOp rMulU (tVar 2) (tVar 3)))) (tRet (tTup (tCons (tUn (rU fun i => .int (-i)) (tC (.int 1))) (tCons (tC (.str "gap")) tNil)))) tNext)
 (tSeq (tLock (tFor (iListT (tVar 7)) (gName 17) (tIfS (tTest (tOp rGtU (tDGetP K (tVar 7) (tVar 17)) (tC (.int 3)))) (tRet (tTup (tCons (tUn (rU fun i => .int (-i)) (tC (.int 1))) (tCons (tC (.str "four")) tNil)))) tNext)))
 (tRet (tCB (rLen K) (tCons (tVar 1) tNil)))))))))))))
theorem dv_u_law_due (T : Txt K mg) (O_u_law_form : Okd P w K mg base CX0 2 "_law_form" ["thing"] (sp_u_law_form K)) (O_u_law_name : Okd P w K mg base CX0 1 "_law_name" ["thing"] (sp_u_law_name K)) (O_u_law_box : Okd P w K mg base CX0 2 "_law_box" ["box", "wide", "high"] (sp_u_law_box K)) {f : Addr} (cdv : Value) (A : Around) (outer : List PySem.Env) (s : Shared) (H : Hp) (E : XK) (hr : Room 2 (A.deeper (envOfC "_law_due" (defScope s_u_law_due) s.heap.objs.size f cdv))) :
    PSs (cxOf CX0 P w K mg base N_u_law_due "_law_due" (defScope s_u_law_due) f cdv A outer s H E) (defBody s_u_law_due) (t_u_law_due K) := by
  have sc := sc_u_law_due
  have pa : PassesOwn (model P w) (cxOf CX0 P w K mg base N_u_law_due "_law_due" (defScope s_u_law_due) f cdv A outer s H E).A (cxOf CX0 P w K mg base N_u_law_due "_law_due" (defScope s_u_law_due) f cdv A outer s H E).env (cxOf CX0 P w K mg base N_u_law_due "_law_due" (defScope s_u_law_due) f cdv A outer s H E).xe := passes_of rfl
  exact (pss_cons (ps_if (pt_not (pt_tr (pe_callD O_u_law_form hr (by decide) (pa_cons (pv 0) pa_nil)))) (pss_one (ps_ret (pe_tup (pa_cons (pe_un un_neg pe_int) (pa_cons pe_str pa_nil))))) pss_nil)
 (pss_cons (ps_asg (pv 0) (pg_tup rfl (pgs_cons (pg_name (i := 1) sc.nd rfl (by first | exact Or.inl rfl | exact Or.inr rfl)) (pgs_cons (pg_name (i := 2) sc.nd rfl (by first | exact Or.inl rfl | exact Or.inr rfl)) (pgs_cons (pg_name (i := 3) sc.nd rfl (by first | exact Or.inl rfl | exact Or.inr rfl)) (pgs_cons (pg_name (i := 4) sc.nd rfl (by first | exact Or.inl rfl | exact Or.inr rfl)) pgs_nil))))))
 (pss_cons (ps_if (PW.pt (pw_or (pt_not (pt_chain op_leU op_leU pe_int (pe_callB (r := rLen _) call_len rfl T.f_len b_len (pa_cons (pv 1) pa_nil)) pe_int)) (pw_or (pt_not (pt_chain op_leU op_leU pe_int (pv 2) pe_int)) (pw_or1 (pt_not (pt_chain op_leU op_leU pe_int (pv 3) pe_int)))))) (pss_one (ps_ret (pe_tup (pa_cons (pe_un un_neg pe_int) (pa_cons pe_str pa_nil))))) pss_nil)
 (pss_cons (ps_for pa rfl (pi_range1 rfl T.f_range (pa_cons (pe_callB (r := rLen _) call_len rfl T.f_len b_len (pa_cons (pv 1) pa_nil)) pa_nil)) (pg_name (i := 5) sc.nd rfl (by first | exact Or.inl rfl | exact Or.inr rfl)) (pss_cons (ps_if (pt_not (pt_tr (pe_callD O_u_law_name hr (by decide) (pa_cons (pe_ix ix_seq (pv 1) (pv 5) (fun _ _ => rfl)) pa_nil)))) (pss_one (ps_ret (pe_tup (pa_cons (pv 5) (pa_cons pe_str pa_nil))))) pss_nil)
 (pss_one (ps_if (PW.pt (pw_and (pt_cmpR op_gtU (pv 5) pe_int (nomark _)) (pw_and1 (pt_not (pt_cmpR op_ltU (pe_ix ix_seq (pv 1) (pe_op op_sub (pv 5) pe_int) (fun _ _ => rfl)) (pe_ix ix_seq (pv 1) (pv 5) (fun _ _ => rfl)) (nomark _)))))) (pss_one (ps_ret (pe_tup (pa_cons (pv 5) (pa_cons pe_str pa_nil))))) pss_nil))))
 (pss_cons (ps_for pa rfl (pi_range1 rfl T.f_range (pa_cons (pe_callB (r := rLen _) call_len rfl T.f_len b_len (pa_cons (pv 1) pa_nil)) pa_nil)) (pg_name (i := 5) sc.nd rfl (by first | exact Or.inl rfl | exact Or.inr rfl)) (pss_one (ps_if (pt_not (pt_tr (pe_callD O_u_law_box hr (by decide) (pa_cons (pe_ix ix_seq (pv 4) (pv 5) (fun _ _ => rfl)) (pa_cons (pv 2) (pa_cons (pv 3) pa_nil)))))) (pss_one (ps_ret (pe_tup (pa_cons (pv 5) (pa_cons pe_str pa_nil))))) pss_nil)))
 (pss_cons (ps_set (i := 6) sc.nd rfl (by first | exact Or.inl rfl | exact Or.inr rfl) pe_int)
 (pss_cons (ps_set (i := 7) sc.nd rfl (by first | exact Or.inl rfl | exact Or.inr rfl) pe_dnewT)
 (pss_cons (ps_for pa rfl (pi_range1 rfl T.f_range (pa_cons (pe_callB (r := rLen _) call_len rfl T.f_len b_len (pa_cons (pv 1) pa_nil)) pa_nil)) (pg_name (i := 5) sc.nd rfl (by first | exact Or.inl rfl | exact Or.inr rfl)) (pss_cons (ps_asg (pe_ix ix_seq (pv 4) (pv 5) (fun _ _ => rfl)) (pg_tup rfl (pgs_cons (pg_name (i := 8) sc.nd rfl (by first | exact Or.inl rfl | exact Or.inr rfl)) (pgs_cons (pg_name (i := 9) sc.nd rfl (by first | exact Or.inl rfl | exact Or.inr rfl)) (pgs_cons (pg_name (i := 10) sc.nd rfl (by first | exact Or.inl rfl | exact Or.inr rfl)) (pgs_cons (pg_name (i := 11) sc.nd rfl (by first | exact Or.inl rfl | exact Or.inr rfl)) pgs_nil))))))
 (pss_cons (ps_aug (i := 6) sc.nd rfl (by first | exact Or.inl rfl | exact Or.inr rfl) (pe_op op_mulU (pe_op op_sub (pv 10) (pv 8)) (pe_op op_sub (pv 11) (pv 9))) ip_addU)
 (pss_cons (ps_for pa rfl (pi_range1 rfl T.f_range (pa_cons (pv 5) pa_nil)) (pg_name (i := 12) sc.nd rfl (by first | exact Or.inl rfl | exact Or.inr rfl)) (pss_cons (ps_asg (pe_ix ix_seq (pv 4) (pv 12) (fun _ _ => rfl)) (pg_tup rfl (pgs_cons (pg_name (i := 13) sc.nd rfl (by first | exact Or.inl rfl | exact Or.inr rfl)) (pgs_cons (pg_name (i := 14) sc.nd rfl (by first | exact Or.inl rfl | exact Or.inr rfl)) (pgs_cons (pg_name (i := 15) sc.nd rfl (by first | exact Or.inl rfl | exact Or.inr rfl)) (pgs_cons (pg_name (i := 16) sc.nd rfl (by first | exact Or.inl rfl | exact Or.inr rfl)) pgs_nil))))))
 (pss_one (ps_if (PW.pt (pw_and (pt_cmpR op_gtU (pe_callB (r := rMin2) (call_minI rfl) rfl T.f_min b_min (pa_cons (pv 10) (pa_cons (pv 15) pa_nil))) (pe_callB (r := rMax2) (call_maxI rfl) rfl T.f_max b_max (pa_cons (pv 8) (pa_cons (pv 13) pa_nil))) (nomark _)) (pw_and1 (pt_cmpR op_gtU (pe_callB (r := rMin2) (call_minI rfl) rfl T.f_min b_min (pa_cons (pv 11) (pa_cons (pv 16) pa_nil))) (pe_callB (r := rMax2) (call_maxI rfl) rfl T.f_max b_max (pa_cons (pv 9) (pa_cons (pv 14) pa_nil))) (nomark _))))) (pss_one (ps_ret (pe_tup (pa_cons (pv 5) (pa_cons pe_str pa_nil))))) pss_nil))))
 (pss_one (ps_for pa rfl (pi_seqU (pe_lst (pa_cons (pe_tup (pa_cons (pv 8) (pa_cons (pv 9) pa_nil))) (pa_cons (pe_tup (pa_cons (pv 8) (pa_cons (pv 11) pa_nil))) (pa_cons (pe_tup (pa_cons (pv 10) (pa_cons (pv 9) pa_nil))) (pa_cons (pe_tup (pa_cons (pv 10) (pa_cons (pv 11) pa_nil))) pa_nil)))))) (pg_name (i := 17) sc.nd rfl (by first | exact Or.inl rfl | exact Or.inr rfl)) (pss_one (ps_dput (hu_of hr) (pv 7) (pv 17) (pe_op op_addU (pe_dget2 (hu_of hr) (pv 7) (pv 17) pe_int ⟨rfl, rfl, rfl, rfl⟩) pe_int) rfl))))))))
 (pss_cons (ps_if (pt_cmpR (op_neU hr.units) (pv 6) (pe_op op_mulU (pv 2) (pv 3)) (nomark _)) (pss_one (ps_ret (pe_tup (pa_cons (pe_un un_neg pe_int) (pa_cons pe_str pa_nil))))) pss_nil)
 (pss_cons (ps_lock (ps_for pa rfl (pi_listT rfl (pv 7) rfl T.f_list b_list (by decide) (by decide) (by rfl)) (pg_name (i := 17) sc.nd rfl (by first | exact Or.inl rfl | exact Or.inr rfl)) (pss_one (ps_if (pt_cmpR op_gtU (pe_dgetP (hu_of hr) (pv 7) (pv 17) (fun _ _ => rfl)) pe_int (nomark _)) (pss_one (ps_ret (pe_tup (pa_cons (pe_un un_neg pe_int) (pa_cons pe_str pa_nil))))) pss_nil))))
 (pss_one (ps_ret (pe_callB (r := rLen _) call_len rfl T.f_len b_len (pa_cons (pv 1) pa_nil))))))))))))))
def ts_u_law_ask (K : PySem.W.Frag) (a : Addr) (cls : Value) (d : Option Addr) : TS := (tSeq (tIfS (tOr (tNot (tTr K (tCB (rIsX K cls d a) (tCons (tVar 6) (tCons (tC (.ref (He.ga K "DataError"))) tNil))))) (tOr (tNot (tTr K (tCB (rIsX K cls d a) (tCons (tVar 6) (tCons (tC (.ref (He.ga K "PlanError"))) tNil))))) (tNot (tTr K (tCB (rIsX K cls d a) (tCons (tVar 6) (tCons (tC (.ty "ValueError")) tNil))))))) (tRet (tC (.bl false))) tNext)
 (tSeq (tIfS (tOr (tTr K (tCB (rIsX K cls d a) (tCons (tVar 6) (tCons (tC (.ref (He.ga K "BadScheme"))) tNil)))) (tOr (tTr K (tCB (rIsX K cls d a) (tCons (tVar 6) (tCons (tC (.ref (He.ga K "BadLayout"))) tNil)))) (tTr K (tCB (rIsX K cls d a) (tCons (tVar 6) (tCons (tC (.ref (He.ga K "CallError"))) tNil)))))) (tRet (tC (.bl false))) tNext)
 (tSeq (tIfS (tOr (tTr K (tCB (rIsX K cls d a) (tCons (tVar 6) (tCons (tC (.ref (He.ga K "TextError"))) tNil)))) (tTr K (tCB (rIsX K cls d a) (tCons (tVar 6) (tCons (tC (.ref (He.ga K "DeskError"))) tNil))))) (tRet (tC (.bl false))) tNext)
 (tSeq (tAsg (tC (.bl true)) (gName 3))
 (tPar 4 5 (tCons (tXf a cls d (He.ga K "BadPlan") "at" (tVar 6)) (tCons (tXf a cls d (He.ga K "BadPlan") "word" (tVar 6)) tNil)))))))
def t_u_law_ask (K : PySem.W.Frag) : TS := (tSeq (tAsg (tCall (sp_u_law_due K) [] E0 (tCons (tVar 0) tNil)) (gName 1))
 (tSeq (tAsg (tC .non) (gName 2))
 (tSeq (tAsg (tC (.bl false)) (gName 3))
 (tSeq (tAsg (tTup (tCons (tC .non) (tCons (tC .non) tNil))) (gTup K 2 (gCons (gName 4) (gCons (gName 5) gNil))))
 (tSeq (tTryA K (.ref (He.ga K "BadPlan")) 6 (ts_u_law_ask K) (sp_check_plan K) (tCons (tVar 0) tNil) 2)
 (tSeq (tIfS (tTr K (tCB (rIsi K) (tCons (tVar 1) (tCons (tC (.ty "tuple")) tNil)))) (tRet (tAndV (tVar 3) (tAndV (tCall (sp_u_law_whole K) [] E0 (tCons (tVar 4) tNil)) (tAndV (tOp (rEqU K) (tVar 4) (tOp (rIx K) (tVar 1) (tC (.int 0)))) (tAndV (tCB (rIsi K) (tCons (tVar 5) (tCons (tC (.ty "str")) tNil))) (tOp (rEqU K) (tVar 5) (tOp (rIx K) (tVar 1) (tC (.int 1))))))))) tNext)
 (tRet (tAndV (tNotV (tVar 3)) (tAndV (tCall (sp_u_law_whole K) [] E0 (tCons (tVar 2) tNil)) (tOp (rEqU K) (tVar 2) (tVar 1)))))))))))
theorem dv_u_law_ask (T : Txt K mg) (O_u_law_due : Okd P w K mg base CX0 3 "_law_due" ["thing"] (sp_u_law_due K)) (O_check_plan : Okd P w K mg base (L2N.CX P w) 5 "check_plan" ["thing"] (sp_check_plan K)) (O_u_law_whole : Okd P w K mg base CX0 1 "_law_whole" ["thing"] (sp_u_law_whole K)) (X_BadPlan : ExOk P w K mg base 1 "BadPlan" ["at", "word"]) {f : Addr} (cdv : Value) (A : Around) (outer : List PySem.Env) (s : Shared) (H : Hp) (E : XK) (hr : Room 5 (A.deeper (envOfC "_law_ask" (defScope s_u_law_ask) s.heap.objs.size f cdv))) :
    PSs (cxOf CX0 P w K mg base N_u_law_ask "_law_ask" (defScope s_u_law_ask) f cdv A outer s H E) (defBody s_u_law_ask) (t_u_law_ask K) := by
  have sc := sc_u_law_ask
  exact (pss_cons (ps_set (i := 1) sc.nd rfl (by first | exact Or.inl rfl | exact Or.inr rfl) (pe_callD O_u_law_due hr (by decide) (pa_cons (pv 0) pa_nil)))
 (pss_cons (ps_set (i := 2) sc.nd rfl (by first | exact Or.inl rfl | exact Or.inr rfl) pe_non)
 (pss_cons (ps_set (i := 3) sc.nd rfl (by first | exact Or.inl rfl | exact Or.inr rfl) pe_bl)
 (pss_cons (ps_asg (pe_tup (pa_cons pe_non (pa_cons pe_non pa_nil))) (pg_tup rfl (pgs_cons (pg_name (i := 4) sc.nd rfl (by first | exact Or.inl rfl | exact Or.inr rfl)) (pgs_cons (pg_name (i := 5) sc.nd rfl (by first | exact Or.inl rfl | exact Or.inr rfl)) pgs_nil))))
 (pss_cons (L2N.ps_try_as (i := 6) (tb := fun W => tAsg (tCallS (sp_check_plan K) (WE W) (tCons (tVar 0) tNil)) (gName 2)) (ts := ts_u_law_ask K) (Wout := fun _ _ _ _ => False) rfl rfl sc.nd rfl rfl ⟨rfl, by decide, .inl T.g_BadPlan⟩ takes0N
 (fun W pn xe tk _ => pss_one (ps_set (i := 2) sc.nd rfl (by first | exact Or.inl rfl | exact Or.inr rfl) (by exact (pe_callDSN O_check_plan hr (by decide) tk (pa_cons (pv 0) pa_nil)))))
 (fun a oe cls d pn hz hf => (pss_cons (ps_if (PW.pt (pw_or (pt_not (pt_tr (pe_callB (r := rIsX _ cls d a) (call_isX hz.zc hf) rfl T.f_isinstance b_isinstance (pa_cons (pv 6) (pa_cons (pe_gref T.g_DataError) pa_nil))))) (pw_or (pt_not (pt_tr (pe_callB (r := rIsX _ cls d a) (call_isX hz.zc hf) rfl T.f_isinstance b_isinstance (pa_cons (pv 6) (pa_cons (pe_gref T.g_PlanError) pa_nil))))) (pw_or1 (pt_not (pt_tr (pe_callB (r := rIsX _ cls d a) (call_isX hz.zc hf) rfl T.f_isinstance b_isinstance (pa_cons (pv 6) (pa_cons (pe_bltn (v := .ty "ValueError") rfl T.f_ValueError b_ValueError rfl) pa_nil))))))))) (pss_one (ps_ret pe_bl)) pss_nil)
 (pss_cons (ps_if (PW.pt (pw_or (pt_tr (pe_callB (r := rIsX _ cls d a) (call_isX hz.zc hf) rfl T.f_isinstance b_isinstance (pa_cons (pv 6) (pa_cons (pe_gref T.g_BadScheme) pa_nil)))) (pw_or (pt_tr (pe_callB (r := rIsX _ cls d a) (call_isX hz.zc hf) rfl T.f_isinstance b_isinstance (pa_cons (pv 6) (pa_cons (pe_gref T.g_BadLayout) pa_nil)))) (pw_or1 (pt_tr (pe_callB (r := rIsX _ cls d a) (call_isX hz.zc hf) rfl T.f_isinstance b_isinstance (pa_cons (pv 6) (pa_cons (pe_gref T.g_CallError) pa_nil)))))))) (pss_one (ps_ret pe_bl)) pss_nil)
 (pss_cons (ps_if (PW.pt (pw_or (pt_tr (pe_callB (r := rIsX _ cls d a) (call_isX hz.zc hf) rfl T.f_isinstance b_isinstance (pa_cons (pv 6) (pa_cons (pe_gref T.g_TextError) pa_nil)))) (pw_or1 (pt_tr (pe_callB (r := rIsX _ cls d a) (call_isX hz.zc hf) rfl T.f_isinstance b_isinstance (pa_cons (pv 6) (pa_cons (pe_gref T.g_DeskError) pa_nil))))))) (pss_one (ps_ret pe_bl)) pss_nil)
 (pss_cons (ps_set (i := 3) sc.nd rfl (by first | exact Or.inl rfl | exact Or.inr rfl) pe_bl)
 (pss_one (ps_parH (i := 4) (j := 5) (hot_suite hz hf) sc.nd rfl rfl (by decide) rfl rfl (pa_cons (pe_xf X_BadPlan.ef.xf T.n_BadPlan_at hz.zc hf (pv 6)) (pa_cons (pe_xf X_BadPlan.ef.xf T.n_BadPlan_word hz.zc hf (pv 6)) pa_nil)) rfl))))))))
 (pss_cons (ps_if (pt_tr (pe_callB (r := rIsi _) call_isi rfl T.f_isinstance b_isinstance (pa_cons (pv 1) (pa_cons (pe_bltn (v := .ty "tuple") rfl T.f_tuple b_tuple rfl) pa_nil)))) (pss_one (ps_ret (pe_and (pv 3) (pe_and (pe_callD O_u_law_whole hr (by decide) (pa_cons (pv 4) pa_nil)) (pe_and (pe_cmpR (op_eqU hr.units) (pv 4) (pe_ix ix_seq (pv 1) pe_int (fun _ _ => rfl)) (nomark _)) (pe_and (pe_callB (r := rIsi _) call_isi rfl T.f_isinstance b_isinstance (pa_cons (pv 5) (pa_cons (pe_bltn (v := .ty "str") rfl T.f_str b_str rfl) pa_nil))) (pe_one (pe_cmpR (op_eqU hr.units) (pv 5) (pe_ix ix_seq (pv 1) pe_int (fun _ _ => rfl)) (nomark _))))))))) pss_nil)
 (pss_one (ps_ret (pe_and (pe_not (pv 3)) (pe_and (pe_callD O_u_law_whole hr (by decide) (pa_cons (pv 2) pa_nil)) (pe_one (pe_cmpR (op_eqU hr.units) (pv 2) (pv 1) (nomark _)))))))))))))
def t_u_law_forms (K : PySem.W.Frag) : TS := (tSeq (tAsg (tVar 0) (gTup K 4 (gCons (gName 2) (gCons (gName 3) (gCons (gName 4) (gCons (gName 5) gNil))))))
 (tSeq (tAsg (tLst (tCons (tCB (rListU K) (tCons (tVar 0) tNil)) (tCons (tSl (rSlU K) (tVar 0) tNoPart (tPart (tC (.int 3)))) (tCons (tOp (rAddU K) (tVar 0) (tTup (tCons (tC (.int 0)) tNil))) (tCons (tTup (tCons (tCB (rListU K) (tCons (tVar 2) tNil)) (tCons (tVar 3) (tCons (tVar 4) (tCons (tVar 5) tNil))))) (tCons (tTup (tCons (tVar 2) (tCons (tVar 3) (tCons (tVar 4) (tCons (tCB (rListU K) (tCons (tVar 5) tNil)) tNil))))) tNil)))))) (gName 6))
 (tSeq (tAug 6 (tLst (tCons (tTup (tCons (tSl (rSlU K) (tVar 2) (tPart (tC (.int 1))) tNoPart) (tCons (tVar 3) (tCons (tVar 4) (tCons (tVar 5) tNil))))) (tCons (tTup (tCons (tVar 2) (tCons (tVar 3) (tCons (tVar 4) (tCons (tSl (rSlU K) (tVar 5) tNoPart (tPart (tOp rSubU (tCB (rLen K) (tCons (tVar 5) tNil)) (tC (.int 1))))) tNil))))) (tCons (tTup (tCons (tVar 2) (tCons (tC (.bl true)) (tCons (tVar 4) (tCons (tVar 5) tNil))))) tNil)))) rIAddU)
 (tSeq (tAug 6 (tLst (tCons (tTup (tCons (tVar 2) (tCons (tVar 3) (tCons (tC (.bl false)) (tCons (tVar 5) tNil))))) (tCons (tTup (tCons (tVar 2) (tCons (tC .non) (tCons (tVar 4) (tCons (tVar 5) tNil))))) (tCons (tTup (tCons (tVar 2) (tCons (tVar 3) (tCons (tCB rStrI (tCons (tVar 4) tNil)) (tCons (tVar 5) tNil))))) tNil)))) rIAddU)
 (tSeq (tAug 6 (tLst (tCons (tTup (tCons (tVar 2) (tCons (tVar 3) (tCons (tVar 4) (tCons (tC .non) tNil))))) (tCons (tTup (tCons (tC .non) (tCons (tVar 3) (tCons (tVar 4) (tCons (tVar 5) tNil))))) (tCons (tC .non) (tCons (tC (.bl true)) (tCons (tC (.str "abcd")) (tCons (tC (.int 4)) (tCons (tTup tNil) (tCons (tTup (tCons (tVar 2) (tCons (tTup (tCons (tVar 3) tNil)) (tCons (tVar 4) (tCons (tVar 5) tNil))))) tNil))))))))) rIAddU)
 (tSeq (tAug 6 (tLst (tCons (tTup (tCons (tTup tNil) (tCons (tVar 3) (tCons (tVar 4) (tCons (tTup tNil) tNil))))) (tCons (tTup (tCons (tVar 2) (tCons (tC (.int 0)) (tCons (tVar 4) (tCons (tVar 5) tNil))))) (tCons (tTup (tCons (tVar 2) (tCons (tVar 3) (tCons (tOp rSubU (tUn (rU fun i => .int (-i)) (tC (.int 1))) (tCall (sp_u_law_take K) [] E0 (tCons (tVar 1) (tCons (tC (.int 9)) tNil)))) (tCons (tVar 5) tNil))))) tNil)))) rIAddU)
 (tSeq (tAug 6 (tLst (tCons (tTup (tCons (tVar 2) (tCons (tOp (rAddU K) (tC (.int 10001)) (tCall (sp_u_law_take K) [] E0 (tCons (tVar 1) (tCons (tC (.int 9)) tNil)))) (tCons (tVar 4) (tCons (tVar 5) tNil))))) (tCons (tTup (tCons (tVar 2) (tCons (tVar 3) (tCons (tC (.int 10001)) (tCons (tVar 5) tNil))))) (tCons (tTup (tCons (tVar 2) (tCons (tOp rPowU (tC (.int 10)) (tC (.int 59))) (tCons (tVar 4) (tCons (tVar 5) tNil))))) tNil)))) rIAddU)
 (tRet (tVar 6)))))))))
theorem dv_u_law_forms (T : Txt K mg) (O_u_law_take : Okd P w K mg base CX0 1 "_law_take" ["state", "many"] (sp_u_law_take K)) {f : Addr} (cdv : Value) (A : Around) (outer : List PySem.Env) (s : Shared) (H : Hp) (E : XK) (hr : Room 1 (A.deeper (envOfC "_law_forms" (defScope s_u_law_forms) s.heap.objs.size f cdv))) :
    PSs (cxOf CX0 P w K mg base N_u_law_forms "_law_forms" (defScope s_u_law_forms) f cdv A outer s H E) (defBody s_u_law_forms) (t_u_law_forms K) := by
  have sc := sc_u_law_forms
  exact (pss_cons (ps_asg (pv 0) (pg_tup rfl (pgs_cons (pg_name (i := 2) sc.nd rfl (by first | exact Or.inl rfl | exact Or.inr rfl)) (pgs_cons (pg_name (i := 3) sc.nd rfl (by first | exact Or.inl rfl | exact Or.inr rfl)) (pgs_cons (pg_name (i := 4) sc.nd rfl (by first | exact Or.inl rfl | exact Or.inr rfl)) (pgs_cons (pg_name (i := 5) sc.nd rfl (by first | exact Or.inl rfl | exact Or.inr rfl)) pgs_nil))))))
 (pss_cons (ps_set (i := 6) sc.nd rfl (by first | exact Or.inl rfl | exact Or.inr rfl) (pe_lst (pa_cons (pe_callTy (r := rListU _) call_listU rfl T.f_list b_list (pa_cons (pv 0) pa_nil)) (pa_cons (pe_slice sl_U (pv 0) po_none (po_some pe_int)) (pa_cons (pe_op op_addU (pv 0) (pe_tup (pa_cons pe_int pa_nil))) (pa_cons (pe_tup (pa_cons (pe_callTy (r := rListU _) call_listU rfl T.f_list b_list (pa_cons (pv 2) pa_nil)) (pa_cons (pv 3) (pa_cons (pv 4) (pa_cons (pv 5) pa_nil))))) (pa_cons (pe_tup (pa_cons (pv 2) (pa_cons (pv 3) (pa_cons (pv 4) (pa_cons (pe_callTy (r := rListU _) call_listU rfl T.f_list b_list (pa_cons (pv 5) pa_nil)) pa_nil))))) pa_nil)))))))
 (pss_cons (ps_aug (i := 6) sc.nd rfl (by first | exact Or.inl rfl | exact Or.inr rfl) (pe_lst (pa_cons (pe_tup (pa_cons (pe_slice sl_U (pv 2) (po_some pe_int) po_none) (pa_cons (pv 3) (pa_cons (pv 4) (pa_cons (pv 5) pa_nil))))) (pa_cons (pe_tup (pa_cons (pv 2) (pa_cons (pv 3) (pa_cons (pv 4) (pa_cons (pe_slice sl_U (pv 5) po_none (po_some (pe_op op_sub (pe_callB (r := rLen _) call_len rfl T.f_len b_len (pa_cons (pv 5) pa_nil)) pe_int))) pa_nil))))) (pa_cons (pe_tup (pa_cons (pv 2) (pa_cons pe_bl (pa_cons (pv 4) (pa_cons (pv 5) pa_nil))))) pa_nil)))) ip_addU)
 (pss_cons (ps_aug (i := 6) sc.nd rfl (by first | exact Or.inl rfl | exact Or.inr rfl) (pe_lst (pa_cons (pe_tup (pa_cons (pv 2) (pa_cons (pv 3) (pa_cons pe_bl (pa_cons (pv 5) pa_nil))))) (pa_cons (pe_tup (pa_cons (pv 2) (pa_cons pe_non (pa_cons (pv 4) (pa_cons (pv 5) pa_nil))))) (pa_cons (pe_tup (pa_cons (pv 2) (pa_cons (pv 3) (pa_cons (pe_callTy (r := rStrI) call_strI rfl T.f_str b_str (pa_cons (pv 4) pa_nil)) (pa_cons (pv 5) pa_nil))))) pa_nil)))) ip_addU)
 (pss_cons (ps_aug (i := 6) sc.nd rfl (by first | exact Or.inl rfl | exact Or.inr rfl) (pe_lst (pa_cons (pe_tup (pa_cons (pv 2) (pa_cons (pv 3) (pa_cons (pv 4) (pa_cons pe_non pa_nil))))) (pa_cons (pe_tup (pa_cons pe_non (pa_cons (pv 3) (pa_cons (pv 4) (pa_cons (pv 5) pa_nil))))) (pa_cons pe_non (pa_cons pe_bl (pa_cons pe_str (pa_cons pe_int (pa_cons (pe_tup pa_nil) (pa_cons (pe_tup (pa_cons (pv 2) (pa_cons (pe_tup (pa_cons (pv 3) pa_nil)) (pa_cons (pv 4) (pa_cons (pv 5) pa_nil))))) pa_nil))))))))) ip_addU)
 (pss_cons (ps_aug (i := 6) sc.nd rfl (by first | exact Or.inl rfl | exact Or.inr rfl) (pe_lst (pa_cons (pe_tup (pa_cons (pe_tup pa_nil) (pa_cons (pv 3) (pa_cons (pv 4) (pa_cons (pe_tup pa_nil) pa_nil))))) (pa_cons (pe_tup (pa_cons (pv 2) (pa_cons pe_int (pa_cons (pv 4) (pa_cons (pv 5) pa_nil))))) (pa_cons (pe_tup (pa_cons (pv 2) (pa_cons (pv 3) (pa_cons (pe_op op_sub (pe_un un_neg pe_int) (pe_callD O_u_law_take hr (by decide) (pa_cons (pv 1) (pa_cons pe_int pa_nil)))) (pa_cons (pv 5) pa_nil))))) pa_nil)))) ip_addU)
 (pss_cons (ps_aug (i := 6) sc.nd rfl (by first | exact Or.inl rfl | exact Or.inr rfl) (pe_lst (pa_cons (pe_tup (pa_cons (pv 2) (pa_cons (pe_op op_addU pe_int (pe_callD O_u_law_take hr (by decide) (pa_cons (pv 1) (pa_cons pe_int pa_nil)))) (pa_cons (pv 4) (pa_cons (pv 5) pa_nil))))) (pa_cons (pe_tup (pa_cons (pv 2) (pa_cons (pv 3) (pa_cons pe_int (pa_cons (pv 5) pa_nil))))) (pa_cons (pe_tup (pa_cons (pv 2) (pa_cons (pe_op op_pow pe_int pe_int) (pa_cons (pv 4) (pa_cons (pv 5) pa_nil))))) pa_nil)))) ip_addU)
 (pss_one (ps_ret (pv 6))))))))))
def t_u_law_strip (K : PySem.W.Frag) : TS := (tSeq (tAsg (tLc (iRng1 (tCons (tVar 0) tNil)) (gName 4) tYes (tOp (rAddU K) (tIf (tTest (tOp rLtU (tVar 4) (tC (.int 20)))) (tC (.str "a")) (tC (.str "b"))) (tCB rStrI (tCons (tOp (rAddU K) (tC (.int 10)) (tVar 4)) tNil))) [4]) (gName 3))
 (tSeq (tAsg (tLc (iRng1 (tCons (tOp rSubU (tVar 0) (tC (.int 1))) tNil)) (gName 4) tYes (tTup (tCons (tC (.int 0)) (tCons (tVar 4) (tCons (tVar 1) (tCons (tOp (rAddU K) (tVar 4) (tC (.int 1))) tNil))))) [4]) (gName 5))
 (tSeq (tDrop (tBM K "list" rAppend (tVar 5) (tCons (tTup (tCons (tC (.int 0)) (tCons (tOp rSubU (tVar 0) (tC (.int 1))) (tCons (tVar 1) (tCons (tVar 2) tNil))))) tNil)))
 (tRet (tTup (tCons (tCB (rTupU K) (tCons (tVar 3) tNil)) (tCons (tVar 1) (tCons (tVar 2) (tCons (tCB (rTupU K) (tCons (tVar 5) tNil)) tNil)))))))))
theorem dv_u_law_strip (T : Txt K mg)  {f : Addr} (cdv : Value) (A : Around) (outer : List PySem.Env) (s : Shared) (H : Hp) (E : XK) (hr : Room 0 (A.deeper (envOfC "_law_strip" (defScope s_u_law_strip) s.heap.objs.size f cdv))) :
    PSs (cxOf CX0 P w K mg base N_u_law_strip "_law_strip" (defScope s_u_law_strip) f cdv A outer s H E) (defBody s_u_law_strip) (t_u_law_strip K) := by
  have sc := sc_u_law_strip
  exact (pss_cons (ps_setLc (i := 3) (own := [("k", 4)]) (g := (gName 4)) (tt := tYes) rfl sc.nd rfl rfl (sw_true rfl rfl rfl (by decide +kernel)) (pi_range1 rfl T.f_range (pa_cons (pv 0) pa_nil)) (blkOk_by (own := [("k", 4)]) (N := N_u_law_strip) (sc := defScope s_u_law_strip) (by decide +kernel)) (fun _ _ _ _ _ => (pg_name (i := 4) sc.nd rfl (by first | exact Or.inl rfl | exact Or.inr rfl))) (fun _ _ _ _ _ => pts_nil) (fun _ _ _ _ _ => (pe_op op_addU (pe_ifExp (pt_cmpR op_ltU (pv 4) pe_int (nomark _)) pe_str pe_str) (pe_callTy (r := rStrI) call_strI rfl T.f_str b_str (pa_cons (pe_op op_addU pe_int (pv 4)) pa_nil)))))
 (pss_cons (ps_setLc (i := 5) (own := [("k", 4)]) (g := (gName 4)) (tt := tYes) rfl sc.nd rfl rfl (sw_true rfl rfl rfl (by decide +kernel)) (pi_range1 rfl T.f_range (pa_cons (pe_op op_sub (pv 0) pe_int) pa_nil)) (blkOk_by (own := [("k", 4)]) (N := N_u_law_strip) (sc := defScope s_u_law_strip) (by decide +kernel)) (fun _ _ _ _ _ => (pg_name (i := 4) sc.nd rfl (by first | exact Or.inl rfl | exact Or.inr rfl))) (fun _ _ _ _ _ => pts_nil) (fun _ _ _ _ _ => (pe_tup (pa_cons pe_int (pa_cons (pv 4) (pa_cons (pv 1) (pa_cons (pe_op op_addU (pv 4) pe_int) pa_nil)))))))
 (pss_cons (ps_expr (pe_bm PySem.F.plainAttrs_list PySem.F.slot_list_append PySem.F.type_list_append mt_append (pv 5) (pa_cons (pe_tup (pa_cons pe_int (pa_cons (pe_op op_sub (pv 0) pe_int) (pa_cons (pv 1) (pa_cons (pv 2) pa_nil))))) pa_nil)))
 (pss_one (ps_ret (pe_tup (pa_cons (pe_callTy (r := rTupU _) call_tupleU rfl T.f_tuple b_tuple (pa_cons (pv 3) pa_nil)) (pa_cons (pv 1) (pa_cons (pv 2) (pa_cons (pe_callTy (r := rTupU _) call_tupleU rfl T.f_tuple b_tuple (pa_cons (pv 5) pa_nil)) pa_nil))))))))))
def t_u_law_put (K : PySem.W.Frag) : TS := (tRet (tOp (rAddU K) (tOp (rAddU K) (tSl (rSlU K) (tVar 0) tNoPart (tPart (tVar 1))) (tTup (tCons (tVar 2) tNil))) (tSl (rSlU K) (tVar 0) (tPart (tOp (rAddU K) (tVar 1) (tC (.int 1)))) tNoPart)))
theorem dv_u_law_put (T : Txt K mg)  {f : Addr} (cdv : Value) (A : Around) (outer : List PySem.Env) (s : Shared) (H : Hp) (E : XK) (hr : Room 0 (A.deeper (envOfC "_law_put" (defScope s_u_law_put) s.heap.objs.size f cdv))) :
    PSs (cxOf CX0 P w K mg base N_u_law_put "_law_put" (defScope s_u_law_put) f cdv A outer s H E) (defBody s_u_law_put) (t_u_law_put K) := by
  have sc := sc_u_law_put
  exact (pss_one (ps_ret (pe_op op_addU (pe_op op_addU (pe_slice sl_U (pv 0) po_none (po_some (pv 1))) (pe_tup (pa_cons (pv 2) pa_nil))) (pe_slice sl_U (pv 0) (po_some (pe_op op_addU (pv 1) pe_int)) po_none))))
def t_u_law_named (K : PySem.W.Frag) : TS := (tSeq (tAsg (tVar 0) (gTup K 4 (gCons (gName 2) (gCons (gName 3) (gCons (gName 4) (gCons (gName 5) gNil))))))
 (tSeq (tAsg (tCall (sp_u_law_take K) [] E0 (tCons (tVar 1) (tCons (tCB (rLen K) (tCons (tVar 2) tNil)) tNil))) (gName 6))
 (tSeq (tAsg (tLst (tCons (tC (.str "")) (tCons (tC (.str "A")) (tCons (tC (.str "1a")) (tCons (tC (.str "a-b")) (tCons (tC (.str "abcdefghi")) (tCons (tC (.str "aB")) (tCons (tC (.int 7)) (tCons (tC (.bl true)) (tCons (tC .non) (tCons (tTup (tCons (tC (.str "a")) tNil)) (tCons (tC (.str " a")) (tCons (tC (.str "a ")) (tCons (tC (.str "E")) (tCons (tC (.str "aZ")) (tCons (tLst (tCons (tC (.str "a")) tNil)) tNil)))))))))))))))) (gName 7))
 (tSeq (tAsg (tLc (iRng1 (tCons (tCB (rLen K) (tCons (tVar 7) tNil)) tNil)) (gName 9) tYes (tCall (sp_u_law_put K) [] E0 (tCons (tVar 2) (tCons (tVar 6) (tCons (tOp (rIx K) (tVar 7) (tVar 9)) tNil)))) [9]) (gName 8))
 (tSeq (tIfS (tTest (tOp rGtU (tCB (rLen K) (tCons (tVar 2) tNil)) (tC (.int 1)))) (tSeq (tAsg (tOp (rAddU K) (tC (.int 1)) (tCall (sp_u_law_take K) [] E0 (tCons (tVar 1) (tCons (tOp rSubU (tCB (rLen K) (tCons (tVar 2) tNil)) (tC (.int 1))) tNil)))) (gName 6))
 (tSeq (tDrop (tBM K "list" rAppend (tVar 8) (tCons (tCall (sp_u_law_put K) [] E0 (tCons (tVar 2) (tCons (tVar 6) (tCons (tOp (rIx K) (tVar 2) (tOp rSubU (tVar 6) (tC (.int 1)))) tNil)))) tNil)))
 (tSeq (tAsg (tCall (sp_u_law_put K) [] E0 (tCons (tCall (sp_u_law_put K) [] E0 (tCons (tVar 2) (tCons (tVar 6) (tCons (tOp (rIx K) (tVar 2) (tOp rSubU (tVar 6) (tC (.int 1)))) tNil)))) (tCons (tOp rSubU (tVar 6) (tC (.int 1))) (tCons (tOp (rIx K) (tVar 2) (tVar 6)) tNil)))) (gName 10))
 (tSeq (tDrop (tBM K "list" rAppend (tVar 8) (tCons (tVar 10) tNil)))
 (tSeq (tAsg (tCall (sp_u_law_take K) [] E0 (tCons (tVar 1) (tCons (tCB (rLen K) (tCons (tVar 2) tNil)) tNil))) (gName 11))
 (tDrop (tBM K "list" rAppend (tVar 8) (tCons (tCall (sp_u_law_put K) [] E0 (tCons (tVar 10) (tCons (tVar 11) (tCons (tOp (rIx K) (tVar 7) (tCall (sp_u_law_take K) [] E0 (tCons (tVar 1) (tCons (tCB (rLen K) (tCons (tVar 7) tNil)) tNil)))) tNil)))) tNil)))))))) tNext)
 (tRet (tLc (iSeqU K (tVar 8)) (gName 12) tYes (tTup (tCons (tVar 12) (tCons (tVar 3) (tCons (tVar 4) (tCons (tVar 5) tNil))))) [12])))))))
theorem dv_u_law_named (T : Txt K mg) (O_u_law_take : Okd P w K mg base CX0 1 "_law_take" ["state", "many"] (sp_u_law_take K)) (O_u_law_put : Okd P w K mg base CX0 1 "_law_put" ["row", "at", "thing"] (sp_u_law_put K)) {f : Addr} (cdv : Value) (A : Around) (outer : List PySem.Env) (s : Shared) (H : Hp) (E : XK) (hr : Room 1 (A.deeper (envOfC "_law_named" (defScope s_u_law_named) s.heap.objs.size f cdv))) :
    PSs (cxOf CX0 P w K mg base N_u_law_named "_law_named" (defScope s_u_law_named) f cdv A outer s H E) (defBody s_u_law_named) (t_u_law_named K) := by
  have sc := sc_u_law_named
  exact (pss_cons (ps_asg (pv 0) (pg_tup rfl (pgs_cons (pg_name (i := 2) sc.nd rfl (by first | exact Or.inl rfl | exact Or.inr rfl)) (pgs_cons (pg_name (i := 3) sc.nd rfl (by first | exact Or.inl rfl | exact Or.inr rfl)) (pgs_cons (pg_name (i := 4) sc.nd rfl (by first | exact Or.inl rfl | exact Or.inr rfl)) (pgs_cons (pg_name (i := 5) sc.nd rfl (by first | exact Or.inl rfl | exact Or.inr rfl)) pgs_nil))))))
 (pss_cons (ps_set (i := 6) sc.nd rfl (by first | exact Or.inl rfl | exact Or.inr rfl) (pe_callD O_u_law_take hr (by decide) (pa_cons (pv 1) (pa_cons (pe_callB (r := rLen _) call_len rfl T.f_len b_len (pa_cons (pv 2) pa_nil)) pa_nil))))
 (pss_cons (ps_set (i := 7) sc.nd rfl (by first | exact Or.inl rfl | exact Or.inr rfl) (pe_lst (pa_cons pe_str (pa_cons pe_str (pa_cons pe_str (pa_cons pe_str (pa_cons pe_str (pa_cons pe_str (pa_cons pe_int (pa_cons pe_bl (pa_cons pe_non (pa_cons (pe_tup (pa_cons pe_str pa_nil)) (pa_cons pe_str (pa_cons pe_str (pa_cons pe_str (pa_cons pe_str (pa_cons (pe_lst (pa_cons pe_str pa_nil)) pa_nil)))))))))))))))))
 (pss_cons (ps_setLc (i := 8) (own := [("k", 9)]) (g := (gName 9)) (tt := tYes) rfl sc.nd rfl rfl (sw_true rfl rfl rfl (by decide +kernel)) (pi_range1 rfl T.f_range (pa_cons (pe_callB (r := rLen _) call_len rfl T.f_len b_len (pa_cons (pv 7) pa_nil)) pa_nil)) (blkOk_by (own := [("k", 9)]) (N := N_u_law_named) (sc := defScope s_u_law_named) (by decide +kernel)) (fun _ _ _ _ _ => (pg_name (i := 9) sc.nd rfl (by first | exact Or.inl rfl | exact Or.inr rfl))) (fun _ _ _ _ _ => pts_nil) (fun _ _ _ _ _ => (pe_callD O_u_law_put hr (by decide) (pa_cons (pv 2) (pa_cons (pv 6) (pa_cons (pe_ix ix_seq (pv 7) (pv 9) (fun _ _ => rfl)) pa_nil))))))
 (pss_cons (ps_if (pt_cmpR op_gtU (pe_callB (r := rLen _) call_len rfl T.f_len b_len (pa_cons (pv 2) pa_nil)) pe_int (nomark _)) (pss_cons (ps_set (i := 6) sc.nd rfl (by first | exact Or.inl rfl | exact Or.inr rfl) (pe_op op_addU pe_int (pe_callD O_u_law_take hr (by decide) (pa_cons (pv 1) (pa_cons (pe_op op_sub (pe_callB (r := rLen _) call_len rfl T.f_len b_len (pa_cons (pv 2) pa_nil)) pe_int) pa_nil)))))
 (pss_cons (ps_expr (pe_bm PySem.F.plainAttrs_list PySem.F.slot_list_append PySem.F.type_list_append mt_append (pv 8) (pa_cons (pe_callD O_u_law_put hr (by decide) (pa_cons (pv 2) (pa_cons (pv 6) (pa_cons (pe_ix ix_seq (pv 2) (pe_op op_sub (pv 6) pe_int) (fun _ _ => rfl)) pa_nil)))) pa_nil)))
 (pss_cons (ps_set (i := 10) sc.nd rfl (by first | exact Or.inl rfl | exact Or.inr rfl) (pe_callD O_u_law_put hr (by decide) (pa_cons (pe_callD O_u_law_put hr (by decide) (pa_cons (pv 2) (pa_cons (pv 6) (pa_cons (pe_ix ix_seq (pv 2) (pe_op op_sub (pv 6) pe_int) (fun _ _ => rfl)) pa_nil)))) (pa_cons (pe_op op_sub (pv 6) pe_int) (pa_cons (pe_ix ix_seq (pv 2) (pv 6) (fun _ _ => rfl)) pa_nil)))))
 (pss_cons (ps_expr (pe_bm PySem.F.plainAttrs_list PySem.F.slot_list_append PySem.F.type_list_append mt_append (pv 8) (pa_cons (pv 10) pa_nil)))
 (pss_cons (ps_set (i := 11) sc.nd rfl (by first | exact Or.inl rfl | exact Or.inr rfl) (pe_callD O_u_law_take hr (by decide) (pa_cons (pv 1) (pa_cons (pe_callB (r := rLen _) call_len rfl T.f_len b_len (pa_cons (pv 2) pa_nil)) pa_nil))))
 (pss_one (ps_expr (pe_bm PySem.F.plainAttrs_list PySem.F.slot_list_append PySem.F.type_list_append mt_append (pv 8) (pa_cons (pe_callD O_u_law_put hr (by decide) (pa_cons (pv 10) (pa_cons (pv 11) (pa_cons (pe_ix ix_seq (pv 7) (pe_callD O_u_law_take hr (by decide) (pa_cons (pv 1) (pa_cons (pe_callB (r := rLen _) call_len rfl T.f_len b_len (pa_cons (pv 7) pa_nil)) pa_nil))) (fun _ _ => rfl)) pa_nil)))) pa_nil))))))))) pss_nil)
 (pss_one (ps_ret (pe_lc (own := [("row", 12)]) (g := (gName 12)) (tt := tYes) rfl sc.nd (pi_seqU (pv 8)) (blkOk_by (own := [("row", 12)]) (N := N_u_law_named) (sc := defScope s_u_law_named) (by decide +kernel)) (fun _ _ _ _ _ => (pg_name (i := 12) sc.nd rfl (by first | exact Or.inl rfl | exact Or.inr rfl))) (fun _ _ _ _ _ => pts_nil) (fun _ _ _ _ _ => (pe_tup (pa_cons (pv 12) (pa_cons (pv 3) (pa_cons (pv 4) (pa_cons (pv 5) pa_nil))))))))))))))
def t_u_law_boxed (K : PySem.W.Frag) : TS := (tSeq (tAsg (tVar 0) (gTup K 4 (gCons (gName 2) (gCons (gName 3) (gCons (gName 4) (gCons (gName 5) gNil))))))
 (tSeq (tAsg (tCall (sp_u_law_take K) [] E0 (tCons (tVar 1) (tCons (tCB (rLen K) (tCons (tVar 2) tNil)) tNil))) (gName 6))
 (tSeq (tAsg (tOp (rIx K) (tVar 5) (tVar 6)) (gTup K 4 (gCons (gName 7) (gCons (gName 8) (gCons (gName 9) (gCons (gName 10) gNil))))))
 (tSeq (tAsg (tLst (tCons (tCB (rListU K) (tCons (tOp (rIx K) (tVar 5) (tVar 6)) tNil)) (tCons (tTup (tCons (tVar 7) (tCons (tVar 8) (tCons (tVar 9) tNil)))) (tCons (tTup (tCons (tVar 7) (tCons (tVar 8) (tCons (tVar 9) (tCons (tVar 10) (tCons (tVar 10) tNil)))))) (tCons (tTup (tCons (tVar 9) (tCons (tVar 8) (tCons (tVar 7) (tCons (tVar 10) tNil))))) (tCons (tTup (tCons (tVar 7) (tCons (tVar 10) (tCons (tVar 9) (tCons (tVar 8) tNil))))) (tCons (tTup (tCons (tVar 7) (tCons (tVar 8) (tCons (tVar 7) (tCons (tVar 10) tNil))))) (tCons (tTup (tCons (tVar 7) (tCons (tVar 8) (tCons (tVar 9) (tCons (tVar 8) tNil))))) tNil)))))))) (gName 11))
 (tSeq (tAug 11 (tLst (tCons (tTup (tCons (tVar 7) (tCons (tUn (rU fun i => .int (-i)) (tC (.int 1))) (tCons (tVar 9) (tCons (tVar 10) tNil))))) (tCons (tTup (tCons (tUn (rU fun i => .int (-i)) (tC (.int 1))) (tCons (tVar 8) (tCons (tVar 9) (tCons (tVar 10) tNil))))) (tCons (tTup (tCons (tVar 7) (tCons (tVar 8) (tCons (tOp (rAddU K) (tVar 3) (tC (.int 1))) (tCons (tVar 10) tNil))))) (tCons (tTup (tCons (tVar 7) (tCons (tVar 8) (tCons (tVar 9) (tCons (tOp (rAddU K) (tVar 4) (tC (.int 1))) tNil))))) (tCons (tTup (tCons (tVar 7) (tCons (tVar 8) (tCons (tOp rPowU (tC (.int 10)) (tC (.int 59))) (tCons (tVar 10) tNil))))) (tCons (tC .non) (tCons (tC (.str "abcd")) tNil)))))))) rIAddU)
 (tSeq (tAug 11 (tLst (tCons (tTup (tCons (tC (.bl true)) (tCons (tVar 8) (tCons (tVar 9) (tCons (tVar 10) tNil))))) (tCons (tTup (tCons (tVar 7) (tCons (tC (.bl false)) (tCons (tVar 9) (tCons (tVar 10) tNil))))) (tCons (tTup (tCons (tVar 7) (tCons (tVar 8) (tCons (tC (.bl true)) (tCons (tVar 10) tNil))))) (tCons (tTup (tCons (tVar 7) (tCons (tVar 8) (tCons (tVar 9) (tCons (tC (.bl true)) tNil))))) (tCons (tTup (tCons (tVar 7) (tCons (tVar 8) (tCons (tVar 9) (tCons (tC .non) tNil))))) (tCons (tTup (tCons (tVar 7) (tCons (tVar 8) (tCons (tTup (tCons (tVar 9) tNil)) (tCons (tVar 10) tNil))))) tNil))))))) rIAddU)
 (tSeq (tAsg (tLc (iSeqU K (tVar 11)) (gName 13) tYes (tTup (tCons (tVar 2) (tCons (tVar 3) (tCons (tVar 4) (tCons (tCall (sp_u_law_put K) [] E0 (tCons (tVar 5) (tCons (tVar 6) (tCons (tVar 13) tNil)))) tNil))))) [13]) (gName 12))
 (tSeq (tAsg (tCall (sp_u_law_take K) [] E0 (tCons (tVar 1) (tCons (tCB (rLen K) (tCons (tVar 2) tNil)) tNil))) (gName 14))
 (tSeq (tAsg (tCall (sp_u_law_put K) [] E0 (tCons (tCall (sp_u_law_put K) [] E0 (tCons (tVar 5) (tCons (tVar 6) (tCons (tOp (rIx K) (tVar 11) (tCall (sp_u_law_take K) [] E0 (tCons (tVar 1) (tCons (tCB (rLen K) (tCons (tVar 11) tNil)) tNil)))) tNil)))) (tCons (tVar 14) (tCons (tOp (rIx K) (tVar 11) (tCall (sp_u_law_take K) [] E0 (tCons (tVar 1) (tCons (tCB (rLen K) (tCons (tVar 11) tNil)) tNil)))) tNil)))) (gName 15))
 (tSeq (tDrop (tBM K "list" rAppend (tVar 12) (tCons (tTup (tCons (tVar 2) (tCons (tVar 3) (tCons (tVar 4) (tCons (tVar 15) tNil))))) tNil)))
 (tSeq (tDrop (tBM K "list" rAppend (tVar 12) (tCons (tTup (tCons (tCall (sp_u_law_put K) [] E0 (tCons (tVar 2) (tCons (tVar 14) (tCons (tC (.str "Late")) tNil)))) (tCons (tVar 3) (tCons (tVar 4) (tCons (tCall (sp_u_law_put K) [] E0 (tCons (tVar 5) (tCons (tVar 6) (tCons (tOp (rIx K) (tVar 11) (tCall (sp_u_law_take K) [] E0 (tCons (tVar 1) (tCons (tCB (rLen K) (tCons (tVar 11) tNil)) tNil)))) tNil)))) tNil))))) tNil)))
 (tRet (tVar 12)))))))))))))
theorem dv_u_law_boxed (T : Txt K mg) (O_u_law_take : Okd P w K mg base CX0 1 "_law_take" ["state", "many"] (sp_u_law_take K)) (O_u_law_put : Okd P w K mg base CX0 1 "_law_put" ["row", "at", "thing"] (sp_u_law_put K)) {f : Addr} (cdv : Value) (A : Around) (outer : List PySem.Env) (s : Shared) (H : Hp) (E : XK) (hr : Room 1 (A.deeper (envOfC "_law_boxed" (defScope s_u_law_boxed) s.heap.objs.size f cdv))) :
    PSs (cxOf CX0 P w K mg base N_u_law_boxed "_law_boxed" (defScope s_u_law_boxed) f cdv A outer s H E) (defBody s_u_law_boxed) (t_u_law_boxed K) := by
  have sc := sc_u_law_boxed
  exact (pss_cons (ps_asg (pv 0) (pg_tup rfl (pgs_cons (pg_name (i := 2) sc.nd rfl (by first | exact Or.inl rfl | exact Or.inr rfl)) (pgs_cons (pg_name (i := 3) sc.nd rfl (by first | exact Or.inl rfl | exact Or.inr rfl)) (pgs_cons (pg_name (i := 4) sc.nd rfl (by first | exact Or.inl rfl | exact Or.inr rfl)) (pgs_cons (pg_name (i := 5) sc.nd rfl (by first | exact Or.inl rfl | exact Or.inr rfl)) pgs_nil))))))
 (pss_cons (ps_set (i := 6) sc.nd rfl (by first | exact Or.inl rfl | exact Or.inr rfl) (pe_callD O_u_law_take hr (by decide) (pa_cons (pv 1) (pa_cons (pe_callB (r := rLen _) call_len rfl T.f_len b_len (pa_cons (pv 2) pa_nil)) pa_nil))))
 (pss_cons (ps_asg (pe_ix ix_seq (pv 5) (pv 6) (fun _ _ => rfl)) (pg_tup rfl (pgs_cons (pg_name (i := 7) sc.nd rfl (by first | exact Or.inl rfl | exact Or.inr rfl)) (pgs_cons (pg_name (i := 8) sc.nd rfl (by first | exact Or.inl rfl | exact Or.inr rfl)) (pgs_cons (pg_name (i := 9) sc.nd rfl (by first | exact Or.inl rfl | exact Or.inr rfl)) (pgs_cons (pg_name (i := 10) sc.nd rfl (by first | exact Or.inl rfl | exact Or.inr rfl)) pgs_nil))))))
 (pss_cons (ps_set (i := 11) sc.nd rfl (by first | exact Or.inl rfl | exact Or.inr rfl) (pe_lst (pa_cons (pe_callTy (r := rListU _) call_listU rfl T.f_list b_list (pa_cons (pe_ix ix_seq (pv 5) (pv 6) (fun _ _ => rfl)) pa_nil)) (pa_cons (pe_tup (pa_cons (pv 7) (pa_cons (pv 8) (pa_cons (pv 9) pa_nil)))) (pa_cons (pe_tup (pa_cons (pv 7) (pa_cons (pv 8) (pa_cons (pv 9) (pa_cons (pv 10) (pa_cons (pv 10) pa_nil)))))) (pa_cons (pe_tup (pa_cons (pv 9) (pa_cons (pv 8) (pa_cons (pv 7) (pa_cons (pv 10) pa_nil))))) (pa_cons (pe_tup (pa_cons (pv 7) (pa_cons (pv 10) (pa_cons (pv 9) (pa_cons (pv 8) pa_nil))))) (pa_cons (pe_tup (pa_cons (pv 7) (pa_cons (pv 8) (pa_cons (pv 7) (pa_cons (pv 10) pa_nil))))) (pa_cons (pe_tup (pa_cons (pv 7) (pa_cons (pv 8) (pa_cons (pv 9) (pa_cons (pv 8) pa_nil))))) pa_nil)))))))))
 (pss_cons (ps_aug (i := 11) sc.nd rfl (by first | exact Or.inl rfl | exact Or.inr rfl) (pe_lst (pa_cons (pe_tup (pa_cons (pv 7) (pa_cons (pe_un un_neg pe_int) (pa_cons (pv 9) (pa_cons (pv 10) pa_nil))))) (pa_cons (pe_tup (pa_cons (pe_un un_neg pe_int) (pa_cons (pv 8) (pa_cons (pv 9) (pa_cons (pv 10) pa_nil))))) (pa_cons (pe_tup (pa_cons (pv 7) (pa_cons (pv 8) (pa_cons (pe_op op_addU (pv 3) pe_int) (pa_cons (pv 10) pa_nil))))) (pa_cons (pe_tup (pa_cons (pv 7) (pa_cons (pv 8) (pa_cons (pv 9) (pa_cons (pe_op op_addU (pv 4) pe_int) pa_nil))))) (pa_cons (pe_tup (pa_cons (pv 7) (pa_cons (pv 8) (pa_cons (pe_op op_pow pe_int pe_int) (pa_cons (pv 10) pa_nil))))) (pa_cons pe_non (pa_cons pe_str pa_nil)))))))) ip_addU)
 (pss_cons (ps_aug (i := 11) sc.nd rfl (by first | exact Or.inl rfl | exact Or.inr rfl) (pe_lst (pa_cons (pe_tup (pa_cons pe_bl (pa_cons (pv 8) (pa_cons (pv 9) (pa_cons (pv 10) pa_nil))))) (pa_cons (pe_tup (pa_cons (pv 7) (pa_cons pe_bl (pa_cons (pv 9) (pa_cons (pv 10) pa_nil))))) (pa_cons (pe_tup (pa_cons (pv 7) (pa_cons (pv 8) (pa_cons pe_bl (pa_cons (pv 10) pa_nil))))) (pa_cons (pe_tup (pa_cons (pv 7) (pa_cons (pv 8) (pa_cons (pv 9) (pa_cons pe_bl pa_nil))))) (pa_cons (pe_tup (pa_cons (pv 7) (pa_cons (pv 8) (pa_cons (pv 9) (pa_cons pe_non pa_nil))))) (pa_cons (pe_tup (pa_cons (pv 7) (pa_cons (pv 8) (pa_cons (pe_tup (pa_cons (pv 9) pa_nil)) (pa_cons (pv 10) pa_nil))))) pa_nil))))))) ip_addU)
 (pss_cons (ps_setLc (i := 12) (own := [("box", 13)]) (g := (gName 13)) (tt := tYes) rfl sc.nd rfl rfl (sw_true rfl rfl rfl (by decide +kernel)) (pi_seqU (pv 11)) (blkOk_by (own := [("box", 13)]) (N := N_u_law_boxed) (sc := defScope s_u_law_boxed) (by decide +kernel)) (fun _ _ _ _ _ => (pg_name (i := 13) sc.nd rfl (by first | exact Or.inl rfl | exact Or.inr rfl))) (fun _ _ _ _ _ => pts_nil) (fun _ _ _ _ _ => (pe_tup (pa_cons (pv 2) (pa_cons (pv 3) (pa_cons (pv 4) (pa_cons (pe_callD O_u_law_put hr (by decide) (pa_cons (pv 5) (pa_cons (pv 6) (pa_cons (pv 13) pa_nil)))) pa_nil)))))))
 (pss_cons (ps_set (i := 14) sc.nd rfl (by first | exact Or.inl rfl | exact Or.inr rfl) (pe_callD O_u_law_take hr (by decide) (pa_cons (pv 1) (pa_cons (pe_callB (r := rLen _) call_len rfl T.f_len b_len (pa_cons (pv 2) pa_nil)) pa_nil))))
 (pss_cons (ps_set (i := 15) sc.nd rfl (by first | exact Or.inl rfl | exact Or.inr rfl) (pe_callD O_u_law_put hr (by decide) (pa_cons (pe_callD O_u_law_put hr (by decide) (pa_cons (pv 5) (pa_cons (pv 6) (pa_cons (pe_ix ix_seq (pv 11) (pe_callD O_u_law_take hr (by decide) (pa_cons (pv 1) (pa_cons (pe_callB (r := rLen _) call_len rfl T.f_len b_len (pa_cons (pv 11) pa_nil)) pa_nil))) (fun _ _ => rfl)) pa_nil)))) (pa_cons (pv 14) (pa_cons (pe_ix ix_seq (pv 11) (pe_callD O_u_law_take hr (by decide) (pa_cons (pv 1) (pa_cons (pe_callB (r := rLen _) call_len rfl T.f_len b_len (pa_cons (pv 11) pa_nil)) pa_nil))) (fun _ _ => rfl)) pa_nil)))))
 (pss_cons (ps_expr (pe_bm PySem.F.plainAttrs_list PySem.F.slot_list_append PySem.F.type_list_append mt_append (pv 12) (pa_cons (pe_tup (pa_cons (pv 2) (pa_cons (pv 3) (pa_cons (pv 4) (pa_cons (pv 15) pa_nil))))) pa_nil)))
 (pss_cons (ps_expr (pe_bm PySem.F.plainAttrs_list PySem.F.slot_list_append PySem.F.type_list_append mt_append (pv 12) (pa_cons (pe_tup (pa_cons (pe_callD O_u_law_put hr (by decide) (pa_cons (pv 2) (pa_cons (pv 14) (pa_cons pe_str pa_nil)))) (pa_cons (pv 3) (pa_cons (pv 4) (pa_cons (pe_callD O_u_law_put hr (by decide) (pa_cons (pv 5) (pa_cons (pv 6) (pa_cons (pe_ix ix_seq (pv 11) (pe_callD O_u_law_take hr (by decide) (pa_cons (pv 1) (pa_cons (pe_callB (r := rLen _) call_len rfl T.f_len b_len (pa_cons (pv 11) pa_nil)) pa_nil))) (fun _ _ => rfl)) pa_nil)))) pa_nil))))) pa_nil)))
 (pss_one (ps_ret (pv 12))))))))))))))
def t_u_law_moved (K : PySem.W.Frag) : TS := (tSeq (tAsg (tVar 0) (gTup K 4 (gCons (gName 2) (gCons (gName 3) (gCons (gName 4) (gCons (gName 5) gNil))))))
 (tSeq (tAsg (tCall (sp_u_law_take K) [] E0 (tCons (tVar 1) (tCons (tCB (rLen K) (tCons (tVar 2) tNil)) tNil))) (gName 6))
 (tSeq (tAsg (tOp (rIx K) (tVar 5) (tVar 6)) (gTup K 4 (gCons (gName 7) (gCons (gName 8) (gCons (gName 9) (gCons (gName 10) gNil))))))
 (tSeq (tAsg (tLst (tCons (tTup (tCons (tOp rSubU (tVar 7) (tC (.int 1))) (tCons (tVar 8) (tCons (tVar 9) (tCons (tVar 10) tNil))))) (tCons (tTup (tCons (tVar 7) (tCons (tOp rSubU (tVar 8) (tC (.int 1))) (tCons (tVar 9) (tCons (tVar 10) tNil))))) (tCons (tTup (tCons (tVar 7) (tCons (tVar 8) (tCons (tOp (rAddU K) (tVar 9) (tC (.int 1))) (tCons (tVar 10) tNil))))) (tCons (tTup (tCons (tVar 7) (tCons (tVar 8) (tCons (tVar 9) (tCons (tOp (rAddU K) (tVar 10) (tC (.int 1))) tNil))))) (tCons (tTup (tCons (tOp rSubU (tVar 7) (tC (.int 1))) (tCons (tVar 8) (tCons (tOp rSubU (tVar 9) (tC (.int 1))) (tCons (tVar 10) tNil))))) tNil)))))) (gName 11))
 (tSeq (tAug 11 (tLst (tCons (tTup (tCons (tVar 7) (tCons (tOp (rAddU K) (tVar 8) (tC (.int 1))) (tCons (tVar 9) (tCons (tOp (rAddU K) (tVar 10) (tC (.int 1))) tNil))))) (tCons (tTup (tCons (tOp (rAddU K) (tVar 7) (tC (.int 1))) (tCons (tVar 8) (tCons (tVar 9) (tCons (tVar 10) tNil))))) (tCons (tTup (tCons (tVar 7) (tCons (tOp (rAddU K) (tVar 8) (tC (.int 1))) (tCons (tVar 9) (tCons (tVar 10) tNil))))) (tCons (tTup (tCons (tVar 7) (tCons (tVar 8) (tCons (tOp rSubU (tVar 9) (tC (.int 1))) (tCons (tVar 10) tNil))))) (tCons (tTup (tCons (tVar 7) (tCons (tVar 8) (tCons (tVar 9) (tCons (tOp rSubU (tVar 10) (tC (.int 1))) tNil))))) tNil)))))) rIAddU)
 (tSeq (tAug 11 (tLst (tCons (tTup (tCons (tC (.int 0)) (tCons (tC (.int 0)) (tCons (tVar 3) (tCons (tVar 4) tNil))))) (tCons (tOp (rIx K) (tVar 5) (tCall (sp_u_law_take K) [] E0 (tCons (tVar 1) (tCons (tCB (rLen K) (tCons (tVar 2) tNil)) tNil)))) tNil))) rIAddU)
 (tSeq (tAsg (tLc (iSeqU K (tVar 11)) (gName 13) tYes (tTup (tCons (tVar 2) (tCons (tVar 3) (tCons (tVar 4) (tCons (tCall (sp_u_law_put K) [] E0 (tCons (tVar 5) (tCons (tVar 6) (tCons (tVar 13) tNil)))) tNil))))) [13]) (gName 12))
 (tSeq (tIfS (tTest (tOp rGtU (tCB (rLen K) (tCons (tVar 2) tNil)) (tC (.int 1)))) (tDrop (tBM K "list" rAppend (tVar 12) (tCons (tTup (tCons (tOp (rAddU K) (tSl (rSlU K) (tVar 2) tNoPart (tPart (tVar 6))) (tSl (rSlU K) (tVar 2) (tPart (tOp (rAddU K) (tVar 6) (tC (.int 1)))) tNoPart)) (tCons (tVar 3) (tCons (tVar 4) (tCons (tOp (rAddU K) (tSl (rSlU K) (tVar 5) tNoPart (tPart (tVar 6))) (tSl (rSlU K) (tVar 5) (tPart (tOp (rAddU K) (tVar 6) (tC (.int 1)))) tNoPart)) tNil))))) tNil))) tNext)
 (tSeq (tIfS (tTest (tOp rLtU (tVar 3) (tC (.int 10000)))) (tDrop (tBM K "list" rAppend (tVar 12) (tCons (tTup (tCons (tVar 2) (tCons (tOp (rAddU K) (tVar 3) (tC (.int 1))) (tCons (tVar 4) (tCons (tVar 5) tNil))))) tNil))) tNext)
 (tSeq (tIfS (tAnd (tTest (tOp rLtU (tCB (rLen K) (tCons (tVar 2) tNil)) (tC (.int 38)))) (tAnd (tTest (tOp rGtU (tOp rSubU (tVar 9) (tVar 7)) (tC (.int 1)))) (tTest (tOp rGtU (tOp rSubU (tVar 10) (tVar 8)) (tC (.int 1)))))) (tSeq (tAsg (tOp (rAddU K) (tOp (rAddU K) (tVar 7) (tC (.int 1))) (tCall (sp_u_law_take K) [] E0 (tCons (tVar 1) (tCons (tOp rSubU (tOp rSubU (tVar 9) (tVar 7)) (tC (.int 1))) tNil)))) (gName 14))
 (tSeq (tAsg (tOp (rAddU K) (tOp (rAddU K) (tVar 8) (tC (.int 1))) (tCall (sp_u_law_take K) [] E0 (tCons (tVar 1) (tCons (tOp rSubU (tOp rSubU (tVar 10) (tVar 8)) (tC (.int 1))) tNil)))) (gName 15))
 (tSeq (tAsg (tCB (rTupU K) (tCons (tCall (sp_u_law_names K) [] E0 (tCons (tVar 1) (tCons (tOp (rAddU K) (tCB (rLen K) (tCons (tVar 2) tNil)) (tC (.int 3))) tNil))) tNil)) (gName 16))
 (tSeq (tAsg (tOp (rAddU K) (tOp (rAddU K) (tOp (rAddU K) (tSl (rSlU K) (tVar 5) tNoPart (tPart (tVar 6))) (tTup (tCons (tTup (tCons (tVar 7) (tCons (tVar 8) (tCons (tVar 14) (tCons (tVar 15) tNil))))) (tCons (tTup (tCons (tVar 14) (tCons (tVar 15) (tCons (tVar 9) (tCons (tVar 10) tNil))))) (tCons (tTup (tCons (tVar 7) (tCons (tVar 15) (tCons (tVar 14) (tCons (tVar 10) tNil))))) tNil))))) (tSl (rSlU K) (tVar 5) (tPart (tOp (rAddU K) (tVar 6) (tC (.int 1)))) tNoPart)) (tTup (tCons (tTup (tCons (tVar 14) (tCons (tVar 8) (tCons (tVar 9) (tCons (tVar 15) tNil))))) tNil))) (gName 17))
 (tDrop (tBM K "list" rAppend (tVar 12) (tCons (tTup (tCons (tVar 16) (tCons (tVar 3) (tCons (tVar 4) (tCons (tVar 17) tNil))))) tNil))))))) tNext)
 (tRet (tVar 12))))))))))))
theorem dv_u_law_moved (T : Txt K mg) (O_u_law_take : Okd P w K mg base CX0 1 "_law_take" ["state", "many"] (sp_u_law_take K)) (O_u_law_put : Okd P w K mg base CX0 1 "_law_put" ["row", "at", "thing"] (sp_u_law_put K)) (O_u_law_names : Okd P w K mg base CX0 2 "_law_names" ["state", "many"] (sp_u_law_names K)) {f : Addr} (cdv : Value) (A : Around) (outer : List PySem.Env) (s : Shared) (H : Hp) (E : XK) (hr : Room 2 (A.deeper (envOfC "_law_moved" (defScope s_u_law_moved) s.heap.objs.size f cdv))) :
    PSs (cxOf CX0 P w K mg base N_u_law_moved "_law_moved" (defScope s_u_law_moved) f cdv A outer s H E) (defBody s_u_law_moved) (t_u_law_moved K) := by
  have sc := sc_u_law_moved
  exact (pss_cons (ps_asg (pv 0) (pg_tup rfl (pgs_cons (pg_name (i := 2) sc.nd rfl (by first | exact Or.inl rfl | exact Or.inr rfl)) (pgs_cons (pg_name (i := 3) sc.nd rfl (by first | exact Or.inl rfl | exact Or.inr rfl)) (pgs_cons (pg_name (i := 4) sc.nd rfl (by first | exact Or.inl rfl | exact Or.inr rfl)) (pgs_cons (pg_name (i := 5) sc.nd rfl (by first | exact Or.inl rfl | exact Or.inr rfl)) pgs_nil))))))
 (pss_cons (ps_set (i := 6) sc.nd rfl (by first | exact Or.inl rfl | exact Or.inr rfl) (pe_callD O_u_law_take hr (by decide) (pa_cons (pv 1) (pa_cons (pe_callB (r := rLen _) call_len rfl T.f_len b_len (pa_cons (pv 2) pa_nil)) pa_nil))))
 (pss_cons (ps_asg (pe_ix ix_seq (pv 5) (pv 6) (fun _ _ => rfl)) (pg_tup rfl (pgs_cons (pg_name (i := 7) sc.nd rfl (by first | exact Or.inl rfl | exact Or.inr rfl)) (pgs_cons (pg_name (i := 8) sc.nd rfl (by first | exact Or.inl rfl | exact Or.inr rfl)) (pgs_cons (pg_name (i := 9) sc.nd rfl (by first | exact Or.inl rfl | exact Or.inr rfl)) (pgs_cons (pg_name (i := 10) sc.nd rfl (by first | exact Or.inl rfl | exact Or.inr rfl)) pgs_nil))))))
 (pss_cons (ps_set (i := 11) sc.nd rfl (by first | exact Or.inl rfl | exact Or.inr rfl) (pe_lst (pa_cons (pe_tup (pa_cons (pe_op op_sub (pv 7) pe_int) (pa_cons (pv 8) (pa_cons (pv 9) (pa_cons (pv 10) pa_nil))))) (pa_cons (pe_tup (pa_cons (pv 7) (pa_cons (pe_op op_sub (pv 8) pe_int) (pa_cons (pv 9) (pa_cons (pv 10) pa_nil))))) (pa_cons (pe_tup (pa_cons (pv 7) (pa_cons (pv 8) (pa_cons (pe_op op_addU (pv 9) pe_int) (pa_cons (pv 10) pa_nil))))) (pa_cons (pe_tup (pa_cons (pv 7) (pa_cons (pv 8) (pa_cons (pv 9) (pa_cons (pe_op op_addU (pv 10) pe_int) pa_nil))))) (pa_cons (pe_tup (pa_cons (pe_op op_sub (pv 7) pe_int) (pa_cons (pv 8) (pa_cons (pe_op op_sub (pv 9) pe_int) (pa_cons (pv 10) pa_nil))))) pa_nil)))))))
 (pss_cons (ps_aug (i := 11) sc.nd rfl (by first | exact Or.inl rfl | exact Or.inr rfl) (pe_lst (pa_cons (pe_tup (pa_cons (pv 7) (pa_cons (pe_op op_addU (pv 8) pe_int) (pa_cons (pv 9) (pa_cons (pe_op op_addU (pv 10) pe_int) pa_nil))))) (pa_cons (pe_tup (pa_cons (pe_op op_addU (pv 7) pe_int) (pa_cons (pv 8) (pa_cons (pv 9) (pa_cons (pv 10) pa_nil))))) (pa_cons (pe_tup (pa_cons (pv 7) (pa_cons (pe_op op_addU (pv 8) pe_int) (pa_cons (pv 9) (pa_cons (pv 10) pa_nil))))) (pa_cons (pe_tup (pa_cons (pv 7) (pa_cons (pv 8) (pa_cons (pe_op op_sub (pv 9) pe_int) (pa_cons (pv 10) pa_nil))))) (pa_cons (pe_tup (pa_cons (pv 7) (pa_cons (pv 8) (pa_cons (pv 9) (pa_cons (pe_op op_sub (pv 10) pe_int) pa_nil))))) pa_nil)))))) ip_addU)
 (pss_cons (ps_aug (i := 11) sc.nd rfl (by first | exact Or.inl rfl | exact Or.inr rfl) (pe_lst (pa_cons (pe_tup (pa_cons pe_int (pa_cons pe_int (pa_cons (pv 3) (pa_cons (pv 4) pa_nil))))) (pa_cons (pe_ix ix_seq (pv 5) (pe_callD O_u_law_take hr (by decide) (pa_cons (pv 1) (pa_cons (pe_callB (r := rLen _) call_len rfl T.f_len b_len (pa_cons (pv 2) pa_nil)) pa_nil))) (fun _ _ => rfl)) pa_nil))) ip_addU)
 (pss_cons (ps_setLc (i := 12) (own := [("box", 13)]) (g := (gName 13)) (tt := tYes) rfl sc.nd rfl rfl (sw_true rfl rfl rfl (by decide +kernel)) (pi_seqU (pv 11)) (blkOk_by (own := [("box", 13)]) (N := N_u_law_moved) (sc := defScope s_u_law_moved) (by decide +kernel)) (fun _ _ _ _ _ => (pg_name (i := 13) sc.nd rfl (by first | exact Or.inl rfl | exact Or.inr rfl))) (fun _ _ _ _ _ => pts_nil) (fun _ _ _ _ _ => (pe_tup (pa_cons (pv 2) (pa_cons (pv 3) (pa_cons (pv 4) (pa_cons (pe_callD O_u_law_put hr (by decide) (pa_cons (pv 5) (pa_cons (pv 6) (pa_cons (pv 13) pa_nil)))) pa_nil)))))))
 (pss_cons (ps_if (pt_cmpR op_gtU (pe_callB (r := rLen _) call_len rfl T.f_len b_len (pa_cons (pv 2) pa_nil)) pe_int (nomark _)) (pss_one (ps_expr (pe_bm PySem.F.plainAttrs_list PySem.F.slot_list_append PySem.F.type_list_append mt_append (pv 12) (pa_cons (pe_tup (pa_cons (pe_op op_addU (pe_slice sl_U (pv 2) po_none (po_some (pv 6))) (pe_slice sl_U (pv 2) (po_some (pe_op op_addU (pv 6) pe_int)) po_none)) (pa_cons (pv 3) (pa_cons (pv 4) (pa_cons (pe_op op_addU (pe_slice sl_U (pv 5) po_none (po_some (pv 6))) (pe_slice sl_U (pv 5) (po_some (pe_op op_addU (pv 6) pe_int)) po_none)) pa_nil))))) pa_nil)))) pss_nil)
 (pss_cons (ps_if (pt_cmpR op_ltU (pv 3) pe_int (nomark _)) (pss_one (ps_expr (pe_bm PySem.F.plainAttrs_list PySem.F.slot_list_append PySem.F.type_list_append mt_append (pv 12) (pa_cons (pe_tup (pa_cons (pv 2) (pa_cons (pe_op op_addU (pv 3) pe_int) (pa_cons (pv 4) (pa_cons (pv 5) pa_nil))))) pa_nil)))) pss_nil)
 (pss_cons (ps_if (PW.pt (pw_and (pt_cmpR op_ltU (pe_callB (r := rLen _) call_len rfl T.f_len b_len (pa_cons (pv 2) pa_nil)) pe_int (nomark _)) (pw_and (pt_cmpR op_gtU (pe_op op_sub (pv 9) (pv 7)) pe_int (nomark _)) (pw_and1 (pt_cmpR op_gtU (pe_op op_sub (pv 10) (pv 8)) pe_int (nomark _)))))) (pss_cons (ps_set (i := 14) sc.nd rfl (by first | exact Or.inl rfl | exact Or.inr rfl) (pe_op op_addU (pe_op op_addU (pv 7) pe_int) (pe_callD O_u_law_take hr (by decide) (pa_cons (pv 1) (pa_cons (pe_op op_sub (pe_op op_sub (pv 9) (pv 7)) pe_int) pa_nil)))))
 (pss_cons (ps_set (i := 15) sc.nd rfl (by first | exact Or.inl rfl | exact Or.inr rfl) (pe_op op_addU (pe_op op_addU (pv 8) pe_int) (pe_callD O_u_law_take hr (by decide) (pa_cons (pv 1) (pa_cons (pe_op op_sub (pe_op op_sub (pv 10) (pv 8)) pe_int) pa_nil)))))
 (pss_cons (ps_set (i := 16) sc.nd rfl (by first | exact Or.inl rfl | exact Or.inr rfl) (pe_callTy (r := rTupU _) call_tupleU rfl T.f_tuple b_tuple (pa_cons (pe_callD O_u_law_names hr (by decide) (pa_cons (pv 1) (pa_cons (pe_op op_addU (pe_callB (r := rLen _) call_len rfl T.f_len b_len (pa_cons (pv 2) pa_nil)) pe_int) pa_nil))) pa_nil)))
 (pss_cons (ps_set (i := 17) sc.nd rfl (by first | exact Or.inl rfl | exact Or.inr rfl) (pe_op op_addU (pe_op op_addU (pe_op op_addU (pe_slice sl_U (pv 5) po_none (po_some (pv 6))) (pe_tup (pa_cons (pe_tup (pa_cons (pv 7) (pa_cons (pv 8) (pa_cons (pv 14) (pa_cons (pv 15) pa_nil))))) (pa_cons (pe_tup (pa_cons (pv 14) (pa_cons (pv 15) (pa_cons (pv 9) (pa_cons (pv 10) pa_nil))))) (pa_cons (pe_tup (pa_cons (pv 7) (pa_cons (pv 15) (pa_cons (pv 14) (pa_cons (pv 10) pa_nil))))) pa_nil))))) (pe_slice sl_U (pv 5) (po_some (pe_op op_addU (pv 6) pe_int)) po_none)) (pe_tup (pa_cons (pe_tup (pa_cons (pv 14) (pa_cons (pv 8) (pa_cons (pv 9) (pa_cons (pv 15) pa_nil))))) pa_nil))))
 (pss_one (ps_expr (pe_bm PySem.F.plainAttrs_list PySem.F.slot_list_append PySem.F.type_list_append mt_append (pv 12) (pa_cons (pe_tup (pa_cons (pv 16) (pa_cons (pv 3) (pa_cons (pv 4) (pa_cons (pv 17) pa_nil))))) pa_nil)))))))) pss_nil)
 (pss_one (ps_ret (pv 12)))))))))))))
def t_law (K : PySem.W.Frag) : TS := (tSeq (tAsg (tCall (sp_u_law_state K) [] E0 (tCons (tVar 0) tNil)) (gName 1))
 (tSeq (tAsg (tOp (rEqU K) (tCall (sp_u_law_take K) [] E0 (tCons (tVar 1) (tCons (tC (.int 7)) tNil))) (tC (.int 3))) (gName 2))
 (tSeq (tAsg (tIf (tTr K (tVar 2)) (tC (.int 40)) (tOp (rAddU K) (tC (.int 1)) (tCall (sp_u_law_take K) [] E0 (tCons (tVar 1) (tCons (tC (.int 9)) tNil))))) (gName 3))
 (tSeq (tAsg (tIf (tTr K (tVar 2)) (tC (.int 10000)) (tOp (rIx K) (tLst (tCons (tC (.int 6)) (tCons (tC (.int 40)) (tCons (tC (.int 10000)) tNil)))) (tCall (sp_u_law_take K) [] E0 (tCons (tVar 1) (tCons (tC (.int 3)) tNil))))) (gName 4))
 (tSeq (tPar 5 6 (tCons (tOp (rAddU K) (tC (.int 1)) (tCall (sp_u_law_take K) [] E0 (tCons (tVar 1) (tCons (tVar 4) tNil)))) (tCons (tOp (rAddU K) (tC (.int 1)) (tCall (sp_u_law_take K) [] E0 (tCons (tVar 1) (tCons (tVar 4) tNil)))) tNil)))
 (tSeq (tIfS (tAnd (tTr K (tVar 2)) (tTest (tOp (rEqU K) (tCall (sp_u_law_take K) [] E0 (tCons (tVar 1) (tCons (tC (.int 2)) tNil))) (tC (.int 0))))) (tAsg (tTup (tCons (tC (.int 10000)) (tCons (tC (.int 10000)) tNil))) (gTup K 2 (gCons (gName 5) (gCons (gName 6) gNil)))) tNext)
 (tSeq (tAsg (tCall (sp_u_law_plan K) [] E0 (tCons (tVar 1) (tCons (tVar 3) (tCons (tVar 5) (tCons (tVar 6) (tCons (tC (.bl true)) tNil)))))) (gName 7))
 (tSeq (tIfS (tOr (tNot (tTr K (tCall (sp_u_law_ask K) [] E0 (tCons (tVar 7) tNil)))) (tNot (tTr K (tCB (rIsi K) (tCons (tCall (sp_u_law_due K) [] E0 (tCons (tVar 7) tNil)) (tCons (tC (.ty "int")) tNil)))))) (tRet (tC (.bl false))) tNext)
 (tSeq (tAsg (tOp (rIx K) (tLst (tCons (tC (.int 10000)) (tCons (tOp (rAddU K) (tC (.int 40)) (tCall (sp_u_law_take K) [] E0 (tCons (tVar 1) (tCons (tC (.int 9961)) tNil)))) tNil))) (tCall (sp_u_law_take K) [] E0 (tCons (tVar 1) (tCons (tC (.int 2)) tNil)))) (gName 8))
 (tSeq (tAsg (tLst (tCons (tCall (sp_u_law_strip K) [] E0 (tCons (tC (.int 40)) (tCons (tOp (rIx K) (tLst (tCons (tVar 5) (tCons (tC (.int 10000)) tNil))) (tCall (sp_u_law_take K) [] E0 (tCons (tVar 1) (tCons (tC (.int 2)) tNil)))) (tCons (tVar 8) tNil)))) (tCons (tCall (sp_u_law_strip K) [] E0 (tCons (tC (.int 41)) (tCons (tVar 5) (tCons (tC (.int 50)) tNil)))) tNil))) (gName 9))
 (tSeq (tAug 9 (tLst (tCons (tCall (sp_u_law_plan K) [] E0 (tCons (tVar 1) (tCons (tOp (rAddU K) (tC (.int 2)) (tCall (sp_u_law_take K) [] E0 (tCons (tVar 1) (tCons (tC (.int 12)) tNil)))) (tCons (tOp (rAddU K) (tC (.int 2)) (tCall (sp_u_law_take K) [] E0 (tCons (tVar 1) (tCons (tC (.int 5)) tNil)))) (tCons (tOp (rAddU K) (tC (.int 2)) (tCall (sp_u_law_take K) [] E0 (tCons (tVar 1) (tCons (tC (.int 5)) tNil)))) (tCons (tC (.bl false)) tNil)))))) tNil)) rIAddU)
 (tSeq (tAug 9 (tLst (tCons (tTup (tCons (tTup (tCons (tC (.str "a")) (tCons (tC (.str "b")) (tCons (tC (.str "c")) (tCons (tC (.str "d")) tNil))))) (tCons (tC (.int 2)) (tCons (tC (.int 2)) (tCons (tTup (tCons (tTup (tCons (tC (.int 0)) (tCons (tC (.int 0)) (tCons (tC (.int 1)) (tCons (tC (.int 1)) tNil))))) (tCons (tTup (tCons (tC (.int 1)) (tCons (tC (.int 0)) (tCons (tC (.int 2)) (tCons (tC (.int 1)) tNil))))) (tCons (tTup (tCons (tC (.int 0)) (tCons (tC (.int 1)) (tCons (tC (.int 1)) (tCons (tC (.int 2)) tNil))))) (tCons (tTup (tCons (tC (.int 1)) (tCons (tC (.int 1)) (tCons (tC (.int 2)) (tCons (tC (.int 2)) tNil))))) tNil))))) tNil))))) tNil)) rIAddU)
 (tSeq (tAug 9 (tOp (rAddU K) (tOp (rAddU K) (tOp (rAddU K) (tCall (sp_u_law_forms K) [] E0 (tCons (tVar 7) (tCons (tVar 1) tNil))) (tCall (sp_u_law_named K) [] E0 (tCons (tVar 7) (tCons (tVar 1) tNil)))) (tCall (sp_u_law_boxed K) [] E0 (tCons (tVar 7) (tCons (tVar 1) tNil)))) (tCall (sp_u_law_moved K) [] E0 (tCons (tVar 7) (tCons (tVar 1) tNil)))) rIAddU)
 (tSeq (tFor (iSeqU K (tVar 9)) (gName 10) (tIfS (tNot (tTr K (tCall (sp_u_law_ask K) [] E0 (tCons (tVar 10) tNil)))) (tRet (tC (.bl false))) tNext))
 (tRet (tCall (sp_u_law_ask K) [] E0 (tCons (tVar 7) tNil)))))))))))))))))
theorem dv_law (T : Txt K mg) (O_u_law_state : Okd P w K mg base CX0 1 "_law_state" ["script"] (sp_u_law_state K)) (O_u_law_plan : Okd P w K mg base CX0 4 "_law_plan" ["state", "many", "wide", "high", "strict"] (sp_u_law_plan K)) (O_u_law_ask : Okd P w K mg base CX0 6 "_law_ask" ["thing"] (sp_u_law_ask K)) (O_u_law_take : Okd P w K mg base CX0 1 "_law_take" ["state", "many"] (sp_u_law_take K)) (O_u_law_strip : Okd P w K mg base CX0 1 "_law_strip" ["many", "wide", "high"] (sp_u_law_strip K)) (O_u_law_moved : Okd P w K mg base CX0 3 "_law_moved" ["plan", "state"] (sp_u_law_moved K)) (O_u_law_boxed : Okd P w K mg base CX0 2 "_law_boxed" ["plan", "state"] (sp_u_law_boxed K)) (O_u_law_due : Okd P w K mg base CX0 3 "_law_due" ["thing"] (sp_u_law_due K)) (O_u_law_forms : Okd P w K mg base CX0 2 "_law_forms" ["plan", "state"] (sp_u_law_forms K)) (O_u_law_named : Okd P w K mg base CX0 2 "_law_named" ["plan", "state"] (sp_u_law_named K)) {f : Addr} (cdv : Value) (A : Around) (outer : List PySem.Env) (s : Shared) (H : Hp) (E : XK) (hr : Room 6 (A.deeper (envOfC "law" (defScope s_law) s.heap.objs.size f cdv))) :
    PSs (cxOf CX0 P w K mg base N_law "law" (defScope s_law) f cdv A outer s H E) (defBody s_law) (t_law K) := by
  have sc := sc_law
  have pa : PassesOwn (model P w) (cxOf CX0 P w K mg base N_law "law" (defScope s_law) f cdv A outer s H E).A (cxOf CX0 P w K mg base N_law "law" (defScope s_law) f cdv A outer s H E).env (cxOf CX0 P w K mg base N_law "law" (defScope s_law) f cdv A outer s H E).xe := passes_of rfl
  exact (pss_cons (ps_set (i := 1) sc.nd rfl (by first | exact Or.inl rfl | exact Or.inr rfl) (pe_callD O_u_law_state hr (by decide) (pa_cons (pv 0) pa_nil)))
 (pss_cons (ps_set (i := 2) sc.nd rfl (by first | exact Or.inl rfl | exact Or.inr rfl) (pe_cmpR (op_eqU hr.units) (pe_callD O_u_law_take hr (by decide) (pa_cons (pv 1) (pa_cons pe_int pa_nil))) pe_int (nomark _)))
 (pss_cons (ps_set (i := 3) sc.nd rfl (by first | exact Or.inl rfl | exact Or.inr rfl) (pe_ifExp (pt_tr (pv 2)) pe_int (pe_op op_addU pe_int (pe_callD O_u_law_take hr (by decide) (pa_cons (pv 1) (pa_cons pe_int pa_nil))))))
 (pss_cons (ps_set (i := 4) sc.nd rfl (by first | exact Or.inl rfl | exact Or.inr rfl) (pe_ifExp (pt_tr (pv 2)) pe_int (pe_ix ix_seq (pe_lst (pa_cons pe_int (pa_cons pe_int (pa_cons pe_int pa_nil)))) (pe_callD O_u_law_take hr (by decide) (pa_cons (pv 1) (pa_cons pe_int pa_nil))) (fun _ _ => rfl))))
 (pss_cons (ps_par (i := 5) (j := 6) rfl sc.nd rfl rfl (by decide) rfl rfl (pa_cons (pe_op op_addU pe_int (pe_callD O_u_law_take hr (by decide) (pa_cons (pv 1) (pa_cons (pv 4) pa_nil)))) (pa_cons (pe_op op_addU pe_int (pe_callD O_u_law_take hr (by decide) (pa_cons (pv 1) (pa_cons (pv 4) pa_nil)))) pa_nil)) rfl)
 (pss_cons (ps_if (PW.pt (pw_and (pt_tr (pv 2)) (pw_and1 (pt_cmpR (op_eqU hr.units) (pe_callD O_u_law_take hr (by decide) (pa_cons (pv 1) (pa_cons pe_int pa_nil))) pe_int (nomark _))))) (pss_one (ps_asg (pe_tup (pa_cons pe_int (pa_cons pe_int pa_nil))) (pg_tup rfl (pgs_cons (pg_name (i := 5) sc.nd rfl (by first | exact Or.inl rfl | exact Or.inr rfl)) (pgs_cons (pg_name (i := 6) sc.nd rfl (by first | exact Or.inl rfl | exact Or.inr rfl)) pgs_nil))))) pss_nil)
 (pss_cons (ps_set (i := 7) sc.nd rfl (by first | exact Or.inl rfl | exact Or.inr rfl) (pe_callD O_u_law_plan hr (by decide) (pa_cons (pv 1) (pa_cons (pv 3) (pa_cons (pv 5) (pa_cons (pv 6) (pa_cons pe_bl pa_nil)))))))
 (pss_cons (ps_if (PW.pt (pw_or (pt_not (pt_tr (pe_callD O_u_law_ask hr (by decide) (pa_cons (pv 7) pa_nil)))) (pw_or1 (pt_not (pt_tr (pe_callB (r := rIsi _) call_isi rfl T.f_isinstance b_isinstance (pa_cons (pe_callD O_u_law_due hr (by decide) (pa_cons (pv 7) pa_nil)) (pa_cons (pe_bltn (v := .ty "int") rfl T.f_int b_int rfl) pa_nil)))))))) (pss_one (ps_ret pe_bl)) pss_nil)
 (pss_cons (ps_set (i := 8) sc.nd rfl (by first | exact Or.inl rfl | exact Or.inr rfl) (pe_ix ix_seq (pe_lst (pa_cons pe_int (pa_cons (pe_op op_addU pe_int (pe_callD O_u_law_take hr (by decide) (pa_cons (pv 1) (pa_cons pe_int pa_nil)))) pa_nil))) (pe_callD O_u_law_take hr (by decide) (pa_cons (pv 1) (pa_cons pe_int pa_nil))) (fun _ _ => rfl)))
 (pss_cons (ps_set (i := 9) sc.nd rfl (by first | exact Or.inl rfl | exact Or.inr rfl) (pe_lst (pa_cons (pe_callD O_u_law_strip hr (by decide) (pa_cons pe_int (pa_cons (pe_ix ix_seq (pe_lst (pa_cons (pv 5) (pa_cons pe_int pa_nil))) (pe_callD O_u_law_take hr (by decide) (pa_cons (pv 1) (pa_cons pe_int pa_nil))) (fun _ _ => rfl)) (pa_cons (pv 8) pa_nil)))) (pa_cons (pe_callD O_u_law_strip hr (by decide) (pa_cons pe_int (pa_cons (pv 5) (pa_cons pe_int pa_nil)))) pa_nil))))
 (pss_cons (ps_aug (i := 9) sc.nd rfl (by first | exact Or.inl rfl | exact Or.inr rfl) (pe_lst (pa_cons (pe_callD O_u_law_plan hr (by decide) (pa_cons (pv 1) (pa_cons (pe_op op_addU pe_int (pe_callD O_u_law_take hr (by decide) (pa_cons (pv 1) (pa_cons pe_int pa_nil)))) (pa_cons (pe_op op_addU pe_int (pe_callD O_u_law_take hr (by decide) (pa_cons (pv 1) (pa_cons pe_int pa_nil)))) (pa_cons (pe_op op_addU pe_int (pe_callD O_u_law_take hr (by decide) (pa_cons (pv 1) (pa_cons pe_int pa_nil)))) (pa_cons pe_bl pa_nil)))))) pa_nil)) ip_addU)
 (pss_cons (ps_aug (i := 9) sc.nd rfl (by first | exact Or.inl rfl | exact Or.inr rfl) (pe_lst (pa_cons (pe_tup (pa_cons (pe_tup (pa_cons pe_str (pa_cons pe_str (pa_cons pe_str (pa_cons pe_str pa_nil))))) (pa_cons pe_int (pa_cons pe_int (pa_cons (pe_tup (pa_cons (pe_tup (pa_cons pe_int (pa_cons pe_int (pa_cons pe_int (pa_cons pe_int pa_nil))))) (pa_cons (pe_tup (pa_cons pe_int (pa_cons pe_int (pa_cons pe_int (pa_cons pe_int pa_nil))))) (pa_cons (pe_tup (pa_cons pe_int (pa_cons pe_int (pa_cons pe_int (pa_cons pe_int pa_nil))))) (pa_cons (pe_tup (pa_cons pe_int (pa_cons pe_int (pa_cons pe_int (pa_cons pe_int pa_nil))))) pa_nil))))) pa_nil))))) pa_nil)) ip_addU)
 (pss_cons (ps_aug (i := 9) sc.nd rfl (by first | exact Or.inl rfl | exact Or.inr rfl) (pe_op op_addU (pe_op op_addU (pe_op op_addU (pe_callD O_u_law_forms hr (by decide) (pa_cons (pv 7) (pa_cons (pv 1) pa_nil))) (pe_callD O_u_law_named hr (by decide) (pa_cons (pv 7) (pa_cons (pv 1) pa_nil)))) (pe_callD O_u_law_boxed hr (by decide) (pa_cons (pv 7) (pa_cons (pv 1) pa_nil)))) (pe_callD O_u_law_moved hr (by decide) (pa_cons (pv 7) (pa_cons (pv 1) pa_nil)))) ip_addU)
 (pss_cons (ps_for pa rfl (pi_seqU (pv 9)) (pg_name (i := 10) sc.nd rfl (by first | exact Or.inl rfl | exact Or.inr rfl)) (pss_one (ps_if (pt_not (pt_tr (pe_callD O_u_law_ask hr (by decide) (pa_cons (pv 10) pa_nil)))) (pss_one (ps_ret pe_bl)) pss_nil)))
 (pss_one (ps_ret (pe_callD O_u_law_ask hr (by decide) (pa_cons (pv 7) pa_nil))))))))))))))))))
end
end K15

set_option maxHeartbeats 4000000
namespace K15
open PySem PySem.Spec PyProof.Rows L2 DL
local macro_rules | `(tactic| walk_at "sz") => `(tactic| first
  | assumption
  | decide
  | omega
  | (rw [sizeLine_eq]; omega)
  | (simp only [sizeLine_eq, len_app, len_rep, len_one, List.length_append, List.length_cons, List.length_nil, List.length_map, List.length_replicate] <;> omega)
  | (simp only [sizeLine_eq, len_app, len_rep, len_one, List.length_append, List.length_cons, List.length_nil, List.length_map, List.length_replicate] at * <;> omega))
local macro_rules | `(tactic| walk_at "flat") => `(tactic| first
  | rfl
  | assumption
  | exact strs_flat _
  | decide)
local macro_rules | `(tactic| walk_at "ix") => `(tactic| first
  | rfl
  | exact atI_ints (by walk_at "sz") (by walk_at "sz")
  | exact atI_strs (by walk_at "sz") (by walk_at "sz")
  | exact atI_nn PyData.none (by walk_at "sz") (by walk_at "sz")
  | exact atI_nn (α := Nat) 0 (by walk_at "sz") (by walk_at "sz"))
local macro_rules | `(tactic| walk_at "odx") => `(tactic| first
  | fail "odx")
local macro_rules | `(tactic| walk_at "od") => `(tactic| first
  | ((with_reducible apply od_addI))
  | ((with_reducible apply od_sub))
  | ((with_reducible apply od_cmpI))
  | ((with_reducible apply od_eqI))
  | ((with_reducible apply od_neI))
  | ((with_reducible apply od_cmpS))
  | ((with_reducible apply od_eqS))
  | ((with_reducible apply od_neS))
  | ((with_reducible apply od_eqB))
  | ((with_reducible apply od_neB))
  | ((with_reducible apply od_isB))
  | ((with_reducible apply od_notB))
  | ((with_reducible apply od_inC))
  | ((with_reducible apply od_ninC))
  | ((with_reducible apply od_mod); (· walk_at "sz"))
  | ((with_reducible apply od_div); (· walk_at "sz"))
  | ((with_reducible apply od_mulI); (· first | exact Or.inr (by decide) | exact Or.inl (by decide) | exact Or.inr (by omega) | exact Or.inl (by omega)))
  | ((with_reducible apply od_addS); (· walk_at "sz"))
  | ((with_reducible apply od_addT); (· walk_at "sz"))
  | ((with_reducible apply od_ixL); (· walk_at "ix"))
  | ((with_reducible apply od_ixT); (· walk_at "ix"))
  | ((with_reducible apply od_ixS); (· walk_at "sz"); (· walk_at "ix"))
  | ((with_reducible apply od_inT); (· walk_at "flat"); (· walk_at "flat"))
  | ((with_reducible apply od_ninT); (· walk_at "flat"); (· walk_at "flat"))
  | ((with_reducible apply od_inL); (· walk_at "flat"); (· walk_at "flat"))
  | ((with_reducible apply od_ninL); (· walk_at "flat"); (· walk_at "flat"))
  | ((with_reducible apply od_pow); (· walk_at "sz"))
  | ((with_reducible apply od_mulS); (· walk_at "sz"); (· walk_at "sz"); (· walk_at "sz"))
  | ((with_reducible apply od_ltQ))
  | ((with_reducible apply od_geQ))
  | exact od_inC
  | exact od_ninC
  | walk_at "odx")
local macro_rules | `(tactic| walk_at "ea") => `(tactic| first
  | ((with_reducible apply ea_nil))
  | ((with_reducible apply ea_cons); (· walk_at "ev"); (· walk_at "ea")))
local macro_rules | `(tactic| walk_at "cdx") => `(tactic| first
  | fail "cdx")
local macro_rules | `(tactic| walk_at "cd") => `(tactic| first
  | ((with_reducible apply cd_max))
  | ((with_reducible apply cd_min))
  | ((with_reducible apply cd_abs))
  | ((with_reducible apply cd_lenL))
  | ((with_reducible apply cd_lenT))
  | ((with_reducible apply cd_lenS); (· walk_at "sz"))
  | ((with_reducible apply cd_int))
  | ((with_reducible apply cd_strI); (· walk_at "sz"))
  | ((with_reducible apply cd_tupL))
  | ((with_reducible apply cd_tupT))
  | walk_at "cdx")
local macro_rules | `(tactic| walk_at "eo") => `(tactic| first
  | ((with_reducible apply eo_none))
  | ((with_reducible apply eo_some); (· walk_at "ev")))
local macro_rules | `(tactic| walk_at "cnx") => `(tactic| first
  | fail "cnx")
local macro_rules | `(tactic| walk_at "evnx") => `(tactic| first
  | fail "evnx")
local macro_rules | `(tactic| walk_at "evn") => `(tactic| first
  | ((with_reducible apply en_lst); (· walk_at "ea"); (· walk_at "sz"))
  | ((with_reducible apply en_slL); (· walk_at "ev"); (· walk_at "eo"); (· walk_at "eo"))
  | ((with_reducible apply en_slScr); (· walk_at "ev"); (· walk_at "eo"); (· walk_at "eo"))
  | ((with_reducible apply en_revL); (· walk_at "ev"))
  | ((with_reducible apply en_dnewT))
  | ((with_reducible apply en_dnewK))
  | ((with_reducible apply en_op); (· walk_at "ev"); (· walk_at "ev"); (· first | ((with_reducible apply on_addL); (· walk_at "sz")) | ((with_reducible apply on_mulL); (· walk_at "sz"); (· walk_at "sz"); (· walk_at "sz"))))
  | ((with_reducible apply en_cb); (· walk_at "ea"); (· first | with_reducible exact cn_listL | with_reducible exact cn_listT | with_reducible exact cn_sortS (by walk_at "sz") | walk_at "cnx"))
  | walk_at "evnx")
local macro_rules | `(tactic| walk_at "sd") => `(tactic| first
  | assumption
  | rfl
  | omega
  | decide
  | (constructor <;> omega)
  | (simp only [*]; done))
local macro_rules | `(tactic| walk_at "relx") => `(tactic| first
  | fail "relx")
local macro_rules | `(tactic| walk_at "rel") => `(tactic| first
  | exact ⟨_, rfl, by rfl⟩
  | exact ⟨_, rfl, by walk_at "sd", by rfl⟩
  | exact ⟨_, _, rfl, by rfl⟩
  | exact ⟨_, _, rfl, by walk_at "sd", by rfl⟩
  | exact ⟨_, _, rfl, by walk_at "sd", by walk_at "sd", by rfl⟩
  | walk_at "relx")
local macro_rules | `(tactic| walk_at "evx") => `(tactic| first
  | fail "evx")
local macro_rules | `(tactic| walk_at "isi") => `(tactic| first
  | rfl
  | assumption
  | (simp only [isDicD, tyD]; done))
local macro_rules | `(tactic| walk_at "ok") => `(tactic| first
  | rfl
  | assumption
  | decide
  | (simp only [*]; done))
local macro_rules | `(tactic| walk_at "ev") => `(tactic| first
  | ((with_reducible apply ev_var); (· exact rfl))
  | ((with_reducible apply ev_int))
  | ((with_reducible apply ev_str))
  | ((with_reducible apply ev_bl))
  | ((with_reducible apply ev_non))
  | ((with_reducible apply ev_neg); (· walk_at "ev"))
  | ((with_reducible apply ev_ixO); (· exact rfl); (· walk_at "ev"); (· walk_at "ix"))
  | ((with_reducible apply ev_lenO); (· exact rfl))
  | ((with_reducible apply ev_inO); (· walk_at "ev"); (· exact rfl); (· walk_at "flat"); (· walk_at "flat"))
  | ((with_reducible apply ev_ninO); (· walk_at "ev"); (· exact rfl); (· walk_at "flat"); (· walk_at "flat"))
  | ((with_reducible apply ev_op); (· walk_at "ev"); (· walk_at "ev"); (· walk_at "od"))
  | ((with_reducible apply ev_cb); (· walk_at "ea"); (· walk_at "cd"))
  | ((with_reducible apply ev_call); (· walk_at "ea"); (· walk_at "rel"))
  | ((with_reducible apply ev_tup); (· walk_at "ea"); (· walk_at "sz"))
  | ((with_reducible apply ev_isi); (· walk_at "ev"); (· walk_at "isi"); (· first | exact (show kitB _ _ = some true from rfl) | exact (show kitB _ _ = some false from rfl)))
  | ((with_reducible apply ev_isN); (· walk_at "ev"))
  | ((with_reducible apply ev_notN); (· walk_at "ev"))
  | ((with_reducible apply ev_inDS); (· walk_at "ev"); (· walk_at "ev"))
  | ((with_reducible apply ev_ninDS); (· walk_at "ev"); (· walk_at "ev"))
  | ((with_reducible apply ev_and0); (· exact ev_is (by walk_at "ev") (congrArg PyData.bool (by walk_at "ok"))))
  | ((with_reducible apply ev_or1); (· exact ev_is (by walk_at "ev") (congrArg PyData.bool (by walk_at "ok"))))
  | ((with_reducible apply ev_andV); (· walk_at "ev"); (· intro _; walk_at "ev"))
  | ((with_reducible apply ev_orV); (· walk_at "ev"); (· intro _; walk_at "ev"))
  | ((with_reducible apply ev_notV); (· walk_at "ev"))
  | ((with_reducible apply ev_if1); (· exact et_is (by walk_at "et") (by walk_at "ok")); (· walk_at "ev"))
  | ((with_reducible apply ev_if0); (· exact et_is (by walk_at "et") (by walk_at "ok")); (· walk_at "ev"))
  | ((with_reducible apply ev_ite); (· walk_at "et"); (· intro _; walk_at "ev"); (· intro _; walk_at "ev"))
  | ((with_reducible apply ev_slS); (· walk_at "ev"); (· walk_at "sz"); (· walk_at "eo"); (· walk_at "eo"))
  | ((with_reducible apply ev_slT); (· walk_at "ev"); (· walk_at "eo"); (· walk_at "eo"))
  | ((with_reducible apply ev_chain); (· walk_at "ev"); (· walk_at "ev"); (· walk_at "od"); (· intro _; walk_at "ev"); (· intro _; walk_at "od"))
  | ((with_reducible apply ev_N); (· walk_at "evn"))
  | walk_at "evx")
local macro_rules | `(tactic| walk_at "et!") => `(tactic| first
  | exact et_is (by walk_at "et") (by walk_at "ok"))
local macro_rules | `(tactic| walk_at "et") => `(tactic| first
  | ((with_reducible apply et_or1); (· exact et_is (by walk_at "et") (by walk_at "ok")))
  | ((with_reducible apply et_and0); (· exact et_is (by walk_at "et") (by walk_at "ok")))
  | ((with_reducible apply et_test); (· walk_at "ev"))
  | ((with_reducible apply et_B); (· walk_at "ev"))
  | ((with_reducible apply et_not); (· walk_at "et"))
  | ((with_reducible apply et_and); (· walk_at "et"); (· intro _; walk_at "et"))
  | ((with_reducible apply et_or); (· walk_at "et"); (· intro _; walk_at "et"))
  | ((with_reducible apply et_trB); (· walk_at "ev"))
  | ((with_reducible apply et_trO); (· exact rfl))
  | ((with_reducible apply et_tr); (· walk_at "ev"); (· walk_at "isi"); (· walk_at "sz")))
section
variable {P : Program} {w : World} {K : PySem.W.Frag} {mg : Str → Option Value} {base : Heap}
abbrev FnP (K : PySem.W.Frag) (x : Str) (st : Stmt) : Prop := ∃ fd, FunD K x x (defArgs st) (defBody st) (defScope st) [] [] (He.ga K x) fd
theorem s2 : 2 ≤ sizeLine := by rw [sizeLine_eq]; decide
theorem s4 : 4 ≤ sizeLine := by rw [sizeLine_eq]; decide
theorem getD_bx {bs : List Bx} {i : Nat} (hi : i < bs.length) : (bs.map bxD).getD i .none = bxD (bA bs i) := by
  unfold bA
  rw [List.getD_eq_getElem?_getD, List.getD_eq_getElem?_getD, List.getElem?_map, List.getElem?_eq_getElem hi]
  rfl
theorem bA_mem {bs : List Bx} {i : Nat} (hi : i < bs.length) : bA bs i ∈ bs := DL.getD_mem hi
theorem sIx_from (n k : Nat) : HT.sIx n 0 (some ((k : Int) + 1)) = min (k + 1) n := by
  have := HT.sIx_nat n 0 (k + 1)
  rwa [show ((k + 1 : Nat) : Int) = (k : Int) + 1 from by omega] at this
theorem cut_from {ds : List D} {k : Nat} (h : k < ds.length) : cutDs ds (some ((k : Int) + 1)) none = ds.drop (k + 1) := by
  unfold cutDs
  rw [sIx_from, Nat.min_eq_left (by omega)]
  show (ds.drop (k + 1)).take (ds.length - (k + 1)) = _
  exact List.take_of_length_le (by rw [List.length_drop]; exact Nat.le_refl _)
theorem ev_bx {ρ : List Sl} {te : TE} {b : Bx} (hp : EV K te ρ (bxD b)) : EV K (tOp (rIx K) te (tC (.int 0))) ρ (.int b.w) ∧ EV K (tOp (rIx K) te (tC (.int 1))) ρ (.int b.s) ∧ EV K (tOp (rIx K) te (tC (.int 2))) ρ (.int b.e) ∧ EV K (tOp (rIx K) te (tC (.int 3))) ρ (.int b.n) :=
  ⟨ev_op hp ev_int (od_ixT rfl), ev_op hp ev_int (od_ixT rfl), ev_op hp ev_int (od_ixT rfl), ev_op hp ev_int (od_ixT rfl)⟩
/-- four names take a box, a plan -/
theorem gt_bx {ρ : List Sl} {b : Bx} {i j k l : Nat} : GT K (gTup K 4 (gCons (gName i) (gCons (gName j) (gCons (gName k) (gCons (gName l) gNil))))) ρ (bxD b) ((((ρ.set i (.fr (.int b.w))).set j (.fr (.int b.s))).set k (.fr (.int b.e))).set l (.fr (.int b.n))) [i, j, k, l] := gt_tup rfl (gts_cons gt_name (gts_cons gt_name (gts_cons gt_name (gts_cons gt_name gts_nil))))
/-- for x in the script -/
theorem ei_scr {te : TE} {ρ : List Sl} {ns : List Int} (h : EV K te ρ (.dict [(.none, .list (ns.map PyData.int))])) : EI K (iSeqU K te) ρ ns.length (fun i => .int (ns.getD i 0)) := fun G0 H0 G H σ R E q =>
  h G0 H0 G H σ _ E fun v G1 H1 e1 hv => by
    generalize hk : [((PyData.none : D), (PyData.list (ns.map PyData.int) : D))] = kvs at hv
    cases hv with
    | dK a b => cases b with
      | nil => cases hk
      | @cons k => cases k <;> cases hk
    | dT a b => cases hk
    | sta _ _ => cases hk
    | opq _ => cases hk
    | raw _ => cases hk
    | @scr a ms sq =>
      have e2 : ms.map PyData.int = ns.map PyData.int := by
        injection hk with h1 h2
        injection h1 with h1 h2
        injection h2 with h2
        exact h2.symm
      have e4 : ms = ns := by
        have inj : ∀ (as bs : List Int), as.map PyData.int = bs.map PyData.int → as = bs := by
          intro as
          induction as with
          | nil => intro bs h; cases bs with
            | nil => rfl
            | cons b bs => exact nomatch h
          | cons a as ih => intro bs h; cases bs with
            | nil => exact nomatch h
            | cons b bs =>
              rw [List.map_cons, List.map_cons] at h
              injection h with h1 h2
              injection h1 with h1
              rw [h1, ih bs h2]
        exact inj _ _ e2
      subst e4
      refine .inl ⟨a, _, rfl, e1.gh.l sq, ?_⟩
      have q' := q
      rw [← List.length_map (f := V.int) (as := ms)] at q'
      refine q' _ G1 H1 _ _ e1 (walk_list (K := K) (a := a)) (fun G2 H2 hg gh => gh.l ((Sub.of hg).l sq)) fun i G2 H2 x H3 hi hg gh hy => ?_
      obtain ⟨rfl, hx⟩ := hy
      refine ⟨G2, .refl gh, ?_⟩
      rw [List.getElem?_map] at hx
      cases hm : ms[i]? with
      | none => rw [hm] at hx; exact nomatch hx
      | some m =>
        rw [hm] at hx
        obtain rfl : V.int m = x := by injection hx
        show Dq K G2 (.int m) (.int (ms.getD i 0))
        rw [getD_of hm]
        exact .int m
theorem cd_absI {i : Int} : ∃ j : Int, 0 ≤ j ∧ CD K rAbs [.int i] (.int j) := ⟨_, by split <;> omega, cd_abs⟩
theorem lcI {n : Nat} (b : Nat → Bool) (g : Nat → Int) : ∃ ms : List Int, lcD n b (fun i => .int (g i)) = ms.map PyData.int := by
  induction n with
  | zero => exact ⟨[], rfl⟩
  | succ n ih =>
    obtain ⟨ms, e⟩ := ih
    unfold lcD
    by_cases hb : b n = true
    · rw [if_pos hb, e]
      exact ⟨ms ++ [g n], by rw [List.map_append]; rfl⟩
    · rw [if_neg hb]
      exact ⟨ms, e⟩
theorem ok_u_law_state (T : Txt K mg) (hd : FnP K "_law_state" s_u_law_state) (hm : mg "_law_state" = some (.ref (He.ga K "_law_state")))  : Okd P w K mg base CX0 1 "_law_state" ["script"] (sp_u_law_state K) := by
  obtain ⟨fd, F⟩ := hd
  refine ⟨hm, fd, fn_pf F sc_u_law_state ?_ (fun cdv A outer s H E hr => ⟨_, dv_u_law_state T  cdv A outer s H E hr, ?_⟩), F.bindsN (fun _ _ _ _ _ _ us hl => match us, hl with | [_], _ => rfl), F.kp⟩
  · rintro ds d ⟨x0, rfl, _⟩
    rfl
  · rintro ds d ⟨ns, rfl, hn, rfl⟩
    refine ST.mono (P := fun o => o = .rt stD) ?_ fun o h => .inl h
    show ST K E0 (t_u_law_state K) [.fr (.dict [(.none, .list (ns.map PyData.int))]), .no, .no] _
    unfold t_u_law_state
    refine q_asg (d := .int 7151) ev_int ?_
    refine q_for (ei_scr (ns := ns) (ev_var rfl)) (fun _ ρ => ∃ (x : Int) (s2 : Sl), ρ = [.fr (.dict [(.none, .list (ns.map PyData.int))]), .fr (.int x), s2]) ⟨_, _, rfl⟩ ?_ ?_
    · rintro i ρ hi ⟨x, s2, rfl⟩
      refine ⟨_, _, gt_name, ?_⟩
      exact st_asg (ev_op (ev_op (ev_op (ev_op (ev_var (d := .int x) rfl) ev_int (od_mulI (.inr (by decide)))) (ev_op (ev_cb (ea_cons (ev_var (d := .int (ns.getD i 0)) rfl) ea_nil) cd_int) ev_int (od_mod (by decide))) od_addI) ev_int od_addI) ev_int (od_mod (by decide))) ⟨_, _, rfl⟩
    · rintro ρ ⟨x, s2, rfl⟩
      obtain ⟨ms, hms⟩ := lcI (n := ns.length) (fun i => decide ((10 : Int) ^ (18 : Int).toNat ≤ (if ns.getD i 0 < 0 then - ns.getD i 0 else ns.getD i 0))) (fun i => if ns.getD i 0 < 0 then - ns.getD i 0 else ns.getD i 0)
      refine st_ret (ev_stNew (evnx_of (en_lc (ei_scr (ns := ns) (ev_var rfl)) (by omega) fun i hi => ⟨_, _, gt_name, by simp, ?_, fun _ => ?_⟩) ⟨ms, congrArg PyData.list hms⟩) (ev_var rfl)) (by rfl)
      · exact et_test (ev_op (ev_cb (ea_cons (ev_cb (ea_cons (ev_var (d := .int (ns.getD i 0)) rfl) ea_nil) cd_int) ea_nil) cd_abs) (ev_op ev_int ev_int (od_pow (by decide))) od_cmpI)
      · exact ev_cb (ea_cons (ev_cb (ea_cons (ev_var (d := .int (ns.getD i 0)) rfl) ea_nil) cd_int) ea_nil) cd_abs

/-- some int -/
def AnyI : D → Prop := fun d => ∃ i : Int, d = .int i
def IntB (m : Int) : D → Prop := fun d => ∃ i : Int, d = .int i ∧ 0 ≤ i ∧ i < m
theorem evx_mod {ρ : List Sl} {ta tb : TE} {m : Int} (h : EVX K ta ρ AnyI) (hb : EV K tb ρ (.int m)) (h0 : 0 < m) : EVX K (tOp rModU ta tb) ρ (IntB m) := evx_op (Pc := fun d => d = .int m) h (evx_of hb rfl) (by
  rintro a b ⟨i, rfl⟩ rfl
  exact ⟨_, od_mod h0, _, rfl, Int.emod_nonneg _ (by omega), Int.emod_lt_of_pos _ h0⟩)
theorem evx_add {ρ : List Sl} {ta tb : TE} (h : EVX K ta ρ AnyI) (hb : EVX K tb ρ AnyI) : EVX K (tOp (rAddU K) ta tb) ρ AnyI := evx_op h hb (by
  rintro a b ⟨i, rfl⟩ ⟨j, rfl⟩
  exact ⟨_, od_addI, _, rfl⟩)
theorem evx_mulC {ρ : List Sl} {ta tb : TE} {c : Int} (h : EVX K ta ρ AnyI) (hb : EV K tb ρ (.int c)) (hc : -(2 ^ 64) < c ∧ c < 2 ^ 64) : EVX K (tOp rMulU ta tb) ρ AnyI := evx_op (Pc := fun d => d = .int c) h (evx_of hb rfl) (by
  rintro a b ⟨i, rfl⟩ rfl
  exact ⟨_, od_mulI (.inr hc), _, rfl⟩)
theorem evx_int {ρ : List Sl} {ta : TE} (h : EVX K ta ρ AnyI) : EVX K (tCB rIntU (tCons ta tNil)) ρ AnyI := evx_cb (Pl := fun ds => ∃ i : Int, ds = [.int i]) (eax_one h (by rintro d ⟨i, rfl⟩; exact ⟨i, rfl⟩)) (by
  rintro ds ⟨i, rfl⟩
  exact ⟨_, cd_int, _, rfl⟩)
theorem evx_st {ρ : List Sl} {k : Int} {n : Nat} (hi : ρ[n]? = some (.fr stD)) (hk : k = 0 ∨ k = 2 ∨ k = 3) : EVX K (tOp (rIx K) (tVar n) (tC (.int k))) ρ AnyI := evx_stI (ev_var hi) ev_int hk fun i => ⟨i, rfl⟩
theorem ok_u_law_take (T : Txt K mg) (hd : FnP K "_law_take" s_u_law_take) (hm : mg "_law_take" = some (.ref (He.ga K "_law_take")))  : Okd P w K mg base CX0 1 "_law_take" ["state", "many"] (sp_u_law_take K) := by
  obtain ⟨fd, F⟩ := hd
  refine ⟨hm, fd, fn_pq F sc_u_law_take ?_ (fun cdv A outer s H E hr => ⟨_, dv_u_law_take T  cdv A outer s H E hr, ?_⟩), F.bindsN (fun _ _ _ _ _ _ us hl => match us, hl with | [_, _], _ => rfl), F.kp⟩
  · rintro ds ⟨x0, rfl, _⟩
    rfl
  · rintro ds ⟨m, rfl, h0, h1⟩
    show ST K E0 (t_u_law_take K) [.fr stD, .fr (.int m), .no, .no] _
    unfold t_u_law_take
    refine st_seq (st_stPop (n := 0) rfl ?_)
    refine q_whenV (Pb := fun _ => True) (etx_test (Pd := fun d => ∃ b, d = .bool b) (evx_op (evx_st (n := 0) rfl (.inl rfl)) (evx_of (Pd := fun d => d = .int 0) ev_int rfl) ?_) (by rintro d ⟨b, rfl⟩; exact ⟨b, rfl, trivial⟩)) (fun _ => ?_) fun _ => ?_
    · rintro a b ⟨i, rfl⟩ rfl
      exact ⟨_, od_cmpI, _, rfl⟩
    · refine q_asgV (evx_mod (evx_int (evx_st (n := 0) rfl (.inl rfl))) (ev_var (d := .int m) rfl) h0) ?_
      rintro d ⟨v, rfl, v0, v1⟩
      refine st_seq (st_stSet (Pd := AnyI) (n := 0) rfl (.inl rfl) (evx_op (Pc := fun d => d = .int m) (evx_int (evx_st (n := 0) rfl (.inl rfl))) (evx_of (ev_var (d := .int m) rfl) rfl) ?_) (fun d h => h) ?_)
      · rintro a b ⟨i, rfl⟩ rfl
        exact ⟨_, od_div ⟨h0, by omega⟩, _, rfl⟩
      · exact st_ret (ev_var (d := .int v) rfl) ⟨_, rfl, m, v, rfl, rfl, v0, v1⟩
    · refine st_seq (st_stAug (n := 0) rfl ?_)
      refine q_asgV (evx_mod (evx_add (evx_add (evx_mulC (evx_int (evx_st (n := 0) rfl (.inr (.inl rfl)))) ev_int (by decide)) (evx_mulC (evx_int (evx_st (n := 0) rfl (.inr (.inr rfl)))) ev_int (by decide))) (evx_of ev_int ⟨_, rfl⟩)) ev_int (by decide)) ?_
      rintro d ⟨x, rfl, x0, x1⟩
      refine q_asgV (evx_mod (evx_add (evx_of (ev_op (ev_var (d := .int x) rfl) (ev_var (d := .int x) rfl) (od_mulI (.inl (by omega)))) ⟨_, rfl⟩) (evx_int (evx_st (n := 0) rfl (.inr (.inl rfl))))) ev_int (by decide)) ?_
      rintro d ⟨y, rfl, y0, y1⟩
      refine q_asgV (evx_mod (evx_add (evx_of (ev_op (ev_var (d := .int y) rfl) (ev_var (d := .int y) rfl) (od_mulI (.inl (by omega)))) ⟨_, rfl⟩) (evx_int (evx_st (n := 0) rfl (.inr (.inr rfl))))) ev_int (by decide)) ?_
      rintro d ⟨z, rfl, z0, z1⟩
      exact st_ret (ev_op (ev_op (ev_var (d := .int z) rfl) ev_int (od_div (by decide))) (ev_var (d := .int m) rfl) (od_mod h0)) ⟨_, rfl, m, _, rfl, rfl, Int.emod_nonneg _ (by omega), Int.emod_lt_of_pos _ h0⟩
theorem ev_take {ρ : List Sl} {n : Nat} {m : Int} {tb : TE} {Pd : D → Prop} (hi : ρ[n]? = some (.fr stD)) (hb : EV K tb ρ (.int m)) (h0 : 0 < m) (h1 : m ≤ 1000000) (k : ∀ v : Int, 0 ≤ v → v < m → Pd (.int v)) : EVX K (tCall (sp_u_law_take K) [] E0 (tCons (tVar n) (tCons tb tNil))) ρ Pd := by
  unfold sp_u_law_take
  refine evx_callQ (Pl := fun ds => ds = [stD, .int m]) (eax_of (ea_cons (ev_var hi) (ea_cons hb ea_nil)) rfl) ?_
  rintro ds rfl
  refine ⟨⟨m, rfl, h0, h1⟩, ?_⟩
  rintro d ⟨m', v, e, rfl, a, b⟩
  obtain rfl : m = m' := by injection e with _ e; injection e with e; injection e
  exact k v a b
def Chars (z : Str) : Prop := ∀ x ∈ z.cps.toList, x ∈ lowC.cps.toList ∨ x ∈ numC.cps.toList
theorem HeadLow.chars {z : Str} (h : HeadLow z) : Chars z := by
  obtain ⟨c, r, e, m, k⟩ := h
  intro x hx
  rw [e] at hx
  rcases List.mem_cons.mp hx with rfl | hx
  · exact .inl m
  · exact k x hx
theorem head_app {a b : Str} (h : HeadLow a) (k : Chars b) : HeadLow (a ++ b) := by
  obtain ⟨c, r, e, m, kr⟩ := h
  refine ⟨c, r ++ b.cps.toList, by rw [PyProof.Rows.cps_toList_append, e]; rfl, m, ?_⟩
  intro x hx
  rcases List.mem_append.mp hx with hx | hx
  · exact kr x hx
  · exact k x hx
theorem len_app (a b : Str) : (a ++ b).length = a.length + b.length := by
  have e := congrArg List.length (PyProof.Rows.cps_toList_append a b)
  rw [List.length_append, Array.length_toList, Array.length_toList, Array.length_toList] at e
  exact e
theorem cut8_list (z : Str) : (cutS z none (some 8)).cps.toList = z.cps.toList.take 8 := by
  unfold cutS
  show List.take (HT.sIx z.cps.size z.cps.size (some ((8 : Nat) : Int)) - 0) (z.cps.toList.drop 0) = z.cps.toList.take 8
  rw [HT.sIx_nat, List.drop_zero, Nat.sub_zero]
  by_cases h : z.cps.size ≤ 8
  · rw [Nat.min_eq_right h, List.take_of_length_le (by rw [Array.length_toList]; exact Nat.le_refl _), List.take_of_length_le (by rw [Array.length_toList]; exact h)]
  · rw [Nat.min_eq_left (by omega)]
theorem cut8_head {z : Str} (h : HeadLow z) : HeadLow (cutS z none (some 8)) ∧ (cutS z none (some 8)).length ≤ 8 := by
  constructor
  · obtain ⟨c, r, e, m, k⟩ := h
    exact ⟨c, r.take 7, by rw [cut8_list, e]; rfl, m, fun x hx => k x (List.mem_of_mem_take hx)⟩
  · have e := congrArg List.length (cut8_list z)
    rw [Array.length_toList, List.length_take] at e
    show (cutS z none (some 8)).cps.size ≤ 8
    omega
theorem ofc_len (c : Nat) : (⟨#[c]⟩ : Str).length = 1 := rfl
theorem n_inj : ∀ i : Fin 41, ∀ j : Fin 41, ("n" : Str) ++ strI ((i.1 : Nat) : Int) = ("n" : Str) ++ strI ((j.1 : Nat) : Int) → i = j := by decide +kernel
theorem n_len : ∀ i : Fin 41, (("n" : Str) ++ strI ((i.1 : Nat) : Int)).length ≤ 3 := by decide +kernel
theorem n_short : ∀ i : Fin 41, (("n" : Str)).length + (strI ((i.1 : Nat) : Int)).length ≤ 10 := by decide +kernel
def nS (i : Nat) : Str := "n" ++ strI ((i : Nat) : Int)
theorem n_char : ∀ i : Fin 41, ∀ x ∈ (strI ((i.1 : Nat) : Int)).cps.toList, x ∈ lowC.cps.toList ∨ x ∈ numC.cps.toList := by decide +kernel
theorem n_head (i : Nat) (h : i < 41) : HeadLow (nS i) := head_app ⟨110, [], by rfl, by decide +kernel, fun x hx => nomatch hx⟩ (n_char ⟨i, h⟩)
theorem n_nodup (n : Nat) (h : n ≤ 41) : ((List.range n).map nS).Nodup := by
  rw [List.nodup_iff_pairwise_ne, List.pairwise_map]
  refine (List.nodup_iff_pairwise_ne.mp List.nodup_range).imp_of_mem ?_
  intro a b ha hb ne e
  have ha := List.mem_range.mp ha
  have hb := List.mem_range.mp hb
  exact ne (congrArg Fin.val (n_inj ⟨a, by omega⟩ ⟨b, by omega⟩ e))
theorem spare_cons {ys zs : List Str} (nd : ys.Nodup) (h : zs.length < ys.length) : ∃ x, x ∈ ys ∧ x ∉ zs := by
  refine Classical.byContradiction fun hn => ?_
  have hs : ∀ x ∈ ys, x ∈ zs := fun x hx => Classical.byContradiction fun hz => hn ⟨x, hx, hz⟩
  have := nodup_le nd hs
  omega
theorem strict_of {zs : List Str} (nd : zs.Nodup) : (srt ltS zs).Pairwise fun a b => ltS a b = true := by
  have p := srt_pw stoS zs
  have n2 : (srt ltS zs).Nodup := (srt_perm zs).nodup_iff.mpr nd
  refine (p.and (List.nodup_iff_pairwise_ne.mp n2)).imp ?_
  rintro a b ⟨h1, h2⟩
  cases h : ltS a b with
  | true => rfl
  | false => exact absurd (ltS_eq h h1) h2
def WordP : D → Prop := fun d => ∃ z, d = .str z ∧ Name z

theorem low_at {v : Int} (h0 : 0 ≤ v) (h1 : v < 26) : ∃ c, atI lowC.cps.toList v = some c ∧ c ∈ lowC.cps.toList := by
  refine ⟨_, atI_nn 0 h0 h1, ?_⟩
  exact DL.getD_mem (zs := lowC.cps.toList) (by show v.toNat < 26; omega)
theorem any_at {v : Int} (h0 : 0 ≤ v) (h1 : v < 36) : ∃ c, atI (lowC ++ numC).cps.toList v = some c ∧ (c ∈ lowC.cps.toList ∨ c ∈ numC.cps.toList) := by
  refine ⟨_, atI_nn 0 h0 h1, ?_⟩
  have := DL.getD_mem (zs := (lowC ++ numC).cps.toList) (z := 0) (i := v.toNat) (by show v.toNat < 36; omega)
  rw [PyProof.Rows.cps_toList_append] at this ⊢
  exact List.mem_append.mp this
theorem one_char {c : Nat} (h : c ∈ lowC.cps.toList ∨ c ∈ numC.cps.toList) : Chars ⟨#[c]⟩ := fun x hx => by
  have e : x = c := by simpa using hx
  exact e ▸ h
theorem six_at {v : Int} (h0 : 0 ≤ v) (h1 : v < 6) : ∃ n : Int, atI ([.int 0, .int 0, .int 1, .int 1, .int 2, .int 7] : List D) v = some (.int n) ∧ 0 ≤ n ∧ n ≤ 7 := by
  refine ⟨([0, 0, 1, 1, 2, 7] : List Int).getD v.toNat 0, atI_ints (ns := [0, 0, 1, 1, 2, 7]) h0 h1, ?_⟩
  have : v.toNat < 6 := by omega
  generalize v.toNat = n at this
  match n, this with
  | 0, _ => decide
  | 1, _ => decide
  | 2, _ => decide
  | 3, _ => decide
  | 4, _ => decide
  | 5, _ => decide
theorem lc_nS (n : Nat) : lcD n (fun _ => true) (fun i => .str (nS i)) = ((List.range n).map nS).map PyData.str := by
  induction n with
  | zero => rfl
  | succ n ih =>
    unfold lcD
    rw [if_pos rfl, ih, List.range_succ, List.map_append, List.map_append]
    rfl
theorem ok_u_law_names (T : Txt K mg) (hd : FnP K "_law_names" s_u_law_names) (hm : mg "_law_names" = some (.ref (He.ga K "_law_names"))) (O_u_law_take : Okd P w K mg base CX0 1 "_law_take" ["state", "many"] (sp_u_law_take K)) : Okd P w K mg base CX0 2 "_law_names" ["state", "many"] (sp_u_law_names K) := by
  obtain ⟨fd, F⟩ := hd
  refine ⟨hm, fd, fn_pq F sc_u_law_names ?_ (fun cdv A outer s H E hr => ⟨_, dv_u_law_names T O_u_law_take cdv A outer s H E hr, ?_⟩), F.bindsN (fun _ _ _ _ _ _ us hl => match us, hl with | [_, _], _ => rfl), F.kp⟩
  · rintro ds ⟨x0, rfl, _⟩
    rfl
  · rintro ds ⟨m, rfl, hm⟩
    show ST K E0 (t_u_law_names K) [.fr stD, .fr (.int (m : Int)), .no, .no, .no, .no, .no, .no, .no] _
    unfold t_u_law_names
    refine q_asg (d := .str lowC) ev_str ?_
    refine q_asgN (d := .list []) (en_lst ea_nil (by decide)) ?_
    refine q_for (ei_rng1 (ea_cons (ev_var (d := .int (m : Int)) rfl) ea_nil) (by omega) (by omega)) (fun k ρ => ∃ (zs : List Str) (s4 s5 s6 s7 s8 : Sl), zs.length = k ∧ zs.Nodup ∧ (∀ z ∈ zs, Name z) ∧ ρ = [.fr stD, .fr (.int (m : Int)), .fr (.str lowC), .ow (.list (zs.map PyData.str)), s4, s5, s6, s7, s8]) ⟨[], _, _, _, _, _, rfl, List.nodup_nil, (fun z h => nomatch h), rfl⟩ ?_ ?_
    · rintro k ρ hk ⟨zs, s4, s5, s6, s7, s8, hz, nd, nm, rfl⟩
      refine ⟨_, _, gt_name, ?_⟩
      have hk' : k < m := by omega
      refine q_asgV (Pd := fun d => ∃ z, d = .str z ∧ HeadLow z ∧ z.length ≤ 1) (evx_op (Pc := fun d => ∃ v : Int, d = .int v ∧ 0 ≤ v ∧ v < 26) (evx_of (Pd := fun d => d = .str lowC) (ev_var rfl) rfl) (ev_take (n := 0) rfl ev_int (by decide) (by decide) fun v a b => ⟨v, rfl, a, b⟩) ?_) ?_
      · rintro a b rfl ⟨v, rfl, v0, v1⟩
        obtain ⟨c, e, hc⟩ := low_at v0 v1
        exact ⟨_, od_ixS (by decide) e, _, rfl, ⟨c, [], rfl, hc, fun x hx => nomatch hx⟩, by rw [ofc_len]; exact Nat.le_refl _⟩
      rintro d ⟨z, rfl, hz1, hz2⟩
      refine q_cut (fun ρ => ∃ (z : Str) (s6 : Sl), HeadLow z ∧ z.length ≤ 8 ∧ ρ = [.fr stD, .fr (.int (m : Int)), .fr (.str lowC), .ow (.list (zs.map PyData.str)), .fr (.int (k : Nat)), .fr (.str z), s6, s7, s8]) ?_ ?_
      · refine st_forV (Pi := fun n item => n ≤ 7 ∧ item = fun i => .int (i : Nat)) (eix_rng1 (Pl := fun ds => ∃ n : Int, ds = [.int n] ∧ 0 ≤ n ∧ n ≤ 7) (eax_one (Pa := fun d => ∃ n : Int, d = .int n ∧ 0 ≤ n ∧ n ≤ 7) (evx_op (Pc := fun d => ∃ v : Int, d = .int v ∧ 0 ≤ v ∧ v < 6) (evx_of (Pd := fun d => d = .list [.int 0, .int 0, .int 1, .int 1, .int 2, .int 7]) (ev_N (by walk_at "evn")) rfl) (ev_take (n := 0) rfl ev_int (by decide) (by decide) fun v a b => ⟨v, rfl, a, b⟩) ?_) ?_) ?_) ?_
        · rintro a b rfl ⟨v, rfl, v0, v1⟩
          obtain ⟨n, e, hn⟩ := six_at v0 v1
          exact ⟨_, od_ixL e, n, rfl, hn⟩
        · rintro d ⟨n, rfl, hn⟩
          exact ⟨n, rfl, hn⟩
        · rintro ds ⟨n, rfl, n0, n1⟩
          exact ⟨n, rfl, by omega, by omega, by omega, rfl⟩
        · rintro n item ⟨hn, rfl⟩
          refine ⟨fun i ρ => ∃ (z : Str) (s6 : Sl), HeadLow z ∧ z.length ≤ 1 + i ∧ ρ = [.fr stD, .fr (.int (m : Int)), .fr (.str lowC), .ow (.list (zs.map PyData.str)), .fr (.int (k : Nat)), .fr (.str z), s6, s7, s8], ⟨z, _, hz1, hz2, rfl⟩, ?_, ?_⟩
          · rintro i ρ hi ⟨z, s6, h1, h2, rfl⟩
            refine ⟨_, _, gt_name, ?_⟩
            refine st_asgV (Pd := fun d => ∃ z, d = .str z ∧ HeadLow z ∧ z.length ≤ 1 + (i + 1)) (evx_op (Pc := fun d => ∃ c, d = .str (⟨#[c]⟩ : Str) ∧ (c ∈ lowC.cps.toList ∨ c ∈ numC.cps.toList)) (evx_of (Pd := fun d => d = .str z) (ev_var rfl) rfl) (evx_op (Pc := fun d => ∃ v : Int, d = .int v ∧ 0 ≤ v ∧ v < 36) (evx_of (Pd := fun d => d = .str (lowC ++ numC)) (ev_op (ev_var (d := .str lowC) rfl) ev_str (od_addS (by decide))) rfl) (ev_take (n := 0) rfl ev_int (by decide) (by decide) fun v a b => ⟨v, rfl, a, b⟩) ?_) ?_) ?_
            · rintro a b rfl ⟨v, rfl, v0, v1⟩
              obtain ⟨c, e, hc⟩ := any_at v0 v1
              exact ⟨_, od_ixS (by rw [len_app]; decide) e, c, rfl, hc⟩
            · rintro a b rfl ⟨c, rfl, hc⟩
              exact ⟨_, od_addS (by rw [ofc_len, sizeLine_eq]; omega), _, rfl, head_app h1 (one_char hc), by rw [len_app, ofc_len]; omega⟩
            · rintro d ⟨z', rfl, h3, h4⟩
              exact ⟨z', _, h3, h4, rfl⟩
          · rintro ρ ⟨z, s6, h1, h2, rfl⟩
            exact ⟨z, s6, h1, by omega, rfl⟩
      · rintro ρ ⟨z, s6, h1, h2, rfl⟩
        refine q_cut (fun ρ => ∃ (z : Str) (s6 : Sl), HeadLow z ∧ z.length ≤ 8 ∧ ρ = [.fr stD, .fr (.int (m : Int)), .fr (.str lowC), .ow (.list (zs.map PyData.str)), .fr (.int (k : Nat)), .fr (.str z), s6, s7, s8]) ?_ ?_
        · refine st_ifV (Pb := fun b => b = true → 0 < k) (etx_and (Pb := fun b => b = decide ((k : Int) > 0)) (Pe := fun _ => True) (etx_of (et_test (ev_op (ev_var (d := .int (k : Nat)) rfl) ev_int od_cmpI)) rfl) (fun _ => etx_test (Pd := fun d => ∃ b, d = .bool b) (evx_op (Pa := AnyI) (Pc := fun d => d = .int 0) (ev_take (n := 0) rfl ev_int (by decide) (by decide) fun v _ _ => ⟨v, rfl⟩) (evx_of ev_int rfl) (by rintro a b ⟨i, rfl⟩ rfl; exact ⟨_, od_eqI, _, rfl⟩)) (by rintro d ⟨b, rfl⟩; exact ⟨b, rfl, trivial⟩)) (by intro _ z; exact nomatch z) (by
            intro b h _ _
            have := of_decide_eq_true h.symm
            omega)) (fun hb => ?_) (fun _ => st_next ⟨z, s6, h1, h2, rfl⟩)
          have hk0 := hb rfl
          have hp : (zs.getD (k - 1) Str.empty) ∈ zs := DL.getD_mem (by omega)
          have hn := nm _ hp
          have ee : EV K (tOp (rIx K) (tVar 3) (tOp rSubU (tVar 4) (tC (.int 1)))) [.fr stD, .fr (.int (m : Int)), .fr (.str lowC), .ow (.list (zs.map PyData.str)), .fr (.int (k : Nat)), .fr (.str z), s6, s7, s8] (.str (zs.getD (k - 1) Str.empty)) := by
            refine ev_ixO (n := 3) rfl (ev_op (ev_var (d := .int (k : Nat)) rfl) ev_int od_sub) ?_
            have := atI_strs (ys := zs) (i := (k : Int) - 1) (by omega) (by omega)
            rw [show ((k : Int) - 1).toNat = k - 1 by omega] at this
            exact this
          have hl := hn.2
          refine st_asg (ev_slS (hi := some 8) (lo := none) (ev_op ee (ev_var (d := .str z) rfl) (od_addS (by rw [sizeLine_eq]; omega))) (by rw [len_app, sizeLine_eq]; omega) eo_none (eo_some ev_int)) ?_
          have c8 := cut8_head (head_app (b := z) hn.1 h1.chars)
          exact ⟨_, s6, c8.1, c8.2, rfl⟩
        · rintro ρ ⟨z, s6, h1, h2, rfl⟩
          refine q_cut (fun ρ => ∃ (z : Str) (s6 s7 s8 : Sl), HeadLow z ∧ z.length ≤ 8 ∧ z ∉ zs ∧ ρ = [.fr stD, .fr (.int (m : Int)), .fr (.str lowC), .ow (.list (zs.map PyData.str)), .fr (.int (k : Nat)), .fr (.str z), s6, s7, s8]) ?_ ?_
          · refine st_if (b := decide (z ∈ zs)) (et_is (et_test (ev_inO (n := 3) (ev_var (d := .str z) rfl) rfl rfl (strs_flat zs))) inD_str) (fun hb => ?_) fun hb => st_next ⟨z, s6, s7, s8, h1, h2, of_decide_eq_false hb, rfl⟩
            refine q_asg (d := .list (((List.range (k + 1)).map nS).map PyData.str)) (ev_N (en_is (en_lc (b := fun _ => true) (f := fun i => .str (nS i)) (ei_rng1 (n := ((zs.map PyData.str).length : Int) + 1) (ea_cons (ev_op (ev_lenO (n := 3) rfl) ev_int od_addI) ea_nil) (by rw [List.length_map]; omega) (by rw [List.length_map]; omega)) (by rw [List.length_map]; omega) fun i hi => ⟨_, _, gt_name, by simp, et_yes, fun _ => ?_⟩) ?_)) ?_
            · rw [List.length_map] at hi
              have hi' : i < 41 := by omega
              refine ev_op (d := .str (nS i)) ev_str (ev_cb (d := .str (strI ((i : Nat) : Int))) (ea_cons (ev_var (d := .int (i : Nat)) rfl) ea_nil) (cd_strI ?_)) (od_addS ?_)
              · have : (i : Int).natAbs = i := by omega
                rw [this]
                exact Nat.lt_of_le_of_lt (Nat.log2_le_self i) (by omega)
              · have := n_short ⟨i, hi'⟩
                rw [sizeLine_eq]
                dsimp only at this
                omega
            · rw [List.length_map, hz, show ((k : Int) + 1).toNat = k + 1 by omega, lc_nS]
            refine q_asg (d := .list ((((List.range (k + 1)).map nS).filter fun x => !decide (x ∈ zs)).map PyData.str)) (ev_N (en_is (en_lc (b := fun i => !decide (((List.range (k + 1)).map nS).getD i Str.empty ∈ zs)) (f := fun i => .str (((List.range (k + 1)).map nS).getD i Str.empty)) (ei_listS (zs := (List.range (k + 1)).map nS) (ev_var rfl)) (by rw [List.length_map, List.length_range]; omega) fun i hi => ⟨_, _, gt_name, by simp, et_is (et_test (ev_ninO (n := 3) (ev_var (d := .str (((List.range (k + 1)).map nS).getD i Str.empty)) rfl) rfl rfl (strs_flat zs))) (by rw [inD_str]), fun _ => ev_var rfl⟩) (congrArg PyData.list (lc_filterA (p := fun x => !decide (x ∈ zs)) (h := fun x => PyData.str x) Str.empty ((List.range (k + 1)).map nS))))) ?_
            obtain ⟨x, x1, x2⟩ := spare_cons (n_nodup (k + 1) (by omega)) (show zs.length < ((List.range (k + 1)).map nS).length by rw [List.length_map, List.length_range]; omega)
            have hx : x ∈ ((List.range (k + 1)).map nS).filter fun x => !decide (x ∈ zs) := List.mem_filter.mpr ⟨x1, by rw [decide_eq_false x2]; rfl⟩
            generalize hq : (((List.range (k + 1)).map nS).filter fun x => !decide (x ∈ zs)) = qs at hx
            cases qs with
            | nil => exact nomatch hx
            | cons y ys =>
              have hy : y ∈ ((List.range (k + 1)).map nS).filter fun x => !decide (x ∈ zs) := by rw [hq]; exact List.mem_cons_self
              obtain ⟨y1, y2⟩ := List.mem_filter.mp hy
              obtain ⟨i, i1, rfl⟩ := List.mem_map.mp y1
              have i1 := List.mem_range.mp i1
              refine st_asg (ev_op (ev_var (d := .list ((nS i :: ys).map PyData.str)) rfl) ev_int (od_ixL (d := .str (nS i)) (atI_nat (j := 0) (by rfl)))) ⟨nS i, _, _, _, n_head i (by omega), ?_, ?_, rfl⟩
              · have := n_len ⟨i, by omega⟩
                exact Nat.le_trans this (by decide)
              · intro hh
                rw [decide_eq_true hh] at y2
                exact nomatch y2
          · rintro ρ ⟨z, s6, s7, s8, h1, h2, h3, rfl⟩
            refine st_append (n := 3) rfl (ev_var (d := .str z) rfl) (by rw [List.length_map]; omega) ⟨zs ++ [z], _, _, _, _, _, ?_, ?_, ?_, by rw [List.map_append]; rfl⟩
            · rw [List.length_append, hz]; rfl
            · refine List.nodup_append.mpr ⟨nd, by simp, ?_⟩
              rintro a ha b hb rfl
              exact h3 (List.mem_singleton.mp hb ▸ ha)
            · intro y hy
              rcases List.mem_append.mp hy with a | a
              · exact nm y a
              · obtain rfl := List.mem_singleton.mp a
                exact ⟨h1, h2⟩
    · rintro ρ ⟨zs, s4, s5, s6, s7, s8, hz, nd, nm, rfl⟩
      refine q_frz (i := 3) rfl ?_
      have hz : zs.length = m := by omega
      exact st_ret (ev_N (en_cb (ea_cons (ev_var (d := .list (zs.map PyData.str)) rfl) ea_nil) (cn_sortS (by omega)))) ⟨_, rfl, m, srt ltS zs, rfl, rfl, by rw [srt_len, hz], strict_of nd, fun z h => nm z (mem_srt.mp h)⟩

theorem ev_l2 {ρ : List Sl} {n : Nat} {a b : Int} (h : ρ[n]? = some (.fr (.list [.int a, .int b]))) : EV K (tOp (rIx K) (tVar n) (tC (.int 0))) ρ (.int a) ∧ EV K (tOp (rIx K) (tVar n) (tC (.int 1))) ρ (.int b) :=
  ⟨ev_op (ev_var h) ev_int (od_ixL (atI_nat (j := 0) (by rfl))), ev_op (ev_var h) ev_int (od_ixL (atI_nat (j := 1) (by rfl)))⟩
theorem ev_b4 {ρ : List Sl} {t1 t2 t3 t4 : TE} {a b c d : Int} (h1 : EV K t1 ρ (.int a)) (h2 : EV K t2 ρ (.int b)) (h3 : EV K t3 ρ (.int c)) (h4 : EV K t4 ρ (.int d)) : EV K (tTup (tCons t1 (tCons t2 (tCons t3 (tCons t4 tNil))))) ρ (bxD ⟨a, b, c, d⟩) :=
  ev_tup (ea_cons h1 (ea_cons h2 (ea_cons h3 (ea_cons h4 ea_nil)))) (by show 4 ≤ sizeLine; exact s4)
/-- one drawn cut within a .. b -/
def CutP (a b : Int) : D → Prop := fun d => ∃ x : Int, d = .int x ∧ a < x ∧ x ≤ b ∧ (x < b ∨ x = a + 1)
theorem evx_cut {ρ : List Sl} {i j n : Nat} {a b : Int} (hs : ρ[n]? = some (.fr stD)) (hi : ρ[i]? = some (.fr (.int a))) (hj : ρ[j]? = some (.fr (.int b))) (h : a < b) (h1 : b - a ≤ 1000000) :
    EVX K (tOp (rAddU K) (tOp (rAddU K) (tVar i) (tC (.int 1))) (tCall (sp_u_law_take K) [] E0 (tCons (tVar n) (tCons (tCB rMax2 (tCons (tC (.int 1)) (tCons (tOp rSubU (tOp rSubU (tVar j) (tVar i)) (tC (.int 1))) tNil))) tNil)))) ρ (CutP a b) := by
  refine evx_op (Pc := fun d => ∃ v : Int, d = .int v ∧ 0 ≤ v ∧ v < max 1 (b - a - 1)) (evx_of (Pd := fun d => d = .int (a + 1)) (ev_op (ev_var hi) ev_int od_addI) rfl) (ev_take hs (ev_cb (ea_cons ev_int (ea_cons (ev_op (ev_op (ev_var hj) (ev_var hi) od_sub) ev_int od_sub) ea_nil)) cd_max) (by omega) (by omega) fun v h0 h1 => ⟨v, rfl, h0, h1⟩) ?_
  rintro x y rfl ⟨v, rfl, v0, v1⟩
  exact ⟨_, od_addI, _, rfl, by omega, by omega, by omega⟩
def Two (a b : Int) : D → Prop := fun d => ∃ x y : Int, d = .list [.int x, .int y] ∧ a < x ∧ x ≤ y ∧ y ≤ b
theorem two_perm {ms : List Int} {x y : Int} (p : ms.Perm [x, y]) (h : ms.Pairwise (· ≤ ·)) : ∃ u v, ms = [u, v] ∧ u ≤ v ∧ (u = x ∨ u = y) ∧ (v = x ∨ v = y) := by
  have hl := p.length_eq
  match ms, hl with
  | [u, v], _ =>
    refine ⟨u, v, rfl, List.rel_of_pairwise_cons h (List.mem_singleton.mpr rfl), ?_, ?_⟩
    · simpa using p.mem_iff.mp (show u ∈ [u, v] from List.mem_cons_self)
    · simpa using p.mem_iff.mp (show v ∈ [u, v] from List.mem_cons_of_mem _ List.mem_cons_self)
theorem evx_two {ρ : List Sl} {t1 t2 : TE} {a b : Int} (h1 : EVX K t1 ρ (CutP a b)) (h2 : EVX K t2 ρ (CutP a b)) : EVX K (tCB (rSorted K) (tCons (tLst (tCons t1 (tCons t2 tNil))) tNil)) ρ (Two a b) := by
  refine evx_N (evnx_sortI (Pl := fun ds => ∃ x y : Int, ds = [.list [.int x, .int y]] ∧ a < x ∧ x ≤ b ∧ a < y ∧ y ≤ b) (eax_one (Pa := fun d => ∃ x y : Int, d = .list [.int x, .int y] ∧ a < x ∧ x ≤ b ∧ a < y ∧ y ≤ b) (evx_N (evnx_lst (Pl := fun ds => ∃ x y : Int, ds = [.int x, .int y] ∧ a < x ∧ x ≤ b ∧ a < y ∧ y ≤ b) (eax_cons (Pl := fun ds => ∃ y : Int, ds = [.int y] ∧ a < y ∧ y ≤ b) h1 (eax_one h2 ?_) ?_) ?_)) ?_) ?_)
  · rintro d ⟨y, rfl, y1, y2, _⟩
    exact ⟨y, rfl, y1, y2⟩
  · rintro d ds ⟨x, rfl, x1, x2, _⟩ ⟨y, rfl, y1, y2⟩
    exact ⟨x, y, rfl, x1, x2, y1, y2⟩
  · rintro ds ⟨x, y, rfl, h⟩
    exact ⟨by show 2 ≤ sizeLine; exact s2, x, y, rfl, h⟩
  · rintro d ⟨x, y, rfl, h⟩
    exact ⟨x, y, rfl, h⟩
  · rintro ds ⟨x, y, rfl, h1, h2, h3, h4⟩
    refine ⟨[x, y], rfl, by show 2 < 64; decide, ?_⟩
    intro ms p hs
    obtain ⟨u, v, rfl, huv, hu, hv⟩ := two_perm p hs
    refine ⟨u, v, rfl, ?_, huv, ?_⟩
    · rcases hu with rfl | rfl <;> omega
    · rcases hv with rfl | rfl <;> omega
theorem areas_cons (b : Bx) (bs : List Bx) : areas (b :: bs) = area b + areas bs := by
  unfold areas
  rw [List.map_cons, List.sum_cons]
theorem areas_nil : areas [] = 0 := rfl
theorem five_sum {w s e n x0 x1 y0 y1 : Int} : area ⟨x0, y0, x1, y1⟩ + (area ⟨w, y1, x1, n⟩ + (area ⟨x1, y0, e, n⟩ + (area ⟨x0, s, e, y0⟩ + (area ⟨w, s, x0, y1⟩ + 0)))) = area ⟨w, s, e, n⟩ := by
  unfold area
  dsimp only
  grind
theorem five_sum2 {w s e n x0 x1 y0 y1 : Int} : area ⟨x0, y0, x1, y1⟩ + (area ⟨x0, y1, e, n⟩ + (area ⟨w, y0, x0, n⟩ + (area ⟨w, s, x1, y0⟩ + (area ⟨x1, s, e, y1⟩ + 0)))) = area ⟨w, s, e, n⟩ := by
  unfold area
  dsimp only
  grind
theorem five_ok {b : Bx} {x0 x1 y0 y1 : Int} (a1 : b.w < x0) (a2 : x0 < x1) (a3 : x1 < b.e) (b1 : b.s < y0) (b2 : y0 < y1) (b3 : y1 < b.n) :
    Gives b ⟨x0, y0, x1, y1⟩ [⟨b.w, y1, x1, b.n⟩, ⟨x1, y0, b.e, b.n⟩, ⟨x0, b.s, b.e, y0⟩, ⟨b.w, b.s, x0, y1⟩] [x0, x1] [y0, y1] := by
  constructor
  · simp only [List.pairwise_cons, List.mem_cons, List.not_mem_nil, or_false, forall_eq_or_imp, forall_eq, List.Pairwise.nil, Dis, acr, alo, and_true, false_imp_iff, implies_true]
    omega
  · simp only [List.mem_cons, List.not_mem_nil, or_false, forall_eq_or_imp, forall_eq, Pos, SubB]
    omega
  · rw [areas_cons, areas_cons, areas_cons, areas_cons, areas_cons, areas_nil]
    exact five_sum
  · simp only [List.mem_cons, List.not_mem_nil, or_false, forall_eq_or_imp, forall_eq, Dia]
    omega
  · simp only [List.mem_cons, List.not_mem_nil, or_false, forall_eq_or_imp, forall_eq]
    omega
  · simp only [List.mem_cons, List.not_mem_nil, or_false, forall_eq_or_imp, forall_eq]
    omega
  · simp
  · simp
theorem five_ok2 {b : Bx} {x0 x1 y0 y1 : Int} (a1 : b.w < x0) (a2 : x0 < x1) (a3 : x1 < b.e) (b1 : b.s < y0) (b2 : y0 < y1) (b3 : y1 < b.n) :
    Gives b ⟨x0, y0, x1, y1⟩ [⟨x0, y1, b.e, b.n⟩, ⟨b.w, y0, x0, b.n⟩, ⟨b.w, b.s, x1, y0⟩, ⟨x1, b.s, b.e, y1⟩] [x0, x1] [y0, y1] := by
  constructor
  · simp only [List.pairwise_cons, List.mem_cons, List.not_mem_nil, or_false, forall_eq_or_imp, forall_eq, List.Pairwise.nil, Dis, acr, alo, and_true, false_imp_iff, implies_true]
    omega
  · simp only [List.mem_cons, List.not_mem_nil, or_false, forall_eq_or_imp, forall_eq, Pos, SubB]
    omega
  · rw [areas_cons, areas_cons, areas_cons, areas_cons, areas_cons, areas_nil]
    exact five_sum2
  · simp only [List.mem_cons, List.not_mem_nil, or_false, forall_eq_or_imp, forall_eq, Dia]
    omega
  · simp only [List.mem_cons, List.not_mem_nil, or_false, forall_eq_or_imp, forall_eq]
    omega
  · simp only [List.mem_cons, List.not_mem_nil, or_false, forall_eq_or_imp, forall_eq]
    omega
  · simp
  · simp
theorem one_ok {b : Bx} (h : Pos b) : Gives b b [] [] [] := by
  have m : ∀ c, c ∈ b :: ([] : List Bx) → c = b := fun c hc => List.mem_singleton.mp hc
  refine ⟨List.pairwise_singleton _ _, ?_, ?_, ?_, (fun x hx => nomatch hx), (fun x hx => nomatch hx), ?_, ?_⟩
  · intro c hc
    obtain rfl := m c hc
    exact ⟨h, by unfold SubB; omega⟩
  · rw [areas_cons, areas_nil]; omega
  · intro c hc d hd
    obtain rfl := m c hc
    obtain rfl := m d hd
    unfold Pos at h
    unfold Dia
    omega
  · intro c hc
    obtain rfl := m c hc
    exact ⟨.inl rfl, .inl rfl⟩
  · intro c hc
    obtain rfl := m c hc
    exact ⟨.inl rfl, .inl rfl⟩
theorem box_inj {b c : Bx} (h : bxD b = bxD c) : b = c := by
  unfold bxD at h
  injection h with e
  cases c
  cases b
  injection e with e1 e
  injection e with e2 e
  injection e with e3 e
  injection e with e4 e
  injection e1 with e1
  injection e2 with e2
  injection e3 with e3
  injection e4 with e4
  dsimp only at e1 e2 e3 e4
  subst e1 e2 e3 e4
  rfl
def MillP (b : Bx) (ns ms : List Int) (d : D) (ns' ms' : List Int) : Prop := ∃ (b' p : Bx) (ps : List Bx) (xs ys : List Int), [stD, bxD b] = [stD, bxD b'] ∧ d = .list ((p :: ps).map bxD) ∧ ps.length ≤ 4 ∧ ns' = ns ++ xs ∧ ms' = ms ++ ys ∧ xs.length ≤ 2 ∧ ys.length ≤ 2 ∧ (∀ x ∈ xs, x ∉ ns) ∧ (∀ y ∈ ys, y ∉ ms) ∧ Gives b' p ps xs ys
theorem MillP.one {b : Bx} (h : Pos b) (ns ms : List Int) : MillP b ns ms (.list [bxD b]) ns ms := ⟨b, b, [], [], [], rfl, rfl, Nat.zero_le _, (List.append_nil _).symm, (List.append_nil _).symm, Nat.zero_le _, Nat.zero_le _, (fun x hx => nomatch hx), (fun x hx => nomatch hx), one_ok h⟩
theorem ok_u_law_mill (T : Txt K mg) (hd : FnP K "_law_mill" s_u_law_mill) (hm : mg "_law_mill" = some (.ref (He.ga K "_law_mill"))) (O_u_law_take : Okd P w K mg base CX0 1 "_law_take" ["state", "many"] (sp_u_law_take K)) : Okd P w K mg base CX0 2 "_law_mill" ["state", "box", "across", "up"] (sp_u_law_mill K) := by
  obtain ⟨fd, F⟩ := hd
  refine ⟨hm, fd, fn_pm F sc_u_law_mill ?_ (fun cdv A outer s H E hr => ⟨_, dv_u_law_mill T O_u_law_take cdv A outer s H E hr, ?_⟩), F.bindsN (fun _ _ _ _ _ _ us hl => match us, hl with | [_, _, _, _], _ => rfl), F.kp⟩
  · rintro ds ns ms ⟨x0, rfl, _⟩
    rfl
  · rintro ds ns ms ⟨b, rfl, hp, hs, hn, hm⟩ l m
    have one := MillP.one hp ns ms
    have ans : ∀ ρ : List Sl, ρ[1]? = some (.fr (bxD b)) → ∀ R : Oc → Prop, R (.rt (.list [bxD b])) → ST K E0 (tRet (tLst (tCons (tVar 1) tNil))) ρ R := by
      intro ρ h1 R hR
      exact st_ret (ev_N (en_lst (ds := [bxD b]) (ea_cons (ev_var h1) ea_nil) (by show 1 ≤ sizeLine; rw [sizeLine_eq]; omega))) hR
    show STM K (t_u_law_mill K) [.fr stD, .fr (bxD b), .fr (rwD l), .fr (rwD m), .no, .no, .no, .no, .no, .no, .no] l m ns ms (MillP b ns ms)
    unfold t_u_law_mill
    obtain ⟨hp1, hp2⟩ := hp
    obtain ⟨hs1, hs2, hs3, hs4⟩ := hs
    refine stm_seq (Ex := E0) (st_asgG (ev_var (d := bxD b) rfl) gt_bx (.inl ⟨_, rfl, ?_⟩))
    refine stm_seq (Ex := E0) (st_asgV (evx_two (a := b.w) (b := b.e) (evx_cut (n := 0) rfl rfl rfl hp1 (by omega)) (evx_cut (n := 0) rfl rfl rfl hp1 (by omega))) ?_)
    rintro d ⟨x0, x1, rfl, a1, a2, a3⟩
    refine .inl ⟨_, rfl, ?_⟩
    refine stm_seq (Ex := E0) (st_asgV (evx_two (a := b.s) (b := b.n) (evx_cut (n := 0) rfl rfl rfl hp2 (by omega)) (evx_cut (n := 0) rfl rfl rfl hp2 (by omega))) ?_)
    rintro d ⟨y0, y1, rfl, b1, b2, b3⟩
    refine .inl ⟨_, rfl, ?_⟩
    refine stm_seq (Ex := E0) (st_if (b := decide (x0 = x1) || (decide (y0 = y1) || (decide (b.e ≤ x1) || decide (b.n ≤ y1)))) (et_or (et_test (ev_op (ev_l2 (n := 8) rfl).1 (ev_l2 (n := 8) rfl).2 od_eqI)) fun _ => et_or (et_test (ev_op (ev_l2 (n := 9) rfl).1 (ev_l2 (n := 9) rfl).2 od_eqI)) fun _ => et_or (et_test (ev_op (ev_l2 (n := 8) rfl).2 (ev_var (d := .int b.e) rfl) od_cmpI)) fun _ => et_test (ev_op (ev_l2 (n := 9) rfl).2 (ev_var (d := .int b.n) rfl) od_cmpI)) (fun _ => ans _ rfl _ (.inr ⟨_, rfl, one⟩)) fun hb => st_next (.inl ⟨_, rfl, ?_⟩))
    simp only [Bool.or_eq_false_iff, decide_eq_false_iff_not] at hb
    obtain ⟨c1, c2, c3, c4⟩ := hb
    refine stm_when (etm_or (etm_in (ev_l2 (n := 8) rfl).1 rfl) (etm_or (etm_in (ev_l2 (n := 8) rfl).2 rfl) (etm_or (etm_inB (ev_l2 (n := 9) rfl).1 rfl) (etm_inB (ev_l2 (n := 9) rfl).2 rfl)))) (fun _ => stm_st (Ex := E0) (ans _ rfl _ ⟨_, rfl, one⟩)) fun hb => ?_
    simp only [Bool.or_eq_false_iff, decide_eq_false_iff_not] at hb
    obtain ⟨e1, e2, e3, e4⟩ := hb
    refine stm_app (ev_l2 (n := 8) rfl).1 rfl (by omega) ?_
    refine stm_app (ev_l2 (n := 8) rfl).2 rfl (by rw [List.length_append, List.length_singleton]; omega) ?_
    refine stm_appB (ev_l2 (n := 9) rfl).1 rfl (by omega) ?_
    refine stm_appB (ev_l2 (n := 9) rfl).2 rfl (by rw [List.length_append, List.length_singleton]; omega) ?_
    rw [List.append_assoc, List.append_assoc]
    refine stm_st (Ex := E0) ?_
    refine q_asg (ev_b4 (ev_l2 (n := 8) rfl).1 (ev_l2 (n := 9) rfl).1 (ev_l2 (n := 8) rfl).2 (ev_l2 (n := 9) rfl).2) ?_
    have nx : ∀ x ∈ [x0, x1], x ∉ ns := by
      intro x hx
      simp only [List.mem_cons, List.not_mem_nil, or_false] at hx
      rcases hx with rfl | rfl
      · exact e1
      · exact e2
    have ny : ∀ x ∈ [y0, y1], x ∉ ms := by
      intro x hx
      simp only [List.mem_cons, List.not_mem_nil, or_false] at hx
      rcases hx with rfl | rfl
      · exact e3
      · exact e4
    refine q_whenV (Pb := fun _ => True) (etx_test (Pd := fun d => ∃ b, d = .bool b) (evx_op (Pa := AnyI) (Pc := fun d => d = .int 0) (ev_take (n := 0) rfl ev_int (by decide) (by decide) fun v _ _ => ⟨v, rfl⟩) (evx_of ev_int rfl) (by rintro a b ⟨i, rfl⟩ rfl; exact ⟨_, od_eqI, _, rfl⟩)) (by rintro d ⟨b, rfl⟩; exact ⟨b, rfl, trivial⟩)) (fun _ => ?_) fun _ => ?_
    · refine st_ret (ev_N (en_lst (ea_cons (ev_var (d := bxD ⟨x0, y0, x1, y1⟩) rfl) (ea_cons (ev_b4 (ev_var (d := .int b.w) rfl) (ev_l2 (n := 9) rfl).2 (ev_l2 (n := 8) rfl).2 (ev_var (d := .int b.n) rfl)) (ea_cons (ev_b4 (ev_l2 (n := 8) rfl).2 (ev_l2 (n := 9) rfl).1 (ev_var (d := .int b.e) rfl) (ev_var (d := .int b.n) rfl)) (ea_cons (ev_b4 (ev_l2 (n := 8) rfl).1 (ev_var (d := .int b.s) rfl) (ev_var (d := .int b.e) rfl) (ev_l2 (n := 9) rfl).1) (ea_cons (ev_b4 (ev_var (d := .int b.w) rfl) (ev_var (d := .int b.s) rfl) (ev_l2 (n := 8) rfl).1 (ev_l2 (n := 9) rfl).2) ea_nil))))) (by show 5 ≤ sizeLine; rw [sizeLine_eq]; omega))) ⟨_, rfl, b, _, _, [x0, x1], [y0, y1], rfl, rfl, (by exact Nat.le_refl 4), rfl, rfl, Nat.le_refl 2, Nat.le_refl 2, nx, ny, five_ok a1 (by omega) (by omega) b1 (by omega) (by omega)⟩
    · refine st_ret (ev_N (en_lst (ea_cons (ev_var (d := bxD ⟨x0, y0, x1, y1⟩) rfl) (ea_cons (ev_b4 (ev_l2 (n := 8) rfl).1 (ev_l2 (n := 9) rfl).2 (ev_var (d := .int b.e) rfl) (ev_var (d := .int b.n) rfl)) (ea_cons (ev_b4 (ev_var (d := .int b.w) rfl) (ev_l2 (n := 9) rfl).1 (ev_l2 (n := 8) rfl).1 (ev_var (d := .int b.n) rfl)) (ea_cons (ev_b4 (ev_var (d := .int b.w) rfl) (ev_var (d := .int b.s) rfl) (ev_l2 (n := 8) rfl).2 (ev_l2 (n := 9) rfl).1) (ea_cons (ev_b4 (ev_l2 (n := 8) rfl).2 (ev_var (d := .int b.s) rfl) (ev_var (d := .int b.e) rfl) (ev_l2 (n := 9) rfl).2) ea_nil))))) (by show 5 ≤ sizeLine; rw [sizeLine_eq]; omega))) ⟨_, rfl, b, _, _, [x0, x1], [y0, y1], rfl, rfl, (by exact Nat.le_refl 4), rfl, rfl, Nat.le_refl 2, Nat.le_refl 2, nx, ny, five_ok2 a1 (by omega) (by omega) b1 (by omega) (by omega)⟩

theorem Dis.symm {a b : Bx} (h : Dis a b) : Dis b a := by
  unfold Dis acr alo at *
  omega
theorem Dis.sub {a b c : Bx} (h : Dis a b) (s : SubB c a) : Dis c b := by
  unfold Dis acr alo at *
  unfold SubB at s
  omega
theorem set_perm (p : Bx) : ∀ (bs : List Bx) (i : Nat), i < bs.length → (bs.set i p).Perm (p :: bs.eraseIdx i)
  | b :: bs, 0, _ => .refl _
  | b :: bs, i + 1, h => by
    rw [List.set_cons_succ, List.eraseIdx_cons_succ]
    exact ((set_perm p bs i (by simpa using h)).cons b).trans (.swap p b _)
theorem perm_at (bs : List Bx) (i : Nat) (h : i < bs.length) : bs.Perm (bA bs i :: bs.eraseIdx i) := by
  have := set_perm (bA bs i) bs i h
  have e : bs.set i (bA bs i) = bs := by
    unfold bA
    rw [List.getD_eq_getElem?_getD, List.getElem?_eq_getElem h]
    exact List.set_getElem_self h
  rwa [e] at this
theorem areas_perm {bs cs : List Bx} (h : bs.Perm cs) : areas bs = areas cs := by
  unfold areas
  induction h with
  | nil => rfl
  | cons x _ ih => rw [List.map_cons, List.map_cons, List.sum_cons, List.sum_cons, ih]
  | swap x y l => rw [List.map_cons, List.map_cons, List.map_cons, List.map_cons, List.sum_cons, List.sum_cons, List.sum_cons, List.sum_cons]; omega
  | trans _ _ h1 h2 => exact h1.trans h2
theorem areas_app (bs cs : List Bx) : areas (bs ++ cs) = areas bs + areas cs := by
  unfold areas
  rw [List.map_append, List.sum_append]
/-- where the edges stand -/
def Edg (w h : Int) (ns ms : List Int) (b : Bx) : Prop := ((b.w = 0 ∨ b.w ∈ ns) ∧ (b.e = w ∨ b.e ∈ ns)) ∧ ((b.s = 0 ∨ b.s ∈ ms) ∧ (b.n = h ∨ b.n ∈ ms))
theorem Cut.split {m k : Nat} {w h : Int} {st : Bool} {bs : List Bx} {p : Bx} {ps : List Bx} {xs ys ns ms : List Int} (C : Cut m w h st bs) (Eg : ∀ b ∈ bs, Edg w h ns ms b) (hi : k < bs.length) (Gv : Gives (bA bs k) p ps xs ys) (hl : bs.length + ps.length ≤ m) (fx : st = true → ∀ x ∈ xs, x ∉ ns) (fy : st = true → ∀ y ∈ ys, y ∉ ms) :
    Cut m w h st (bs.set k p ++ ps) ∧ ∀ b ∈ bs.set k p ++ ps, Edg w h (ns ++ xs) (ms ++ ys) b := by
  have h1 := perm_at bs k hi
  have h2 : (bs.set k p ++ ps).Perm ((p :: ps) ++ bs.eraseIdx k) := ((set_perm p bs k hi).append_right ps).trans ((List.perm_append_comm (l₁ := bs.eraseIdx k) (l₂ := ps)).cons p)
  have hd0 := (h1.pairwise_iff (fun {a b} (h : Dis a b) => h.symm)).mp C.dis
  obtain ⟨d1, d2⟩ := List.pairwise_cons.mp hd0
  have hmem : bA bs k ∈ bs := DL.getD_mem hi
  have hold : ∀ b ∈ bs.eraseIdx k, b ∈ bs := fun b hb => h1.mem_iff.mpr (List.mem_cons_of_mem _ hb)
  obtain ⟨cp, cw, ce, cs, cn⟩ := C.ok _ hmem
  have cE := Eg _ hmem
  generalize hc : bA bs k = c at *
  refine ⟨⟨?_, ?_, ?_, ?_, ?_, ?_⟩, ?_⟩
  · rw [List.length_append, List.length_set]
    have := C.lo
    omega
  · rw [List.length_append, List.length_set]
    exact hl
  · intro b hb
    rcases List.mem_append.mp (h2.mem_iff.mp hb) with a | a
    · obtain ⟨a1, a2⟩ := Gv.sub b a
      refine ⟨a1, ?_⟩
      unfold SubB at a2
      omega
    · exact C.ok b (hold b a)
  · refine (h2.pairwise_iff (fun {a b} (h : Dis a b) => h.symm)).mpr (List.pairwise_append.mpr ⟨Gv.dis, d2, ?_⟩)
    intro a ha b hb
    exact (d1 b hb).sub (Gv.sub a ha).2
  · have s1 := areas_perm h1
    rw [areas_cons, C.sum] at s1
    rw [areas_perm h2, areas_app, Gv.sum]
    omega
  · intro hs a ha b hb
    have fx := fx hs
    have fy := fy hs
    have ca := C.dia hs
    unfold Pos at cp
    rcases List.mem_append.mp (h2.mem_iff.mp ha) with ma | ma
    · rcases List.mem_append.mp (h2.mem_iff.mp hb) with mb | mb
      · exact Gv.dia a ma b mb
      · rintro ⟨e1, e2⟩
        have be := Eg b (hold b mb)
        obtain ⟨ap, as⟩ := Gv.sub a ma
        unfold Pos at ap
        unfold SubB at as
        unfold Edg at be
        have w1 : a.e = c.e := by
          rcases (Gv.ew a ma).2 with q | q
          · exact q
          · rcases be.1.1 with z | z
            · omega
            · exact absurd (e1 ▸ z) (fx _ q)
        have w2 : a.n = c.n := by
          rcases (Gv.es a ma).2 with q | q
          · exact q
          · rcases be.2.1 with z | z
            · omega
            · exact absurd (e2 ▸ z) (fy _ q)
        exact ca c hmem b (hold b mb) ⟨by omega, by omega⟩
    · rcases List.mem_append.mp (h2.mem_iff.mp hb) with mb | mb
      · rintro ⟨e1, e2⟩
        have ae := Eg a (hold a ma)
        obtain ⟨bp, bsub⟩ := Gv.sub b mb
        unfold Pos at bp
        unfold SubB at bsub
        unfold Edg at ae
        have w1 : b.w = c.w := by
          rcases (Gv.ew b mb).1 with q | q
          · exact q
          · rcases ae.1.2 with z | z
            · omega
            · exact absurd (e1.symm ▸ z) (fx _ q)
        have w2 : b.s = c.s := by
          rcases (Gv.es b mb).1 with q | q
          · exact q
          · rcases ae.2.2 with z | z
            · omega
            · exact absurd (e2.symm ▸ z) (fy _ q)
        exact ca a (hold a ma) c hmem ⟨by omega, by omega⟩
      · exact ca a (hold a ma) b (hold b mb)
  · intro b hb
    rcases List.mem_append.mp (h2.mem_iff.mp hb) with mb | mb
    · obtain ⟨⟨p1, p2⟩, p3, p4⟩ := cE
      obtain ⟨q1, q2⟩ := Gv.ew b mb
      obtain ⟨q3, q4⟩ := Gv.es b mb
      refine ⟨⟨?_, ?_⟩, ?_, ?_⟩
      · rcases q1 with q | q
        · rw [q]; exact p1.imp id fun z => List.mem_append_left _ z
        · exact .inr (List.mem_append_right _ q)
      · rcases q2 with q | q
        · rw [q]; exact p2.imp id fun z => List.mem_append_left _ z
        · exact .inr (List.mem_append_right _ q)
      · rcases q3 with q | q
        · rw [q]; exact p3.imp id fun z => List.mem_append_left _ z
        · exact .inr (List.mem_append_right _ q)
      · rcases q4 with q | q
        · rw [q]; exact p4.imp id fun z => List.mem_append_left _ z
        · exact .inr (List.mem_append_right _ q)
    · obtain ⟨⟨p1, p2⟩, p3, p4⟩ := Eg b (hold b mb)
      exact ⟨⟨p1.imp id fun z => List.mem_append_left _ z, p2.imp id fun z => List.mem_append_left _ z⟩, p3.imp id fun z => List.mem_append_left _ z, p4.imp id fun z => List.mem_append_left _ z⟩
theorem ixN_natL {n k : Nat} (h : k < n) : ixN n (k : Int) = some k := (ixN_nn (by omega) (by omega)).trans (congrArg some (Int.toNat_natCast k))
theorem cut_w {c : Bx} {x : Int} (hp : Pos c) (h1 : c.w < x) (h2 : x < c.e) : Gives c ⟨c.w, c.s, x, c.n⟩ [⟨x, c.s, c.e, c.n⟩] [x] [] := by
  unfold Pos at hp
  constructor
  · simp only [List.pairwise_cons, List.mem_cons, List.not_mem_nil, or_false, forall_eq_or_imp, forall_eq, List.Pairwise.nil, Dis, acr, alo, and_true, false_imp_iff, implies_true]
    omega
  · simp only [List.mem_cons, List.not_mem_nil, or_false, forall_eq_or_imp, forall_eq, Pos, SubB]
    omega
  · rw [areas_cons, areas_cons, areas_nil]
    unfold area
    dsimp only
    grind
  · simp only [List.mem_cons, List.not_mem_nil, or_false, forall_eq_or_imp, forall_eq, Dia]
    omega
  · simp only [List.mem_cons, List.not_mem_nil, or_false, forall_eq_or_imp, forall_eq]
    omega
  · simp
  · simp
  · simp
theorem cut_s {c : Bx} {x : Int} (hp : Pos c) (h1 : c.s < x) (h2 : x < c.n) : Gives c ⟨c.w, c.s, c.e, x⟩ [⟨c.w, x, c.e, c.n⟩] [] [x] := by
  unfold Pos at hp
  constructor
  · simp only [List.pairwise_cons, List.mem_cons, List.not_mem_nil, or_false, forall_eq_or_imp, forall_eq, List.Pairwise.nil, Dis, acr, alo, and_true, false_imp_iff, implies_true]
    omega
  · simp only [List.mem_cons, List.not_mem_nil, or_false, forall_eq_or_imp, forall_eq, Pos, SubB]
    omega
  · rw [areas_cons, areas_cons, areas_nil]
    unfold area
    dsimp only
    grind
  · simp only [List.mem_cons, List.not_mem_nil, or_false, forall_eq_or_imp, forall_eq, Dia]
    omega
  · simp
  · simp only [List.mem_cons, List.not_mem_nil, or_false, forall_eq_or_imp, forall_eq]
    omega
  · simp
  · simp
theorem inD_int {x : Int} {ns : List Int} : inD (.int x) (ns.map PyData.int) = decide (x ∈ ns) := by
  unfold inD
  rw [List.any_map, Bool.eq_iff_iff, List.any_eq_true, decide_eq_true_eq]
  constructor
  · rintro ⟨y, hy, e⟩
    have e : PyData.eqv (.int y) (.int x) = true := e
    have : y = x := by simpa [PyData.eqv] using e
    exact this ▸ hy
  · intro h
    exact ⟨x, h, by show PyData.eqv (.int x) (.int x) = true; simp [PyData.eqv]⟩
theorem ints_flat (ns : List Int) : (ns.map PyData.int).all flatD = true := by
  rw [List.all_map]
  exact List.all_eq_true.mpr fun _ _ => rfl

def CutI (m : Nat) (w h : Int) (st : Bool) (i : Nat) (ρ : List Sl) : Prop := ∃ (bs : List Bx) (ns ms : List Int) (s8 s9 s10 s11 s12 s13 s14 s15 s16 s17 : Sl), Cut m w h st bs ∧ (∀ b ∈ bs, Edg w h ns ms b) ∧ ns.length ≤ 2 * i ∧ ms.length ≤ 2 * i ∧
  ρ = [.fr stD, .fr (.int (m : Int)), .fr (.int w), .fr (.int h), .fr (.bool st), .ow (.list (bs.map bxD)), .ow (.list (ns.map PyData.int)), .ow (.list (ms.map PyData.int)), s8, s9, s10, s11, s12, s13, s14, s15, s16, s17]
theorem tPar_own {ρ : List Sl} {Ex : XK} {P : Oc → Prop} {i j : Nat} (q : P (.nx ((ρ.set i (.ow (.list []))).set j (.ow (.list []))))) : ST K Ex (tPar i j (tCons (tLst tNil) (tCons (tLst tNil) tNil))) ρ P := fun G0 H0 G H σ D E f =>
  ⟨Nat.zero_le _, fun a ha => ⟨Nat.zero_le _, fun b hb => by
    have x1 : Ext G H G (upd H a (.lst [])) := Ext.fresh E.gh ha
    have E1 := E.setN i x1 ha (E.gh.none ha) (.lst upd_same .nil)
    have x2 : Ext G (upd H a (.lst [])) G (upd (upd H a (.lst [])) b (.lst [])) := Ext.fresh x1.gh hb
    have E2 := E1.setN j x2 hb (x1.gh.none hb) (.lst upd_same .nil)
    exact ⟨_, _, rfl, f.nx _ _ _ _ q E2⟩⟩⟩
theorem ok_u_law_cuts (T : Txt K mg) (hd : FnP K "_law_cuts" s_u_law_cuts) (hm : mg "_law_cuts" = some (.ref (He.ga K "_law_cuts"))) (O_u_law_take : Okd P w K mg base CX0 1 "_law_take" ["state", "many"] (sp_u_law_take K)) (O_u_law_mill : Okd P w K mg base CX0 2 "_law_mill" ["state", "box", "across", "up"] (sp_u_law_mill K)) : Okd P w K mg base CX0 3 "_law_cuts" ["state", "many", "wide", "high", "strict"] (sp_u_law_cuts K) := by
  obtain ⟨fd, F⟩ := hd
  refine ⟨hm, fd, fn_pn F sc_u_law_cuts ?_ (fun cdv A outer s H E hr => ⟨_, dv_u_law_cuts T O_u_law_take O_u_law_mill cdv A outer s H E hr, ?_⟩), F.bindsN (fun _ _ _ _ _ _ us hl => match us, hl with | [_, _, _, _, _], _ => rfl), F.kp⟩
  · rintro ds ⟨x0, x1, x2, x3, rfl, _⟩
    rfl
  · rintro ds ⟨m, w', h, st, rfl, m1, m2, w1, w2, h1, h2⟩
    show STN K (t_u_law_cuts K) [.fr stD, .fr (.int (m : Int)), .fr (.int w'), .fr (.int h), .fr (.bool st), .no, .no, .no, .no, .no, .no, .no, .no, .no, .no, .no, .no, .no] _
    unfold t_u_law_cuts sp_u_law_mill
    have done : ∀ i ρ, CutI m w' h st i ρ → ∃ ρ', Oc.nx ρ = .nx ρ' ∧ STN K (tRet (tVar 5)) ρ' (fun d => ∃ (m' : Nat) (w h' : Int) (st' : Bool) (bs : List Bx), [stD, .int (m : Int), .int w', .int h, .bool st] = [stD, .int (m' : Int), .int w, .int h', .bool st'] ∧ d = .list (bs.map bxD) ∧ Cut m' w h' st' bs) := by
      rintro i ρ ⟨bs, ns, ms, s8, s9, s10, s11, s12, s13, s14, s15, s16, s17, C, Eg, n1, n2, rfl⟩
      exact ⟨_, rfl, stn_ret (n := 5) rfl ⟨m, w', h, st, bs, rfl, rfl, C⟩⟩
    refine stn_seq (Ex := E0) (st_asgN (d := .list (([⟨0, 0, w', h⟩] : List Bx).map bxD)) (en_lst (ea_cons (ev_b4 ev_int ev_int (ev_var rfl) (ev_var rfl)) ea_nil) (by show 1 ≤ sizeLine; rw [sizeLine_eq]; omega)) ⟨_, rfl, ?_⟩)
    refine stn_seq (Ex := E0) (tPar_own (i := 6) (j := 7) ⟨_, rfl, ?_⟩)
    refine stn_seq (Ex := E0) (st_for (ei_rng1 (ea_cons (ev_op ev_int (ev_var (d := .int (m : Int)) rfl) (od_mulI (.inl (by decide)))) ea_nil) (by omega) (by omega)) (fun i => CutI m w' h st i) ⟨[⟨0, 0, w', h⟩], [], [], _, _, _, _, _, _, _, _, _, _, ⟨Nat.le_refl 1, m1, ?_, List.pairwise_singleton _ _, ?_, ?_⟩, ?_, Nat.zero_le _, Nat.zero_le _, rfl⟩ ?_ (fun ρ hI => done _ ρ hI))
    · intro c hc
      obtain rfl := List.mem_singleton.mp hc
      unfold Pos
      dsimp only
      omega
    · rw [areas_cons, areas_nil]
      unfold area
      dsimp only
      rw [Int.sub_zero, Int.sub_zero, Int.add_zero]
    · intro _ a ha b hb
      obtain rfl := List.mem_singleton.mp ha
      obtain rfl := List.mem_singleton.mp hb
      unfold Dia
      dsimp only
      omega
    · intro c hc
      obtain rfl := List.mem_singleton.mp hc
      exact ⟨⟨.inl rfl, .inl rfl⟩, .inl rfl, .inl rfl⟩
    · rintro i ρ hi ⟨bs, ns, ms, s8, s9, s10, s11, s12, s13, s14, s15, s16, s17, C, Eg, n1, n2, rfl⟩
      refine ⟨_, _, gt_name, ?_⟩
      have hlo := C.lo
      have hhi := C.hi
      have hi : i < 160 := by omega
      refine q_when (b := decide ((m : Int) ≤ ((bs.map bxD).length : Nat))) (et_test (ev_op (ev_lenO (n := 5) rfl) (ev_var (d := .int (m : Int)) rfl) od_cmpI)) (fun hb => st_break (done i _ ⟨bs, ns, ms, _, s9, s10, s11, s12, s13, s14, s15, s16, s17, C, Eg, n1, n2, rfl⟩)) fun hb => ?_
      have hlt := of_decide_eq_false hb
      rw [List.length_map] at hlt
      refine q_asgV (ev_take (Pd := fun d => ∃ k : Nat, d = .int (k : Int) ∧ k < bs.length) (n := 0) rfl (ev_lenO (n := 5) rfl) (by rw [List.length_map]; omega) (by rw [List.length_map]; omega) fun v v0 v1 => ⟨v.toNat, by rw [Int.toNat_of_nonneg v0], by rw [List.length_map] at v1; omega⟩) ?_
      rintro d ⟨k, rfl, hk⟩
      have hat : atI (bs.map bxD) (k : Int) = some (bxD (bA bs k)) := by
        have := atI_nn (ds := bs.map bxD) (i := (k : Int)) .none (by omega) (by rw [List.length_map]; omega)
        rw [Int.toNat_natCast, getD_bx hk] at this
        exact this
      have hix : ixN (bs.map bxD).length (k : Int) = some k := ixN_natL (by rw [List.length_map]; exact hk)
      refine q_asgG (d := bxD (bA bs k)) (ev_ixO (n := 5) rfl (ev_var (d := .int (k : Int)) rfl) hat) gt_bx ?_
      obtain ⟨hp, hs⟩ := C.ok (bA bs k) (DL.getD_mem hk)
      have spl := fun {p ps xs ys} Gv hl fx fy => C.split (p := p) (ps := ps) (xs := xs) (ys := ys) Eg hk Gv hl fx fy
      generalize hc : bA bs k = c at hp hs hat spl
      obtain ⟨hp1, hp2⟩ := id hp
      obtain ⟨hs1, hs2, hs3, hs4⟩ := id hs
      refine q_asgV (ev_take (Pd := AnyI) (n := 0) rfl ev_int (by decide) (by decide) fun v _ _ => ⟨v, rfl⟩) ?_
      rintro d ⟨u, rfl⟩
      refine st_if (b := decide (u = 4) && decide (((bs.map bxD).length : Int) + 4 ≤ (m : Int))) (et_and (et_test (ev_op (ev_var (d := .int u) rfl) ev_int od_eqI)) fun _ => et_test (ev_op (ev_op (ev_lenO (n := 5) rfl) ev_int od_addI) (ev_var (d := .int (m : Int)) rfl) od_cmpI)) (fun hb => ?_) fun hb => ?_
      · have h4 := of_decide_eq_true (Bool.and_eq_true_iff.mp hb).2
        rw [List.length_map] at h4
        refine q_asgM (p := 6) (q := 7) (ns := ns) (ms := ms) rfl rfl (by decide) (ev_var (d := stD) rfl) (ev_ixO (n := 5) rfl (ev_var (d := .int (k : Int)) rfl) hat) ⟨c, rfl, hp, by unfold Small; omega, by omega, by omega⟩ ?_
        rintro d ns' ms' ⟨b', p, ps, xs, ys, e, rfl, d3, rfl, rfl, x2, y2, fx, fy, Gv⟩
        obtain rfl : c = b' := by
          injection e with _ e
          injection e with e _
          exact box_inj e
        obtain ⟨C2, Eg2⟩ := spl Gv (by omega) (fun _ => fx) (fun _ => fy)
        refine q_setL (n := 5) (i := (k : Int)) (j := k) rfl (ev_op (ev_var (d := .list ((p :: ps).map bxD)) rfl) ev_int (od_ixL (d := bxD p) (atI_nat (j := 0) (by rfl)))) (ev_var rfl) hix ?_
        refine q_frz (i := 5) rfl ?_
        have eS : ∀ ρ : List Sl, ρ[15]? = some (.fr (.list ((p :: ps).map bxD))) → EV K (tSl (rSlU K) (tVar 15) (tPart (tC (.int 1))) tNoPart) ρ (.list (ps.map bxD)) := fun ρ h15 =>
          ev_is (ev_N (en_slL (lo := some 1) (hi := none) (ev_var (d := .list ((p :: ps).map bxD)) h15) (eo_some ev_int) eo_none)) (congrArg PyData.list (cut_from (ds := (p :: ps).map bxD) (k := 0) (by rw [List.length_map]; exact Nat.succ_pos _)))
        refine st_asgN (en_op (ev_var (d := .list ((bs.map bxD).set k (bxD p))) rfl) (eS _ rfl) (on_addL ?_)) ?_
        · rw [List.length_set, List.length_map, List.length_map, sizeLine_eq]
          omega
        · refine ⟨bs.set k p ++ ps, ns ++ xs, ms ++ ys, _, _, _, _, _, _, _, _, _, _, C2, Eg2, by rw [List.length_append]; omega, by rw [List.length_append]; omega, by rw [List.map_append (f := bxD), List.map_set]; rfl⟩
      · refine st_if (b := decide (u < 2)) (et_test (ev_op (ev_var (d := .int u) rfl) ev_int od_cmpI)) (fun hb => ?_) fun hb => ?_
        · refine q_asgV (evx_cut (n := 0) (i := 10) (j := 12) (a := c.w) (b := c.e) rfl rfl rfl hp1 (by omega)) ?_
          rintro d ⟨x, rfl, x1, x2, x3⟩
          refine st_if (b := decide (x < c.e) && (!st || !decide (x ∈ ns))) (et_is (et_and (et_test (ev_op (ev_var (d := .int x) rfl) (ev_var (d := .int c.e) rfl) od_cmpI)) fun _ => et_or (et_not (et_trB (ev_var (d := .bool st) rfl))) fun _ => et_test (ev_ninO (n := 6) (ev_var (d := .int x) rfl) rfl rfl (ints_flat ns))) (by rw [inD_int])) (fun hb => ?_) fun _ => st_next ⟨bs, ns, ms, _, _, _, _, _, _, _, _, _, _, C, Eg, by omega, by omega, rfl⟩
          obtain ⟨hb1, hb2⟩ := Bool.and_eq_true_iff.mp hb
          have hlt2 := of_decide_eq_true hb1
          obtain ⟨C2, Eg2⟩ := spl (cut_w hp x1 hlt2) (by show bs.length + 1 ≤ m; omega) (fun hst z hz => by
            obtain rfl := List.mem_singleton.mp hz
            rw [hst] at hb2
            simpa using hb2) (fun _ z hz => nomatch hz)
          refine q_append (n := 6) rfl (ev_var (d := .int x) rfl) (by rw [List.length_map]; omega) ?_
          refine q_setL (n := 5) (i := (k : Int)) (j := k) rfl (ev_b4 (ev_var (d := .int c.w) rfl) (ev_var (d := .int c.s) rfl) (ev_var (d := .int x) rfl) (ev_var (d := .int c.n) rfl)) (ev_var rfl) hix ?_
          refine st_append (n := 5) rfl (ev_b4 (ev_var (d := .int x) rfl) (ev_var (d := .int c.s) rfl) (ev_var (d := .int c.e) rfl) (ev_var (d := .int c.n) rfl)) (by rw [List.length_set, List.length_map]; omega) ?_
          rw [List.append_nil] at Eg2
          refine ⟨bs.set k ⟨c.w, c.s, x, c.n⟩ ++ [⟨x, c.s, c.e, c.n⟩], ns ++ [x], ms, _, _, _, _, _, _, _, _, _, _, C2, Eg2, by rw [List.length_append, List.length_singleton]; omega, by omega, by rw [List.map_append (f := bxD), List.map_set, List.map_append (f := PyData.int)]; rfl⟩
        · refine q_asgV (evx_cut (n := 0) (i := 11) (j := 13) (a := c.s) (b := c.n) rfl rfl rfl hp2 (by omega)) ?_
          rintro d ⟨x, rfl, x1, x2, x3⟩
          refine st_if (b := decide (x < c.n) && (!st || !decide (x ∈ ms))) (et_is (et_and (et_test (ev_op (ev_var (d := .int x) rfl) (ev_var (d := .int c.n) rfl) od_cmpI)) fun _ => et_or (et_not (et_trB (ev_var (d := .bool st) rfl))) fun _ => et_test (ev_ninO (n := 7) (ev_var (d := .int x) rfl) rfl rfl (ints_flat ms))) (by rw [inD_int])) (fun hb => ?_) fun _ => st_next ⟨bs, ns, ms, _, _, _, _, _, _, _, _, _, _, C, Eg, by omega, by omega, rfl⟩
          obtain ⟨hb1, hb2⟩ := Bool.and_eq_true_iff.mp hb
          have hlt2 := of_decide_eq_true hb1
          obtain ⟨C2, Eg2⟩ := spl (cut_s hp x1 hlt2) (by show bs.length + 1 ≤ m; omega) (fun _ z hz => nomatch hz) (fun hst z hz => by
            obtain rfl := List.mem_singleton.mp hz
            rw [hst] at hb2
            simpa using hb2)
          refine q_append (n := 7) rfl (ev_var (d := .int x) rfl) (by rw [List.length_map]; omega) ?_
          refine q_setL (n := 5) (i := (k : Int)) (j := k) rfl (ev_b4 (ev_var (d := .int c.w) rfl) (ev_var (d := .int c.s) rfl) (ev_var (d := .int c.e) rfl) (ev_var (d := .int x) rfl)) (ev_var rfl) hix ?_
          refine st_append (n := 5) rfl (ev_b4 (ev_var (d := .int c.w) rfl) (ev_var (d := .int x) rfl) (ev_var (d := .int c.e) rfl) (ev_var (d := .int c.n) rfl)) (by rw [List.length_set, List.length_map]; omega) ?_
          rw [List.append_nil] at Eg2
          refine ⟨bs.set k ⟨c.w, c.s, c.e, x⟩ ++ [⟨c.w, x, c.e, c.n⟩], ns, ms ++ [x], _, _, _, _, _, _, _, _, _, _, C2, Eg2, by omega, by rw [List.length_append, List.length_singleton]; omega, by rw [List.map_append (f := bxD), List.map_set, List.map_append (f := PyData.int)]; rfl⟩

theorem erase_perm {es : List Bx} {i : Nat} {b : Bx} (h : es[i]? = some b) : es.Perm (b :: es.eraseIdx i) := by
  have hi := (List.getElem?_eq_some_iff.mp h).1
  have := perm_at es i hi
  unfold bA at this
  rwa [getD_of h] at this
theorem map_get {bs : List Bx} {i : Nat} {e : D} (h : (bs.map bxD)[i]? = some e) : ∃ b, bs[i]? = some b ∧ e = bxD b := by
  rw [List.getElem?_map] at h
  cases hb : bs[i]? with
  | none => rw [hb] at h; exact nomatch h
  | some b => rw [hb] at h; exact ⟨b, rfl, by injection h with h; exact h.symm⟩
theorem map_erase (bs : List Bx) (i : Nat) : (bs.map bxD).eraseIdx i = (bs.eraseIdx i).map bxD := by
  rw [List.eraseIdx_eq_take_drop_succ, List.eraseIdx_eq_take_drop_succ, List.map_append, List.map_take, List.map_drop]
theorem ok_u_law_plan (T : Txt K mg) (hd : FnP K "_law_plan" s_u_law_plan) (hm : mg "_law_plan" = some (.ref (He.ga K "_law_plan"))) (O_u_law_cuts : Okd P w K mg base CX0 3 "_law_cuts" ["state", "many", "wide", "high", "strict"] (sp_u_law_cuts K)) (O_u_law_names : Okd P w K mg base CX0 2 "_law_names" ["state", "many"] (sp_u_law_names K)) (O_u_law_take : Okd P w K mg base CX0 1 "_law_take" ["state", "many"] (sp_u_law_take K)) : Okd P w K mg base CX0 4 "_law_plan" ["state", "many", "wide", "high", "strict"] (sp_u_law_plan K) := by
  obtain ⟨fd, F⟩ := hd
  refine ⟨hm, fd, fn_pq F sc_u_law_plan ?_ (fun cdv A outer s H E hr => ⟨_, dv_u_law_plan T O_u_law_cuts O_u_law_names O_u_law_take cdv A outer s H E hr, ?_⟩), F.bindsN (fun _ _ _ _ _ _ us hl => match us, hl with | [_, _, _, _, _], _ => rfl), F.kp⟩
  · rintro ds ⟨x0, x1, x2, x3, rfl, _⟩
    rfl
  · rintro ds ⟨m, w', h, st, rfl, m1, m2, w1, w2, h1, h2⟩
    show ST K E0 (t_u_law_plan K) [.fr stD, .fr (.int (m : Int)), .fr (.int w'), .fr (.int h), .fr (.bool st), .no, .no, .no] _
    unfold t_u_law_plan sp_u_law_cuts sp_u_law_names
    refine q_asgNV (evnx_callN (by walk_at "ea") ⟨m, w', h, st, rfl, m1, m2, w1, w2, h1, h2⟩) ?_
    rintro d ⟨m', w2', h', st', bs, e, rfl, C⟩
    obtain ⟨rfl, rfl, rfl, rfl⟩ : m = m' ∧ w' = w2' ∧ h = h' ∧ st = st' := by
      injection e with _ e
      injection e with e1 e
      injection e with e2 e
      injection e with e3 e
      injection e with e4 e
      injection e1 with e1
      injection e2 with e2
      injection e3 with e3
      injection e4 with e4
      exact ⟨Int.ofNat.inj e1, e2, e3, e4⟩
    clear e
    refine q_asgN (d := .list []) (en_lst ea_nil (by decide)) ?_
    have hhi := C.hi
    have hlo := C.lo
    refine q_for (ei_rng1 (ea_cons (ev_lenO (n := 5) rfl) ea_nil) (by rw [List.length_map]; omega) (by rw [List.length_map]; omega)) (fun i ρ => ∃ (as cs : List Bx) (s7 : Sl), (cs ++ as).Perm bs ∧ cs.length = i ∧ ρ = [.fr stD, .fr (.int (m : Int)), .fr (.int w'), .fr (.int h), .fr (.bool st), .ow (.list (as.map bxD)), .ow (.list (cs.map bxD)), s7]) ⟨bs, [], _, .refl _, rfl, rfl⟩ ?_ ?_
    · rintro i ρ hi ⟨as, cs, s7, hp, hc, rfl⟩
      refine ⟨_, _, gt_name, ?_⟩
      rw [List.length_map] at hi
      have hl := hp.length_eq
      rw [List.length_append] at hl
      refine st_appPop (p := 6) (q := 5) (ds := cs.map bxD) (es := as.map bxD) (Pd := fun d => ∃ k : Nat, d = .int (k : Int) ∧ k < as.length) rfl rfl (by decide) (ev_take (n := 0) rfl (ev_lenO (n := 5) rfl) (by rw [List.length_map]; omega) (by rw [List.length_map]; omega) fun v v0 v1 => ⟨v.toNat, by rw [Int.toNat_of_nonneg v0], by rw [List.length_map] at v1; omega⟩) (by rw [List.length_map]; omega) (by rw [List.length_map]; omega) ?_
      rintro d ⟨k, rfl, hk⟩
      refine ⟨k, rfl, by rw [List.length_map]; exact hk, fun e he => ?_⟩
      obtain ⟨b, hb, rfl⟩ := map_get he
      refine ⟨as.eraseIdx k, cs ++ [b], _, ?_, by rw [List.length_append, hc]; rfl, by rw [map_erase, List.map_append]; rfl⟩
      rw [List.append_assoc]
      exact ((erase_perm hb).symm.append_left cs).trans hp
    · rintro ρ ⟨as, cs, s7, hp, hc, rfl⟩
      rw [List.length_map] at hc
      have hl := hp.length_eq
      rw [List.length_append] at hl
      have ha : as = [] := List.length_eq_zero_iff.mp (by omega)
      subst ha
      rw [List.append_nil] at hp
      refine q_frz (i := 6) rfl ?_
      refine st_retV (Pd := fun d => ∃ rs : List Str, d = plD rs w' h cs ∧ VP rs cs) (evx_tup (Pl := fun ds => ∃ rs : List Str, ds = [.tuple (rs.map PyData.str), .int w', .int h, .tuple (cs.map bxD)] ∧ VP rs cs) (eax_cons (Pa := fun d => ∃ rs : List Str, d = .tuple (rs.map PyData.str) ∧ VP rs cs) (Pl := fun ds => ds = [.int w', .int h, .tuple (cs.map bxD)]) (evx_cb (Pl := fun ds => ∃ rs : List Str, ds = [.list (rs.map PyData.str)] ∧ VP rs cs) (eax_one (Pa := fun d => ∃ rs : List Str, d = .list (rs.map PyData.str) ∧ VP rs cs) (evx_callQ (Pl := fun ds => ds = [stD, .int ((cs.length : Nat) : Int)]) (eax_of (ea_cons (ev_var rfl) (ea_cons (ev_is (d := .int (((cs.map bxD).length : Nat) : Int)) (by walk_at "ev") (by rw [List.length_map])) ea_nil)) rfl) ?_) ?_) ?_) (eax_of ?_ rfl) ?_) ?_) ?_
      · rintro ds rfl
        refine ⟨⟨cs.length, rfl, by omega⟩, ?_⟩
        rintro d ⟨n, rs, e, rfl, hr, up, nm⟩
        obtain rfl : cs.length = n := by
          injection e with _ e
          injection e with e _
          injection e with e
          exact Int.ofNat.inj e
        refine ⟨rs, rfl, hr, by omega, up, nm, ?_, ?_⟩
        · intro b hb
          exact (C.ok b (hp.mem_iff.mp hb)).1
        · exact (hp.pairwise_iff (fun {a b} (h : Dis a b) => h.symm)).mpr C.dis
      · rintro d ⟨rs, rfl, V⟩
        exact ⟨rs, rfl, V⟩
      · rintro ds ⟨rs, rfl, V⟩
        exact ⟨_, cd_tupL, rs, rfl, V⟩
      · exact ea_cons (ev_var rfl) (ea_cons (ev_var rfl) (ea_cons (ev_cb (ea_cons (ev_var (d := .list (cs.map bxD)) rfl) ea_nil) cd_tupL) ea_nil))
      · rintro d ds ⟨rs, rfl, V⟩ rfl
        exact ⟨rs, rfl, V⟩
      · rintro ds ⟨rs, rfl, V⟩
        exact ⟨by show 4 ≤ sizeLine; exact s4, rs, rfl, V⟩
      · rintro d ⟨rs, rfl, V⟩
        exact ⟨_, rfl, m, w', h, st, rs, cs, rfl, rfl, V, ⟨by omega, by omega, fun b hb => C.ok b (hp.mem_iff.mp hb), V.dis, by rw [areas_perm hp]; exact C.sum, fun hs a ha b hb => C.dia hs a (hp.mem_iff.mp ha) b (hp.mem_iff.mp hb)⟩⟩

theorem ok_name_fault (T : Txt K mg) (hd : FnP K "name_fault" s_name_fault) (hm : mg "name_fault" = some (.ref (He.ga K "name_fault"))) : Okd P w K mg base CX0 1 "name_fault" ["thing"] (sp_name_fault K) := by
  obtain ⟨fd, F⟩ := hd
  refine ⟨hm, fd, fn_pf F sc_name_fault ?_ (fun cdv A outer s H E hr => ⟨_, dv_name_fault T cdv A outer s H E hr, ?_⟩), F.bindsN (fun _ _ _ _ _ _ us hl => match us, hl with | [_], _ => rfl), F.kp⟩
  · rintro ds d ⟨x, rfl, _⟩
    rfl
  · rintro ds d ⟨x, rfl, hx, rfl⟩
    refine ST.mono (P := fun o => o = .rt (nfD x)) ?_ fun o h => .inl h
    show ST K E0 (t_name_fault K) [.fr x, .no, .no] _
    unfold t_name_fault
    cases x with
    | dict => cases hx
    | str z =>
      have hz : z.length ≤ 1000 := of_decide_eq_true hx
      have hz' : z.length ≤ sizeLine := by rw [sizeLine_eq]; omega
      refine q_when (b := !lenOk z) (by walk_at "et!") (fun hb => st_ret (by walk_at "ev") ?_) fun hb => ?_
      · show Oc.rt _ = Oc.rt (if lenOk z = true then _ else _)
        rw [if_neg (by simpa using hb)]
      · refine q_for (ei_enumS (by walk_at "ea")) (fun i ρ => (∀ j, j < i → badAt z j = false) ∧ ∃ s1 s2, ρ = [.fr (.str z), s1, s2]) ⟨fun j hj => absurd hj (Nat.not_lt_zero _), _, _, rfl⟩ ?_ ?_
        · rintro i ρ hi ⟨hb2, s1, s2, rfl⟩
          refine ⟨_, _, gt_tup rfl (gts_cons gt_name (gts_cons gt_name gts_nil)), ?_⟩
          refine st_if (b := badAt z i) (by walk_at "et!") (fun hb3 => st_ret (by walk_at "ev") ?_) (fun hb3 => st_next ?_)
          · show Oc.rt _ = Oc.rt (if lenOk z = true then _ else _)
            rw [if_pos (by simpa using hb), firstP_some hi hb2 hb3]
            rfl
          · refine ⟨fun j hj => ?_, _, _, rfl⟩
            by_cases e : j = i
            · rw [e]; exact hb3
            · exact hb2 j (by omega)
        · rintro ρ ⟨hb2, s1, s2, rfl⟩
          refine st_ret (by walk_at "ev") ?_
          show Oc.rt _ = Oc.rt (if lenOk z = true then _ else _)
          rw [if_pos (by simpa using hb), firstP_none hb2]
          rfl
    | _ => exact q_yes (by walk_at "et!") (st_ret (by walk_at "ev") (by rfl))
def isTup : D → Bool
  | .tuple _ => true
  | _ => false
theorem okA_nd {x : D} (h : okA x = true) : isDicD x = false := by
  cases x with
  | dict _ => cases h
  | _ => rfl
theorem okB_nd {x : D} (h : okB x = true) : isDicD x = false := by
  cases x with
  | dict _ => cases h
  | _ => rfl
theorem okC_nd {x : D} (h : okC x = true) : isDicD x = false := by
  cases x with
  | dict _ => cases h
  | _ => rfl
theorem okT_nd {x : D} (h : okT x = true) : isDicD x = false := by
  cases x with
  | dict _ => cases h
  | _ => rfl
theorem ev_isT {ta : TE} {ρ : List Sl} {x : D} (h : EV K ta ρ x) (nd : isDicD x = false) : EV K (tCB (rIsi K) (tCons ta (tCons (tC (.ty "tuple")) tNil))) ρ (.bool (isTup x)) := by
  cases x with
  | dict _ => cases nd
  | _ => exact ev_isi h rfl rfl
theorem ok_is_tuple (T : Txt K mg) (hd : FnP K "is_tuple" s_is_tuple) (hm : mg "is_tuple" = some (.ref (He.ga K "is_tuple"))) : Okd P w K mg base CX0 1 "is_tuple" ["thing", "many"] (sp_is_tuple K) := by
  obtain ⟨fd, F⟩ := hd
  refine ⟨hm, fd, fn_pf F sc_is_tuple ?_ (fun cdv A outer s H E hr => ⟨_, dv_is_tuple T cdv A outer s H E hr, ?_⟩), F.bindsN (fun _ _ _ _ _ _ us hl => match us, hl with | [_, _], _ => rfl), F.kp⟩
  · rintro ds d ⟨x, m, rfl, _⟩
    rfl
  · rintro ds d ⟨x, m, rfl, nd, rfl⟩
    refine ST.mono (P := fun o => o = .rt (.bool (isTupD x m))) ?_ fun o h => .inl h
    show ST K E0 (t_is_tuple K) [.fr x, .fr (.int m)] _
    unfold t_is_tuple
    cases x with
    | dict => cases nd
    | tuple ds => exact st_ret (ev_andV (b := decide ((ds.length : Int) = m)) (by walk_at "ev") (fun _ => ev_op (by walk_at "ev") (by walk_at "ev") od_eqI)) (by rfl)
    | _ => exact st_ret (ev_and0 (by walk_at "ev")) (by rfl)
theorem getD_all {α : Type} {p : α → Bool} {ds : List α} {z : α} (h : ds.all p = true) {i : Nat} (hi : i < ds.length) : p (ds.getD i z) = true := by
  rw [List.getD_eq_getElem?_getD, List.getElem?_eq_getElem hi]
  exact List.all_eq_true.mp h _ (List.getElem_mem hi)
theorem all_of {p : D → Bool} {ds : List D} (h : ∀ i, i < ds.length → p (ds.getD i .none) = true) : ds.all p = true := by
  refine List.all_eq_true.mpr fun x hx => ?_
  obtain ⟨i, hi, e⟩ := List.getElem_of_mem hx
  have := h i hi
  rw [List.getD_eq_getElem?_getD, List.getElem?_eq_getElem hi] at this
  rw [← e]
  exact this
theorem not_all {p : D → Bool} {ds : List D} {i : Nat} (hi : i < ds.length) (h : p (ds.getD i .none) = false) : ds.all p = false := by
  cases q : ds.all p with
  | false => rfl
  | true =>
    have := getD_all (z := PyData.none) q hi
    rw [h] at this
    cases this
theorem nf_str {x : D} (h : isNoneD (nfD x) = true) : ∃ z, x = .str z := by
  cases x with
  | str z => exact ⟨z, rfl⟩
  | _ => cases h
theorem room_ok {es : List D} {j : Nat} (h : roomBad es j = none) : isNoneD (nfD (es.getD j .none)) = true ∧ (decide ((j : Int) > 0) && !ltD (es.getD (j - 1) .none) (es.getD j .none)) = false := by
  unfold roomBad at h
  cases q : isNoneD (nfD (es.getD j .none)) with
  | false =>
    rw [q, if_neg Bool.false_ne_true] at h
    cases h
  | true =>
    rw [q, if_pos rfl] at h
    refine ⟨rfl, ?_⟩
    cases r : (decide ((j : Int) > 0) && !ltD (es.getD (j - 1) .none) (es.getD j .none)) with
    | false => rfl
    | true =>
      rw [r, if_pos rfl] at h
      cases h
theorem at_D {ds : List D} {i : Int} (h0 : 0 ≤ i) (h1 : i < ds.length) : atI ds i = some (ds.getD i.toNat .none) := atI_nn PyData.none h0 h1
theorem at_pred {ds : List D} {i : Nat} (h0 : (i : Int) > 0) (h1 : i < ds.length) : atI ds ((i : Int) - 1) = some (ds.getD (i - 1) .none) := by
  have e : ((i : Int) - 1).toNat = i - 1 := by omega
  rw [← e]
  exact at_D (by omega) (by omega)
theorem at_self {ds : List D} {i : Nat} (h1 : i < ds.length) : atI ds (i : Int) = some (ds.getD i .none) := at_D (by omega) (by omega)
theorem tel_at {i : Nat} {w : Str} : telD (upI 0 (some (i, w))) = .tuple [.int i, .str w] := by
  unfold upI telD
  dsimp only
  rw [Int.zero_add]
theorem ok_rooms_fault (T : Txt K mg) (hd : FnP K "rooms_fault" s_rooms_fault) (hm : mg "rooms_fault" = some (.ref (He.ga K "rooms_fault"))) (O1 : Okd P w K mg base CX0 1 "name_fault" ["thing"] (sp_name_fault K)) : Okd P w K mg base CX0 2 "rooms_fault" ["rooms"] (sp_rooms_fault K) := by
  obtain ⟨fd, F⟩ := hd
  refine ⟨hm, fd, fn_pf F sc_rooms_fault ?_ (fun cdv A outer s H E hr => ⟨_, dv_rooms_fault T O1 cdv A outer s H E hr, ?_⟩), F.bindsN (fun _ _ _ _ _ _ us hl => match us, hl with | [_], _ => rfl), F.kp⟩
  · rintro ds d ⟨x, rfl, _⟩
    rfl
  · rintro ds d ⟨es, rfl, hok, hl, rfl⟩
    refine ST.mono (P := fun o => o = .rt (telD (RF es))) ?_ fun o h => .inl h
    show ST K E0 (t_rooms_fault K) [.fr (.tuple es), .no, .no] _
    unfold t_rooms_fault
    refine q_for (ei_enumT (by walk_at "ea")) (fun i ρ => (∀ j, j < i → roomBad es j = none) ∧ ∃ s1 s2, ρ = [.fr (.tuple es), s1, s2]) ⟨fun j hj => absurd hj (Nat.not_lt_zero _), _, _, rfl⟩ ?_ ?_
    · rintro i ρ hi ⟨hb, s1, s2, rfl⟩
      refine ⟨_, _, gt_tup rfl (gts_cons gt_name (gts_cons gt_name gts_nil)), ?_⟩
      have hx := getD_all (z := PyData.none) hok hi
      refine q_when (b := !isNoneD (nfD (es.getD i .none))) (et_B (ev_notN (ev_call (by walk_at "ea") ⟨_, rfl, hx, rfl⟩))) (fun h => st_ret (by walk_at "ev") ?_) fun h => ?_
      · have hr : roomBad es i = some ("name" : Str) := by
          unfold roomBad
          rw [if_neg (by simpa using h)]
        unfold RF
        rw [firstO_some hi hb hr, tel_at]
        exact rfl
      · obtain ⟨z, ez⟩ := nf_str (x := es.getD i .none) (by simpa using h)
        refine st_if (b := decide ((i : Int) > 0) && !ltD (es.getD (i - 1) .none) (es.getD i .none)) (et_and (et_test (ev_op (by walk_at "ev") (by walk_at "ev") od_cmpI)) fun h0 => ?_) (fun h2 => st_ret (by walk_at "ev") ?_) (fun h2 => st_next ⟨fun j hj => ?_, _, _, rfl⟩)
        · have h0 : (i : Int) > 0 := of_decide_eq_true h0
          obtain ⟨y, ey⟩ := nf_str (room_ok (hb (i - 1) (by omega))).1
          rw [ez, ey]
          exact et_test (ev_op (ev_op (by walk_at "ev") (by walk_at "ev") (od_ixT ((at_pred h0 hi).trans (congrArg some ey)))) (by walk_at "ev") od_cmpS)
        · have hr : roomBad es i = some ("order" : Str) := by
            unfold roomBad
            rw [if_pos (by simpa using h), if_pos h2]
          unfold RF
          rw [firstO_some hi hb hr, tel_at]
          exact rfl
        · by_cases e : j = i
          · rw [e]
            unfold roomBad
            rw [if_pos (by simpa using h), if_neg (by rw [h2]; exact Bool.false_ne_true)]
          · exact hb j (by omega)
    · rintro ρ ⟨hb, s1, s2, rfl⟩
      refine st_ret (by walk_at "ev") ?_
      unfold RF
      rw [firstO_none hb]
      rfl
theorem nf_some {z : Str} {i : Nat} (hl : lenOk z = true) (h : firstP (badAt z) z.cps.size = some i) : isNoneD (nfD (.str z)) = false := by
  unfold nfD
  dsimp only
  rw [if_pos hl, h]
  rfl
theorem nf_none {z : Str} (hl : lenOk z = true) (h : firstP (badAt z) z.cps.size = none) : isNoneD (nfD (.str z)) = true := by
  unfold nfD
  dsimp only
  rw [if_pos hl, h]
  rfl
theorem nf_len {z : Str} (hl : lenOk z = false) : isNoneD (nfD (.str z)) = false := by
  unfold nfD
  dsimp only
  rw [if_neg (by rw [hl]; exact Bool.false_ne_true)]
  rfl
theorem ok_u_law_name (T : Txt K mg) (hd : FnP K "_law_name" s_u_law_name) (hm : mg "_law_name" = some (.ref (He.ga K "_law_name"))) : Okd P w K mg base CX0 1 "_law_name" ["thing"] (sp_u_law_name K) := by
  obtain ⟨fd, F⟩ := hd
  refine ⟨hm, fd, fn_pf F sc_u_law_name ?_ (fun cdv A outer s H E hr => ⟨_, dv_u_law_name T cdv A outer s H E hr, ?_⟩), F.bindsN (fun _ _ _ _ _ _ us hl => match us, hl with | [_], _ => rfl), F.kp⟩
  · rintro ds d ⟨x, rfl, _⟩
    rfl
  · rintro ds d ⟨x, rfl, hx, rfl⟩
    refine ST.mono (P := fun o => o = .rt (.bool (isNoneD (nfD x)))) ?_ fun o h => .inl h
    show ST K E0 (t_u_law_name K) [.fr x, .no] _
    unfold t_u_law_name
    cases x with
    | dict => cases hx
    | str z =>
      have hz : z.length ≤ 1000 := of_decide_eq_true hx
      have hz' : z.length ≤ sizeLine := by rw [sizeLine_eq]; omega
      refine q_when (b := !lenOk z) (et_is (et_or (et_not (et_trB (by walk_at "ev"))) fun _ => et_or (by walk_at "et") fun _ => by walk_at "et") ?_) (fun hb => st_ret (by walk_at "ev") ?_) fun hb => ?_
      · unfold lenOk
        rw [Bool.eq_iff_iff]
        simp
      · rw [nf_len (by simpa using hb)]
        exact rfl
      · have hb : lenOk z = true := by simpa using hb
        refine q_for (ei_rng1 (by walk_at "ea") (by omega) (by omega)) (fun i ρ => (∀ j, j < i → badAt z j = false) ∧ ∃ s1, ρ = [.fr (.str z), s1]) ⟨fun j hj => absurd hj (Nat.not_lt_zero _), _, rfl⟩ ?_ ?_
        · rintro i ρ hi ⟨hb2, s1, rfl⟩
          have hi2 : i < z.cps.size := by
            have e : z.length = z.cps.size := rfl
            omega
          have hix : atI z.cps.toList (i : Int) = some (z.cps.getD i 0) := by
            refine atI_nat ?_
            rw [Array.getElem?_toList, Array.getElem?_eq_getElem hi2, Array.getD_eq_getD_getElem?, Array.getElem?_eq_getElem hi2]
            rfl
          refine ⟨_, _, gt_name, ?_⟩
          refine st_if (b := badAt z i) (et_is (et_and (et_test (ev_op (ev_op (by walk_at "ev") (by walk_at "ev") (od_ixS hz' hix)) (by walk_at "ev") od_ninC)) fun _ => et_or (by walk_at "et") fun _ => et_test (ev_op (ev_op (by walk_at "ev") (by walk_at "ev") (od_ixS hz' hix)) (by walk_at "ev") od_ninC)) (by rfl)) (fun hb3 => st_ret (by walk_at "ev") ?_) (fun hb3 => st_next ⟨fun j hj => ?_, _, rfl⟩)
          · rw [nf_some hb (firstP_some hi2 hb2 hb3)]
            exact rfl
          · by_cases e : j = i
            · rw [e]
              exact hb3
            · exact hb2 j (by omega)
        · rintro ρ ⟨hb2, s1, rfl⟩
          refine st_ret (by walk_at "ev") ?_
          rw [nf_none hb (firstP_none fun j hj => hb2 j (by have e : z.length = z.cps.size := rfl; omega))]
    | _ => exact q_yes (et_or1 (et_is (et_not (et_trB (by walk_at "ev"))) (by rfl))) (st_ret (by walk_at "ev") (by rfl))

theorem isI_facts (x : D) (nd : isDicD x = false) : ∃ a b, kitB (tyD x) "int" = some a ∧ kitB (tyD x) "bool" = some b ∧ isIntD x = (a && !b) := by
  cases x with
  | none => exact ⟨_, _, rfl, rfl, rfl⟩
  | bool _ => exact ⟨_, _, rfl, rfl, rfl⟩
  | int _ => exact ⟨_, _, rfl, rfl, rfl⟩
  | str _ => exact ⟨_, _, rfl, rfl, rfl⟩
  | list _ => exact ⟨_, _, rfl, rfl, rfl⟩
  | tuple _ => exact ⟨_, _, rfl, rfl, rfl⟩
  | dict _ => cases nd
theorem ok_is_integer (T : Txt K mg) (hd : FnP K "is_integer" s_is_integer) (hm : mg "is_integer" = some (.ref (He.ga K "is_integer")))  : Okd P w K mg base CX0 1 "is_integer" ["thing"] (sp_is_integer K) := by
  obtain ⟨fd, F⟩ := hd
  refine ⟨hm, fd, fn_pf F sc_is_integer ?_ (fun cdv A outer s H E hr => ⟨_, dv_is_integer T  cdv A outer s H E hr, ?_⟩), F.bindsN (fun _ _ _ _ _ _ us hl => match us, hl with | [_], _ => rfl), F.kp⟩
  · rintro ds d ⟨x0, rfl, _⟩
    rfl
  · rintro ds d ⟨x, rfl, nd, rfl⟩
    refine ST.mono (P := fun o => o = .rt (.bool (isIntD x))) ?_ fun o h => .inl h
    show ST K E0 (t_is_integer K) [.fr x] _
    unfold t_is_integer
    obtain ⟨a, b, h1, h2, h3⟩ := isI_facts x nd
    exact st_ret (ev_andV (ev_isi (d := x) (ev_var rfl) nd h1) fun _ => ev_notV (ev_isi (d := x) (ev_var rfl) nd h2)) (by rw [h3])
theorem ok_u_law_whole (T : Txt K mg) (hd : FnP K "_law_whole" s_u_law_whole) (hm : mg "_law_whole" = some (.ref (He.ga K "_law_whole")))  : Okd P w K mg base CX0 1 "_law_whole" ["thing"] (sp_u_law_whole K) := by
  obtain ⟨fd, F⟩ := hd
  refine ⟨hm, fd, fn_pf F sc_u_law_whole ?_ (fun cdv A outer s H E hr => ⟨_, dv_u_law_whole T  cdv A outer s H E hr, ?_⟩), F.bindsN (fun _ _ _ _ _ _ us hl => match us, hl with | [_], _ => rfl), F.kp⟩
  · rintro ds d ⟨x0, rfl, _⟩
    rfl
  · rintro ds d ⟨x, rfl, nd, rfl⟩
    refine ST.mono (P := fun o => o = .rt (.bool (isIntD x))) ?_ fun o h => .inl h
    show ST K E0 (t_u_law_whole K) [.fr x] _
    unfold t_u_law_whole
    obtain ⟨a, b, h1, h2, h3⟩ := isI_facts x nd
    exact st_ret (ev_andV (ev_isi (d := x) (ev_var rfl) nd h1) fun _ => ev_notV (ev_isi (d := x) (ev_var rfl) nd h2)) (by rw [h3])
def inW (l h : Int) : D → Bool
  | .int i => decide (l ≤ i) && decide (i ≤ h)
  | _ => false
theorem ok_integer_within (T : Txt K mg) (hd : FnP K "integer_within" s_integer_within) (hm : mg "integer_within" = some (.ref (He.ga K "integer_within"))) (O_is_integer : Okd P w K mg base CX0 1 "is_integer" ["thing"] (sp_is_integer K)) : Okd P w K mg base CX0 2 "integer_within" ["thing", "low", "high"] (sp_integer_within K) := by
  obtain ⟨fd, F⟩ := hd
  refine ⟨hm, fd, fn_pf F sc_integer_within ?_ (fun cdv A outer s H E hr => ⟨_, dv_integer_within T O_is_integer cdv A outer s H E hr, ?_⟩), F.bindsN (fun _ _ _ _ _ _ us hl => match us, hl with | [_, _, _], _ => rfl), F.kp⟩
  · rintro ds d ⟨x0, x1, x2, rfl, _⟩
    rfl
  · rintro ds d ⟨x, l, h, rfl, nd, rfl⟩
    refine ST.mono (P := fun o => o = .rt (.bool (inW l h x))) ?_ fun o h => .inl h
    show ST K E0 (t_integer_within K) [.fr x, .fr (.int l), .fr (.int h)] _
    unfold t_integer_within sp_is_integer
    cases x with
    | int i => exact st_ret (ev_andV (a := true) (ev_call (ea_cons (ev_var rfl) ea_nil) ⟨.int i, rfl, rfl, rfl⟩) fun _ => ev_chain (ev_var (d := .int l) rfl) (ev_var (d := .int i) rfl) od_cmpI (fun _ => ev_var (d := .int h) rfl) (fun _ => od_cmpI)) (by rfl)
    | dict _ => cases nd
    | none => exact st_ret (ev_andV (a := false) (b := false) (ev_call (ea_cons (ev_var rfl) ea_nil) ⟨_, rfl, nd, rfl⟩) fun z => nomatch z) (by rfl)
    | bool _ => exact st_ret (ev_andV (a := false) (b := false) (ev_call (ea_cons (ev_var rfl) ea_nil) ⟨_, rfl, nd, rfl⟩) fun z => nomatch z) (by rfl)
    | str _ => exact st_ret (ev_andV (a := false) (b := false) (ev_call (ea_cons (ev_var rfl) ea_nil) ⟨_, rfl, nd, rfl⟩) fun z => nomatch z) (by rfl)
    | list _ => exact st_ret (ev_andV (a := false) (b := false) (ev_call (ea_cons (ev_var rfl) ea_nil) ⟨_, rfl, nd, rfl⟩) fun z => nomatch z) (by rfl)
    | tuple _ => exact st_ret (ev_andV (a := false) (b := false) (ev_call (ea_cons (ev_var rfl) ea_nil) ⟨_, rfl, nd, rfl⟩) fun z => nomatch z) (by rfl)
theorem ok_boxes_overlap (T : Txt K mg) (hd : FnP K "boxes_overlap" s_boxes_overlap) (hm : mg "boxes_overlap" = some (.ref (He.ga K "boxes_overlap")))  : Okd P w K mg base CX0 1 "boxes_overlap" ["one", "other"] (sp_boxes_overlap K) := by
  obtain ⟨fd, F⟩ := hd
  refine ⟨hm, fd, fn_pf F sc_boxes_overlap ?_ (fun cdv A outer s H E hr => ⟨_, dv_boxes_overlap T  cdv A outer s H E hr, ?_⟩), F.bindsN (fun _ _ _ _ _ _ us hl => match us, hl with | [_, _], _ => rfl), F.kp⟩
  · rintro ds d ⟨x0, x1, rfl, _⟩
    rfl
  · rintro ds d ⟨a, b, rfl, rfl⟩
    refine ST.mono (P := fun o => o = .rt (.bool (ovl a b))) ?_ fun o h => .inl h
    show ST K E0 (t_boxes_overlap K) [.fr (bxD a), .fr (bxD b)] _
    unfold t_boxes_overlap
    have A := ev_bx (K := K) (ρ := [.fr (bxD a), .fr (bxD b)]) (te := tVar 0) (b := a) (ev_var rfl)
    have B := ev_bx (K := K) (ρ := [.fr (bxD a), .fr (bxD b)]) (te := tVar 1) (b := b) (ev_var rfl)
    refine q_when (b := decide (min a.e b.e ≤ max a.w b.w)) (et_test (ev_op (ev_cb (ea_cons A.1 (ea_cons B.1 ea_nil)) cd_max) (ev_cb (ea_cons A.2.2.1 (ea_cons B.2.2.1 ea_nil)) cd_min) od_cmpI)) (fun hb => st_ret (d := .bool false) (by walk_at "ev") ?_) fun hb => st_ret (ev_op (ev_cb (ea_cons A.2.1 (ea_cons B.2.1 ea_nil)) cd_max) (ev_cb (ea_cons A.2.2.2 (ea_cons B.2.2.2 ea_nil)) cd_min) od_cmpI) ?_
    · have hb := of_decide_eq_true hb
      unfold ovl
      rw [decide_eq_false (by omega)]
      rfl
    · have hb := of_decide_eq_false hb
      unfold ovl
      rw [decide_eq_true (p := max a.w b.w < min a.e b.e) (by omega), Bool.true_and]

theorem tup_of {x : D} (h : isTup x = true) : ∃ es, x = .tuple es := by
  cases x with
  | tuple es => exact ⟨es, rfl⟩
  | _ => cases h
theorem four_of {x : D} (h : isTupD x 4 = true) : ∃ a b c d, x = .tuple [a, b, c, d] := by
  cases x with
  | tuple ds =>
    have h : decide ((ds.length : Int) = 4) = true := h
    have h := of_decide_eq_true h
    match ds, h with
    | [a, b, c, d], _ => exact ⟨a, b, c, d, rfl⟩
    | [], h => exact absurd h (by decide)
    | [_], h => simp at h
    | [_, _], h => simp at h
    | [_, _, _], h => simp at h
    | _ :: _ :: _ :: _ :: _ :: r, h =>
      simp only [List.length_cons] at h
      omega
  | _ => cases h
theorem form_not {x : D} (h : isTupD x 4 = false) : formB x = false := by
  unfold formB
  split
  · cases h
  · rfl
def lenT : D → Nat
  | .tuple es => es.length
  | _ => 0
theorem form4 (a b c d : D) : formB (.tuple [a, b, c, d]) = ((isTup a && isTup d) && (decide ((lenT a : Int) = (lenT d : Int)) && (isIntD b && isIntD c))) := by
  have e : ∀ m n : Nat, decide (((m : Nat) : Int) = ((n : Nat) : Int)) = decide (m = n) := fun m n => by
    by_cases h : m = n
    · rw [h, decide_eq_true rfl, decide_eq_true rfl]
    · rw [decide_eq_false h, decide_eq_false (by omega)]
  cases a <;> try rfl
  cases d <;> try (cases b <;> cases c <;> rfl)
  cases b <;> try (show false = (true && (_ && _)); simp [isIntD])
  cases c <;> try (show false = (true && (_ && _)); simp [isIntD])
  show decide (_ = _) = (true && (decide (((lenT _ : Nat) : Int) = ((lenT _ : Nat) : Int)) && true))
  rw [e, Bool.true_and, Bool.and_true]
  exact decide_eq_decide.mpr Iff.rfl
theorem okT4 {a b c d : D} (h : okT (.tuple [a, b, c, d]) = true) : (okC a = true ∧ okC b = true) ∧ (okC c = true ∧ okC d = true) := by
  unfold okT at h
  simp only [List.all_cons, List.all_nil, Bool.and_true, Bool.and_eq_true] at h
  exact ⟨⟨h.1.1, h.1.2.1⟩, h.1.2.2.1, h.1.2.2.2⟩
theorem ok_plan_shaped (T : Txt K mg) (hd : FnP K "plan_shaped" s_plan_shaped) (hm : mg "plan_shaped" = some (.ref (He.ga K "plan_shaped"))) (O_is_tuple : Okd P w K mg base CX0 1 "is_tuple" ["thing", "many"] (sp_is_tuple K)) (O_is_integer : Okd P w K mg base CX0 1 "is_integer" ["thing"] (sp_is_integer K)) : Okd P w K mg base CX0 2 "plan_shaped" ["thing"] (sp_plan_shaped K) := by
  obtain ⟨fd, F⟩ := hd
  refine ⟨hm, fd, fn_pf F sc_plan_shaped ?_ (fun cdv A outer s H E hr => ⟨_, dv_plan_shaped T O_is_tuple O_is_integer cdv A outer s H E hr, ?_⟩), F.bindsN (fun _ _ _ _ _ _ us hl => match us, hl with | [_], _ => rfl), F.kp⟩
  · rintro ds d ⟨x0, rfl, _⟩
    rfl
  · rintro ds d ⟨x, rfl, hx, rfl⟩
    refine ST.mono (P := fun o => o = .rt (.bool (formB x))) ?_ fun o h => .inl h
    show ST K E0 (t_plan_shaped K) [.fr x, .no, .no, .no, .no] _
    unfold t_plan_shaped sp_is_tuple sp_is_integer
    refine q_when (b := !isTupD x 4) (et_not (et_trB (ev_call (ea_cons (ev_var rfl) (ea_cons ev_int ea_nil)) ⟨x, 4, rfl, okT_nd hx, rfl⟩))) (fun hb => st_ret (d := .bool false) (by walk_at "ev") (by rw [form_not (by simpa using hb)]; rfl)) fun hb => ?_
    obtain ⟨a, b, c, d, rfl⟩ := four_of (x := x) (by simpa using hb)
    obtain ⟨⟨ha, hb'⟩, hc, hd⟩ := okT4 hx
    refine q_asgG (ev_var rfl) (gt_tup rfl (gts_cons gt_name (gts_cons gt_name (gts_cons gt_name (gts_cons gt_name gts_nil))))) ?_
    rw [form4]
    refine q_when (b := !isTup a || !isTup d) (et_or (et_not (et_trB (ev_isT (x := a) (ev_var rfl) (okC_nd ha)))) fun _ => et_not (et_trB (ev_isT (x := d) (ev_var rfl) (okC_nd hd)))) (fun hb => st_ret (d := .bool false) (by walk_at "ev") ?_) fun hb => ?_
    · have : (isTup a && isTup d) = false := by
        cases h1 : isTup a <;> cases h2 : isTup d <;> rw [h1, h2] at hb <;> first | rfl | cases hb
      rw [this]; rfl
    · have hb2 : isTup a = true ∧ isTup d = true := by
        cases h1 : isTup a <;> cases h2 : isTup d <;> rw [h1, h2] at hb <;> first | exact ⟨rfl, rfl⟩ | cases hb
      obtain ⟨es, rfl⟩ := tup_of hb2.1
      obtain ⟨bs, rfl⟩ := tup_of hb2.2
      exact st_ret (ev_andV (a := decide ((es.length : Int) = (bs.length : Int))) (b := isIntD b && isIntD c) (ev_op (ev_cb (ea_cons (ev_var (d := .tuple es) rfl) ea_nil) cd_lenT) (ev_cb (ea_cons (ev_var (d := .tuple bs) rfl) ea_nil) cd_lenT) od_eqI) fun _ => ev_andV (ev_call (ea_cons (ev_var rfl) ea_nil) ⟨b, rfl, okC_nd hb', rfl⟩) fun _ => ev_call (ea_cons (ev_var rfl) ea_nil) ⟨c, rfl, okC_nd hc, rfl⟩) (by rfl)
theorem ok_u_law_form (T : Txt K mg) (hd : FnP K "_law_form" s_u_law_form) (hm : mg "_law_form" = some (.ref (He.ga K "_law_form"))) (O_u_law_whole : Okd P w K mg base CX0 1 "_law_whole" ["thing"] (sp_u_law_whole K)) : Okd P w K mg base CX0 2 "_law_form" ["thing"] (sp_u_law_form K) := by
  obtain ⟨fd, F⟩ := hd
  refine ⟨hm, fd, fn_pf F sc_u_law_form ?_ (fun cdv A outer s H E hr => ⟨_, dv_u_law_form T O_u_law_whole cdv A outer s H E hr, ?_⟩), F.bindsN (fun _ _ _ _ _ _ us hl => match us, hl with | [_], _ => rfl), F.kp⟩
  · rintro ds d ⟨x0, rfl, _⟩
    rfl
  · rintro ds d ⟨x, rfl, hx, rfl⟩
    refine ST.mono (P := fun o => o = .rt (.bool (formB x))) ?_ fun o h => .inl h
    show ST K E0 (t_u_law_form K) [.fr x] _
    unfold t_u_law_form sp_u_law_whole
    by_cases ht : isTup x = true
    · obtain ⟨ds, rfl⟩ := tup_of ht
      refine q_when (b := !isTupD (.tuple ds) 4) (et_is (et_or (et_not (et_trB (ev_isT (x := .tuple ds) (ev_var rfl) rfl))) fun _ => et_test (ev_op (ev_cb (ea_cons (ev_var (d := .tuple ds) rfl) ea_nil) cd_lenT) ev_int od_neI)) (by rfl)) (fun hb => st_ret (d := .bool false) (by walk_at "ev") (by rw [form_not (by simpa using hb)]; rfl)) fun hb => ?_
      obtain ⟨a, b, c, d, e⟩ := four_of (x := .tuple ds) (by simpa using hb)
      injection e with e
      subst e
      obtain ⟨⟨ha, hb'⟩, hc, hd⟩ := okT4 hx
      rw [form4]
      have I : ∀ (i : Nat) (z : D), [a, b, c, d][i]? = some z → EV K (tOp (rIx K) (tVar 0) (tC (.int (i : Int)))) [.fr (.tuple [a, b, c, d])] z := fun i z hz => ev_op (ev_var rfl) ev_int (od_ixT (atI_nat hz))
      by_cases hb2 : isTup a = true ∧ isTup d = true
      · obtain ⟨h1, h2⟩ := hb2
        obtain ⟨es, rfl⟩ := tup_of h1
        obtain ⟨bs, rfl⟩ := tup_of h2
        refine q_when (b := !decide ((es.length : Int) = (bs.length : Int))) (et_is (et_or (et_not (et_trB (ev_isT (x := .tuple es) (I 0 _ rfl) rfl))) fun _ => et_or (et_not (et_trB (ev_isT (x := .tuple bs) (I 3 _ rfl) rfl))) fun _ => et_test (ev_op (ev_cb (ea_cons (I 0 (.tuple es) rfl) ea_nil) cd_lenT) (ev_cb (ea_cons (I 3 (.tuple bs) rfl) ea_nil) cd_lenT) od_neI)) (by rfl)) (fun hb => st_ret (d := .bool false) (by walk_at "ev") ?_) fun hb => ?_
        · have : decide ((es.length : Int) = (bs.length : Int)) = false := by simpa using hb
          show _ = Oc.rt (.bool (true && (decide ((es.length : Int) = (bs.length : Int)) && _)))
          rw [this]; rfl
        · have : decide ((es.length : Int) = (bs.length : Int)) = true := by simpa using hb
          refine st_ret (ev_andV (ev_call (ea_cons (I 1 _ rfl) ea_nil) ⟨b, rfl, okC_nd hb', rfl⟩) fun _ => ev_call (ea_cons (I 2 _ rfl) ea_nil) ⟨c, rfl, okC_nd hc, rfl⟩) ?_
          show _ = Oc.rt (.bool (true && (decide ((es.length : Int) = (bs.length : Int)) && _)))
          rw [this]; rfl
      · have hf : (isTup a && isTup d) = false := by
          cases h1 : isTup a <;> cases h2 : isTup d <;> first | rfl | exact absurd ⟨h1, h2⟩ hb2
        rw [hf]
        cases h1 : isTup a with
        | false => exact q_yes (et_or1 (et_is (et_not (et_trB (ev_isT (x := a) (I 0 _ rfl) (okC_nd ha)))) (by rw [h1]; rfl))) (st_ret (d := .bool false) (by walk_at "ev") (by rfl))
        | true =>
          have h2 : isTup d = false := by rw [h1] at hf; simpa using hf
          exact q_yes (et_is (et_or (b := true) (et_not (et_trB (ev_isT (x := a) (I 0 _ rfl) (okC_nd ha)))) fun _ => et_or1 (et_is (et_not (et_trB (ev_isT (x := d) (I 3 _ rfl) (okC_nd hd)))) (by rw [h2]; rfl))) (by simp)) (st_ret (d := .bool false) (by walk_at "ev") (by rfl))
    · have ht : isTup x = false := by simpa using ht
      have : isTupD x 4 = false := by cases x <;> first | rfl | cases ht
      rw [form_not this]
      exact q_yes (et_or1 (et_is (et_not (et_trB (ev_isT (x := x) (ev_var rfl) (okT_nd hx)))) (by rw [ht]; rfl))) (st_ret (d := .bool false) (by walk_at "ev") (by rfl))

theorem box_not {x : D} {w h : Int} (q : isTupD x 4 = false) : boxOk w h x = false := by
  unfold boxOk
  have : isB4 x = false := by
    unfold isB4
    split
    · cases q
    · rfl
  rw [this]
  rfl
theorem okB4 {a b c d : D} (h : okB (.tuple [a, b, c, d]) = true) : (okA a = true ∧ okA b = true) ∧ (okA c = true ∧ okA d = true) := by
  unfold okB at h
  simp only [List.all_cons, List.all_nil, Bool.and_true, Bool.and_eq_true] at h
  exact ⟨⟨h.1.1, h.1.2.1⟩, h.1.2.2.1, h.1.2.2.2⟩
theorem box_b4 {a b c d : D} {w h : Int} (q : isIntD a = false ∨ isIntD b = false ∨ isIntD c = false ∨ isIntD d = false) : boxOk w h (.tuple [a, b, c, d]) = false := by
  have : isB4 (.tuple [a, b, c, d]) = false := by
    cases a <;> try rfl
    cases b <;> try rfl
    cases c <;> try rfl
    cases d <;> try rfl
    rcases q with q | q | q | q <;> cases q
  unfold boxOk
  rw [this]
  rfl
theorem int_of {x : D} (h : isIntD x = true) : ∃ i, x = .int i := by
  cases x with
  | int i => exact ⟨i, rfl⟩
  | _ => cases h
theorem box_int {i j k l w h : Int} : boxOk w h (.tuple [.int i, .int j, .int k, .int l]) = ((decide (0 ≤ i) && (decide (i < k) && decide (k ≤ w))) && (decide (0 ≤ j) && (decide (j < l) && decide (l ≤ h)))) := by
  show (true && (decide (0 ≤ i) && decide (i < k) && decide (k ≤ w) && (decide (0 ≤ j) && decide (j < l) && decide (l ≤ h)))) = _
  rw [Bool.true_and, Bool.and_assoc (decide (0 ≤ i)), Bool.and_assoc (decide (0 ≤ j))]
theorem ok_is_box (T : Txt K mg) (hd : FnP K "is_box" s_is_box) (hm : mg "is_box" = some (.ref (He.ga K "is_box"))) (O_is_tuple : Okd P w K mg base CX0 1 "is_tuple" ["thing", "many"] (sp_is_tuple K)) (O_integer_within : Okd P w K mg base CX0 2 "integer_within" ["thing", "low", "high"] (sp_integer_within K)) : Okd P w K mg base CX0 3 "is_box" ["thing", "width", "height"] (sp_is_box K) := by
  obtain ⟨fd, F⟩ := hd
  refine ⟨hm, fd, fn_pf F sc_is_box ?_ (fun cdv A outer s H E hr => ⟨_, dv_is_box T O_is_tuple O_integer_within cdv A outer s H E hr, ?_⟩), F.bindsN (fun _ _ _ _ _ _ us hl => match us, hl with | [_, _, _], _ => rfl), F.kp⟩
  · rintro ds d ⟨x0, x1, x2, rfl, _⟩
    rfl
  · rintro ds d ⟨x, w', h, rfl, hx, rfl⟩
    refine ST.mono (P := fun o => o = .rt (.bool (boxOk w' h x))) ?_ fun o h => .inl h
    show ST K E0 (t_is_box K) [.fr x, .fr (.int w'), .fr (.int h), .no, .no, .no, .no] _
    unfold t_is_box sp_is_tuple sp_integer_within
    refine q_when (b := !isTupD x 4) (et_not (et_trB (ev_call (ea_cons (ev_var rfl) (ea_cons ev_int ea_nil)) ⟨x, 4, rfl, okB_nd hx, rfl⟩))) (fun hb => st_ret (d := .bool false) (by walk_at "ev") (by rw [box_not (by simpa using hb)]; rfl)) fun hb => ?_
    obtain ⟨a, b, c, d, rfl⟩ := four_of (x := x) (by simpa using hb)
    clear hb
    obtain ⟨⟨ha, hb'⟩, hc, hd⟩ := okB4 hx
    refine q_asgG (ev_var rfl) (gt_tup rfl (gts_cons gt_name (gts_cons gt_name (gts_cons gt_name (gts_cons gt_name gts_nil))))) ?_
    refine q_when (b := !inW 1 w' c || !inW 1 h d) (et_or (et_not (et_trB (ev_call (ea_cons (ev_var rfl) (ea_cons ev_int (ea_cons (ev_var rfl) ea_nil))) ⟨c, 1, w', rfl, okA_nd hc, rfl⟩))) fun _ => et_not (et_trB (ev_call (ea_cons (ev_var rfl) (ea_cons ev_int (ea_cons (ev_var rfl) ea_nil))) ⟨d, 1, h, rfl, okA_nd hd, rfl⟩))) (fun hb => st_ret (d := .bool false) (by walk_at "ev") ?_) fun hb => ?_
    · have : boxOk w' h (.tuple [a, b, c, d]) = false := by
        cases h1 : isIntD a with
        | false => exact box_b4 (.inl h1)
        | true =>
        cases h2 : isIntD b with
        | false => exact box_b4 (.inr (.inl h2))
        | true =>
        cases h3 : isIntD c with
        | false => exact box_b4 (.inr (.inr (.inl h3)))
        | true =>
        cases h4 : isIntD d with
        | false => exact box_b4 (.inr (.inr (.inr h4)))
        | true =>
        obtain ⟨i, rfl⟩ := int_of h1
        obtain ⟨j, rfl⟩ := int_of h2
        obtain ⟨k, rfl⟩ := int_of h3
        obtain ⟨l, rfl⟩ := int_of h4
        rw [box_int]
        have hb : (!(decide (1 ≤ k) && decide (k ≤ w')) || !(decide (1 ≤ l) && decide (l ≤ h))) = true := hb
        rw [Bool.eq_false_iff]
        intro e
        simp only [Bool.and_eq_true, decide_eq_true_eq] at e
        simp only [Bool.or_eq_true, Bool.not_eq_true', Bool.and_eq_false_iff, decide_eq_false_iff_not] at hb
        omega
      rw [this]; rfl
    · have hb2 : inW 1 w' c = true ∧ inW 1 h d = true := by
        cases h1 : inW 1 w' c <;> cases h2 : inW 1 h d <;> rw [h1, h2] at hb <;> first | exact ⟨rfl, rfl⟩ | cases hb
      obtain ⟨k, rfl⟩ : ∃ k, c = .int k := by
        cases c with
        | int k => exact ⟨k, rfl⟩
        | _ => cases hb2.1
      obtain ⟨l, rfl⟩ : ∃ l, d = .int l := by
        cases d with
        | int k => exact ⟨k, rfl⟩
        | _ => cases hb2.2
      have q1 : (decide (1 ≤ k) && decide (k ≤ w')) = true := hb2.1
      have q2 : (decide (1 ≤ l) && decide (l ≤ h)) = true := hb2.2
      simp only [Bool.and_eq_true, decide_eq_true_eq] at q1 q2
      refine st_ret (ev_andV (ev_call (ea_cons (ev_var (d := a) rfl) (ea_cons ev_int (ea_cons (ev_op (ev_var (d := .int k) rfl) ev_int od_sub) ea_nil))) ⟨a, 0, k - 1, rfl, okA_nd ha, rfl⟩) fun _ => ev_call (ea_cons (ev_var (d := b) rfl) (ea_cons ev_int (ea_cons (ev_op (ev_var (d := .int l) rfl) ev_int od_sub) ea_nil))) ⟨b, 0, l - 1, rfl, okA_nd hb', rfl⟩) ?_
      have : boxOk w' h (.tuple [a, b, .int k, .int l]) = (inW 0 (k - 1) a && inW 0 (l - 1) b) := by
        cases h1 : isIntD a with
        | false =>
          rw [box_b4 (.inl h1)]
          cases a <;> first | rfl | cases h1
        | true =>
        cases h2 : isIntD b with
        | false =>
          rw [box_b4 (.inr (.inl h2))]
          have : inW 0 (l - 1) b = false := by cases b <;> first | rfl | cases h2
          rw [this, Bool.and_false]
        | true =>
        obtain ⟨i, rfl⟩ := int_of h1
        obtain ⟨j, rfl⟩ := int_of h2
        rw [box_int]
        show _ = ((decide (0 ≤ i) && decide (i ≤ k - 1)) && (decide (0 ≤ j) && decide (j ≤ l - 1)))
        rw [Bool.eq_iff_iff]
        simp only [Bool.and_eq_true, decide_eq_true_eq]
        omega
      rw [this]; rfl
theorem ok_u_law_box (T : Txt K mg) (hd : FnP K "_law_box" s_u_law_box) (hm : mg "_law_box" = some (.ref (He.ga K "_law_box"))) (O_u_law_whole : Okd P w K mg base CX0 1 "_law_whole" ["thing"] (sp_u_law_whole K)) : Okd P w K mg base CX0 2 "_law_box" ["box", "wide", "high"] (sp_u_law_box K) := by
  obtain ⟨fd, F⟩ := hd
  refine ⟨hm, fd, fn_pf F sc_u_law_box ?_ (fun cdv A outer s H E hr => ⟨_, dv_u_law_box T O_u_law_whole cdv A outer s H E hr, ?_⟩), F.bindsN (fun _ _ _ _ _ _ us hl => match us, hl with | [_, _, _], _ => rfl), F.kp⟩
  · rintro ds d ⟨x0, x1, x2, rfl, _⟩
    rfl
  · rintro ds d ⟨x, w', h, rfl, hx, rfl⟩
    refine ST.mono (P := fun o => o = .rt (.bool (boxOk w' h x))) ?_ fun o h => .inl h
    show ST K E0 (t_u_law_box K) [.fr x, .fr (.int w'), .fr (.int h), .no] _
    unfold t_u_law_box sp_u_law_whole
    by_cases ht : isTup x = true
    · obtain ⟨ds, rfl⟩ := tup_of ht
      refine q_when (b := !isTupD (.tuple ds) 4) (et_is (et_or (et_not (et_trB (ev_isT (x := .tuple ds) (ev_var rfl) rfl))) fun _ => et_test (ev_op (ev_cb (ea_cons (ev_var (d := .tuple ds) rfl) ea_nil) cd_lenT) ev_int od_neI)) (by rfl)) (fun hb => st_ret (d := .bool false) (by walk_at "ev") (by rw [box_not (by simpa using hb)]; rfl)) fun hb => ?_
      obtain ⟨a, b, c, d, e⟩ := four_of (x := .tuple ds) (by simpa using hb)
      injection e with e
      subst e
      obtain ⟨⟨ha, hb'⟩, hc, hd⟩ := okB4 hx
      have nd : ∀ i, i < 4 → isDicD ([a, b, c, d].getD i .none) = false := by
        intro i hi
        match i, hi with
        | 0, _ => exact okA_nd ha
        | 1, _ => exact okA_nd hb'
        | 2, _ => exact okA_nd hc
        | 3, _ => exact okA_nd hd
      refine q_for (ei_tup (ds := [a, b, c, d]) (ev_var rfl)) (fun i ρ => (∀ j, j < i → isIntD ([a, b, c, d].getD j .none) = true) ∧ ∃ s3 : Sl, ρ = [.fr (.tuple [a, b, c, d]), .fr (.int w'), .fr (.int h), s3]) ⟨fun j hj => absurd hj (Nat.not_lt_zero _), _, rfl⟩ ?_ ?_
      · rintro i ρ hi ⟨hall, s3, rfl⟩
        refine ⟨_, _, gt_name, ?_⟩
        have hi : i < 4 := hi
        refine st_if (b := !isIntD ([a, b, c, d].getD i .none)) (et_not (et_trB (ev_call (ea_cons (ev_var rfl) ea_nil) ⟨_, rfl, nd i hi, rfl⟩))) (fun hq => st_ret (d := .bool false) (by walk_at "ev") ?_) fun hq => st_next ⟨fun j hj => ?_, _, rfl⟩
        · have hq : isIntD ([a, b, c, d].getD i .none) = false := by simpa using hq
          have : boxOk w' h (.tuple [a, b, c, d]) = false := by
            match i, hi, hq with
            | 0, _, hq => exact box_b4 (.inl hq)
            | 1, _, hq => exact box_b4 (.inr (.inl hq))
            | 2, _, hq => exact box_b4 (.inr (.inr (.inl hq)))
            | 3, _, hq => exact box_b4 (.inr (.inr (.inr hq)))
          show Oc.rt _ = Oc.rt _
          rw [this]
        · by_cases e : j = i
          · rw [e]; simpa using hq
          · exact hall j (by omega)
      · rintro ρ ⟨hall, s3, rfl⟩
        obtain ⟨i, rfl⟩ := int_of (hall 0 (by show 0 < 4; decide))
        obtain ⟨j, rfl⟩ := int_of (hall 1 (by show 1 < 4; decide))
        obtain ⟨k, rfl⟩ := int_of (hall 2 (by show 2 < 4; decide))
        obtain ⟨l, rfl⟩ := int_of (hall 3 (by show 3 < 4; decide))
        rw [box_int]
        have I : ∀ (n : Nat) (z : D), [PyData.int i, .int j, .int k, .int l][n]? = some z → EV K (tOp (rIx K) (tVar 0) (tC (.int (n : Int)))) [.fr (.tuple [.int i, .int j, .int k, .int l]), .fr (.int w'), .fr (.int h), s3] z := fun n z hz => ev_op (ev_var rfl) ev_int (od_ixT (atI_nat hz))
        exact st_ret (ev_andV (ev_chain3 ev_int (I 0 (.int i) rfl) od_cmpI (fun _ => I 2 (.int k) rfl) (fun _ => od_cmpI) (fun _ _ => ev_var (d := .int w') rfl) (fun _ _ => od_cmpI)) fun _ => ev_chain3 ev_int (I 1 (.int j) rfl) od_cmpI (fun _ => I 3 (.int l) rfl) (fun _ => od_cmpI) (fun _ _ => ev_var (d := .int h) rfl) (fun _ _ => od_cmpI)) (by rfl)
    · have ht : isTup x = false := by simpa using ht
      have : isTupD x 4 = false := by cases x <;> first | rfl | cases ht
      rw [box_not this]
      exact q_yes (et_or1 (et_is (et_not (et_trB (ev_isT (x := x) (ev_var rfl) (okB_nd hx)))) (by rw [ht]; rfl))) (st_ret (d := .bool false) (by walk_at "ev") (by rfl))

theorem ei_tupB {ρ : List Sl} {te : TE} {bs : List Bx} (h : EV K te ρ (.tuple (bs.map bxD))) : EI K (iSeqU K te) ρ bs.length (fun i => bxD (bA bs i)) := by
  have e := ei_tup h
  rw [List.length_map] at e
  exact ei_mono e fun i hi => getD_bx hi
theorem foldl_bump_len (ks : List (Int × Int)) : ∀ ps : List ((Int × Int) × Int), (ks.foldl DL.bump ps).length ≤ ps.length + ks.length := by
  induction ks with
  | nil => intro ps; exact Nat.le_refl _
  | cons k ks ih =>
    intro ps
    have := ih (DL.bump ps k)
    have := bump_len ps k
    rw [List.foldl_cons, List.length_cons]
    omega
theorem tally_take {f : Bx → List (Int × Int)} {bs : List Bx} {i : Nat} (h : i < bs.length) : tally f (bs.take (i + 1)) = (f (bA bs i)).foldl DL.bump (tally f (bs.take i)) := by
  unfold tally bA
  rw [List.take_succ_eq_append_getElem h, List.foldl_append, List.getD_eq_getElem?_getD, List.getElem?_eq_getElem h]
  rfl
theorem tally_len {f : Bx → List (Int × Int)} (hf : ∀ b, (f b).length = 4) (bs : List Bx) (i : Nat) (h : i ≤ bs.length) : (tally f (bs.take i)).length ≤ 4 * i := by
  induction i with
  | zero => exact Nat.zero_le _
  | succ i ih =>
    rw [tally_take (by omega)]
    have := foldl_bump_len (f (bA bs i)) (tally f (bs.take i))
    have := ih (by omega)
    rw [hf] at *
    omega
theorem any_range {α : Type} (z : α) (p : α → Bool) (l : List α) : (((List.range l.length).map fun i => p (l.getD i z)).any id) = l.any p := by
  rw [Bool.eq_iff_iff, List.any_eq_true, List.any_eq_true]
  constructor
  · rintro ⟨x, hx, e⟩
    obtain ⟨i, hi, rfl⟩ := List.mem_map.mp hx
    exact ⟨_, DL.getD_mem (List.mem_range.mp hi), e⟩
  · rintro ⟨x, hx, e⟩
    obtain ⟨i, hi, rfl⟩ := List.getElem_of_mem hx
    refine ⟨p (l.getD i z), List.mem_map.mpr ⟨i, List.mem_range.mpr hi, rfl⟩, ?_⟩
    rw [List.getD_eq_getElem?_getD, List.getElem?_eq_getElem hi]
    exact e
theorem evt_pt {ρ : List Sl} {t1 t2 : TE} {a b : Int} (h1 : EV K t1 ρ (.int a)) (h2 : EV K t2 ρ (.int b)) : EVT K (tTup (tCons t1 (tCons t2 tNil))) ρ (kI (a, b)) := evt_tup (ds := [.int a, .int b]) (ea_cons h1 (ea_cons h2 ea_nil)) rfl (by show 2 ≤ sizeLine; exact s2)
theorem ok_four_meet (T : Txt K mg) (hd : FnP K "four_meet" s_four_meet) (hm : mg "four_meet" = some (.ref (He.ga K "four_meet")))  : Okd P w K mg base CX0 1 "four_meet" ["boxes"] (sp_four_meet K) := by
  obtain ⟨fd, F⟩ := hd
  refine ⟨hm, fd, fn_pf F sc_four_meet ?_ (fun cdv A outer s H E hr => ⟨_, dv_four_meet T  cdv A outer s H E hr, ?_⟩), F.bindsN (fun _ _ _ _ _ _ us hl => match us, hl with | [_], _ => rfl), F.kp⟩
  · rintro ds d ⟨x0, rfl, _⟩
    rfl
  · rintro ds d ⟨bs, rfl, hm, rfl⟩
    refine ST.mono (P := fun o => o = .rt (.bool (fourB bs))) ?_ fun o h => .inl h
    show ST K E0 (t_four_meet K) [.fr (.tuple (bs.map bxD)), .no, .no, .no, .no, .no, .no, .no] _
    unfold t_four_meet
    refine q_asgN (d := dtD (cK [])) en_dnewT ?_
    refine q_for (ei_tupB (bs := bs) (ev_var rfl)) (fun i ρ => ∃ s2 s3 s4 s5 s6 : Sl, ρ = [.fr (.tuple (bs.map bxD)), .ow (dtD (cK (tally cor (bs.take i)))), s2, s3, s4, s5, s6, .no]) ⟨_, _, _, _, _, rfl⟩ ?_ ?_
    · rintro i ρ hi ⟨s2', s3, s4', s5, s6, rfl⟩
      refine ⟨_, _, gt_bx, ?_⟩
      generalize hb : bA bs i = b
      have tl := tally_len (f := cor) (fun _ => rfl) bs i (by omega)
      refine st_bumps (n := 1) (i := 6) (ks := cor b) rfl (by decide) (by show 6 < 8; decide) (eik_tup (eat_cons (evt_pt (ev_var (d := .int b.w) rfl) (ev_var (d := .int b.s) rfl)) (eat_cons (evt_pt (ev_var (d := .int b.e) rfl) (ev_var (d := .int b.s) rfl)) (eat_cons (evt_pt (ev_var (d := .int b.e) rfl) (ev_var (d := .int b.n) rfl)) (eat_cons (evt_pt (ev_var (d := .int b.w) rfl) (ev_var (d := .int b.n) rfl)) eat_nil)))) (by show 4 ≤ sizeLine; exact s4)) ?_ fun s => ⟨.fr (.int b.w), .fr (.int b.s), .fr (.int b.e), .fr (.int b.n), s, ?_⟩
      · have : (cor b).length = 4 := rfl
        omega
      · rw [tally_take hi, hb]
        rfl
    · rintro ρ ⟨s2', s3, s4', s5, s6, rfl⟩
      rw [List.take_of_length_le (Nat.le_refl _)]
      have tl := tally_len (f := cor) (fun _ => rfl) bs bs.length (Nat.le_refl _)
      rw [List.take_of_length_le (Nat.le_refl _)] at tl
      refine st_retAny (n := 1) (ps := tally cor bs) (b := fun i => decide (((tally cor bs).getD i ((0, 0), 0)).2 = 4)) rfl (by omega) (fun i hi => ⟨_, _, gt_name, by simp, ev_op (ev_var rfl) ev_int od_eqI⟩) ?_
      show Oc.rt _ = Oc.rt _
      rw [any_range ((0, 0), 0) (fun p : (Int × Int) × Int => decide (p.2 = 4)) (tally cor bs)]
      rfl

theorem plf_not {x : D} (h : formB x = false) : PLF x = some (-1, ("shape" : Str)) := by
  unfold PLF
  split
  · rename_i es w h2 bs
    have h : decide (es.length = bs.length) = false := h
    rw [if_neg (of_decide_eq_false h)]
  · rfl
theorem form_yes {x : D} (h : formB x = true) : ∃ es w h bs, x = .tuple [.tuple es, .int w, .int h, .tuple bs] ∧ es.length = bs.length := by
  unfold formB at h
  split at h
  · exact ⟨_, _, _, _, rfl, of_decide_eq_true h⟩
  · cases h
theorem box_eq {w h : Int} {d : D} (q : boxOk w h d = true) : d = bxD (bxOf d) ∧ Pos (bxOf d) ∧ 0 ≤ (bxOf d).w ∧ (bxOf d).e ≤ w ∧ 0 ≤ (bxOf d).s ∧ (bxOf d).n ≤ h := by
  unfold boxOk at q
  simp only [Bool.and_eq_true, decide_eq_true_eq] at q
  obtain ⟨q0, q1, q2⟩ := q
  refine ⟨?_, by unfold Pos; omega, by omega, by omega, by omega, by omega⟩
  unfold isB4 at q0
  split at q0
  · rfl
  · cases q0
theorem boxes_eq {w h : Int} {bs : List D} (hb : ∀ j, j < bs.length → boxBad w h bs j = none) : bs = (bs.map bxOf).map bxD ∧ ∀ b ∈ bs.map bxOf, Pos b ∧ 0 ≤ b.w ∧ b.e ≤ w ∧ 0 ≤ b.s ∧ b.n ≤ h := by
  have ok : ∀ d ∈ bs, boxOk w h d = true := by
    intro d hd
    obtain ⟨i, hi, rfl⟩ := List.getElem_of_mem hd
    have := hb i hi
    unfold boxBad at this
    rw [List.getD_eq_getElem?_getD, List.getElem?_eq_getElem hi] at this
    dsimp only [Option.getD] at this
    split at this
    · assumption
    · cases this
  constructor
  · rw [List.map_map]
    conv => lhs; rw [← List.map_id bs]
    exact List.map_congr_left fun d hd => (box_eq (ok d hd)).1
  · intro b hb2
    obtain ⟨d, hd, rfl⟩ := List.mem_map.mp hb2
    exact (box_eq (ok d hd)).2
theorem cut_to {ds : List D} {k : Nat} (h : k < ds.length) : cutDs ds none (some ((k : Nat) : Int)) = ds.take k := by
  unfold cutDs
  rw [HT.sIx_nat, Nat.min_eq_left (by omega)]
  rfl
theorem lcD_areas (B : List Bx) : lcD B.length (fun _ => true) (fun i => .int (area (bA B i))) = (B.map area).map PyData.int := by
  have := lc_filterA (p := fun _ : Bx => true) (h := fun b => PyData.int (area b)) zB B
  rw [List.filter_eq_self.mpr (fun _ _ => rfl)] at this
  rw [List.map_map]
  exact this
theorem okC_es {es : List D} (h : okC (.tuple es) = true) : es.all okB = true ∧ es.length ≤ 1000 := by
  unfold okC at h
  rw [Bool.and_eq_true] at h
  exact ⟨h.1, of_decide_eq_true h.2⟩
theorem okB_okA {es : List D} (h : es.all okB = true) : es.all okA = true := List.all_eq_true.mpr fun x hx => by
  have := List.all_eq_true.mp h x hx
  cases x with
  | tuple _ => rfl
  | _ => exact this
theorem ev_fault {ρ : List Sl} {w : Str} : EV K (tTup (tCons (tUn (rU fun i => .int (-i)) (tC (.int 1))) (tCons (tC (.str w)) tNil))) ρ (.tuple [.int (-1), .str w]) := ev_tup (ea_cons (ev_neg ev_int) (ea_cons ev_str ea_nil)) s2
theorem ok_plan_fault (T : Txt K mg) (hd : FnP K "plan_fault" s_plan_fault) (hm : mg "plan_fault" = some (.ref (He.ga K "plan_fault"))) (O_rooms_fault : Okd P w K mg base CX0 2 "rooms_fault" ["rooms"] (sp_rooms_fault K)) (O_four_meet : Okd P w K mg base CX0 1 "four_meet" ["boxes"] (sp_four_meet K)) (O_plan_shaped : Okd P w K mg base CX0 2 "plan_shaped" ["thing"] (sp_plan_shaped K)) (O_is_box : Okd P w K mg base CX0 3 "is_box" ["thing", "width", "height"] (sp_is_box K)) (O_boxes_overlap : Okd P w K mg base CX0 1 "boxes_overlap" ["one", "other"] (sp_boxes_overlap K)) : Okd P w K mg base CX0 4 "plan_fault" ["thing"] (sp_plan_fault K) := by
  obtain ⟨fd, F⟩ := hd
  refine ⟨hm, fd, fn_pf F sc_plan_fault ?_ (fun cdv A outer s H E hr => ⟨_, dv_plan_fault T O_rooms_fault O_four_meet O_plan_shaped O_is_box O_boxes_overlap cdv A outer s H E hr, ?_⟩), F.bindsN (fun _ _ _ _ _ _ us hl => match us, hl with | [_], _ => rfl), F.kp⟩
  · rintro ds d ⟨x0, rfl, _⟩
    rfl
  · rintro ds d ⟨x, rfl, hx, rfl⟩
    refine ST.mono (P := fun o => o = .rt (telD (PLF x))) ?_ fun o h => .inl h
    show ST K E0 (t_plan_fault K) [.fr x, .no, .no, .no, .no, .no, .no, .no, .no, .no, .no, .no, .no] _
    unfold t_plan_fault sp_plan_shaped sp_rooms_fault sp_is_box sp_boxes_overlap sp_four_meet
    refine q_when (b := !formB x) (et_not (et_trB (ev_call (ea_cons (ev_var rfl) ea_nil) ⟨x, rfl, hx, rfl⟩))) (fun hb => st_ret ev_fault (by rw [plf_not (by simpa using hb)]; rfl)) fun hb => ?_
    obtain ⟨es, w', h, bs, rfl, hl⟩ := form_yes (x := x) (by simpa using hb)
    clear hb
    obtain ⟨⟨o1, _⟩, _, o2⟩ := okT4 hx
    obtain ⟨o3, o4⟩ := okC_es o1
    obtain ⟨o5, o6⟩ := okC_es o2
    refine q_asgG (ev_var rfl) (gt_tup rfl (gts_cons gt_name (gts_cons gt_name (gts_cons gt_name (gts_cons gt_name gts_nil))))) ?_
    have ep : PLF (.tuple [.tuple es, .int w', .int h, .tuple bs]) = if limB es w' h = true then LF es w' h bs else some (-1, ("limit" : Str)) := by
      show (if es.length = bs.length then _ else _) = _
      rw [if_pos hl]
    rw [ep]
    refine q_when (b := !(decide (1 ≤ (es.length : Int)) && decide ((es.length : Int) ≤ 40))) (et_not (et_test (ev_chain ev_int (ev_cb (ea_cons (ev_var (d := .tuple es) rfl) ea_nil) cd_lenT) od_cmpI (fun _ => ev_int) (fun _ => od_cmpI)))) (fun hb => st_ret ev_fault ?_) fun hb => ?_
    · have : limB es w' h = false := by unfold limB; rw [Bool.not_eq_true'] at hb; rw [hb, Bool.false_and]
      rw [this]; rfl
    rw [Bool.not_eq_false'] at hb
    refine q_when (b := !(decide (1 ≤ w') && decide (w' ≤ 10000)) || !(decide (1 ≤ h) && decide (h ≤ 10000))) (et_or (et_not (et_test (ev_chain ev_int (ev_var (d := .int w') rfl) od_cmpI (fun _ => ev_int) (fun _ => od_cmpI)))) fun _ => et_not (et_test (ev_chain ev_int (ev_var (d := .int h) rfl) od_cmpI (fun _ => ev_int) (fun _ => od_cmpI)))) (fun hb2 => st_ret ev_fault ?_) fun hb2 => ?_
    · have : limB es w' h = false := by
        unfold limB
        rw [hb, Bool.true_and]
        cases q1 : (decide (1 ≤ w') && decide (w' ≤ 10000)) with
        | false => rfl
        | true =>
          rw [q1] at hb2
          rw [Bool.true_and]
          rw [Bool.not_true, Bool.false_or, Bool.not_eq_true'] at hb2
          exact hb2
      rw [this]; rfl
    have hlim : limB es w' h = true := by
      unfold limB
      rw [hb, Bool.true_and]
      simpa using hb2
    rw [if_pos hlim]
    simp only [Bool.and_eq_true, decide_eq_true_eq] at hb
    refine q_asg (d := telD (RF es)) (ev_call (ea_cons (ev_var rfl) ea_nil) ⟨es, rfl, okB_okA o3, o4, rfl⟩) ?_
    unfold LF
    cases hr : RF es with
    | some r =>
      obtain ⟨i, wd⟩ := r
      exact q_yes (et_is (et_B (ev_notN (ev_var (d := .tuple [.int i, .str wd]) rfl))) (by rfl)) (st_ret (ev_var (d := .tuple [.int i, .str wd]) rfl) (by rfl))
    | none =>
      refine q_no (et_is (et_B (ev_notN (ev_var (d := .none) rfl))) (by rfl)) ?_
      refine q_for (ei_enumT (ds := bs) (ea_cons (ev_var rfl) ea_nil)) (fun i ρ => (∀ j, j < i → boxBad w' h bs j = none) ∧ ∃ s6 s7 : Sl, ρ = [.fr (.tuple [.tuple es, .int w', .int h, .tuple bs]), .fr (.tuple es), .fr (.int w'), .fr (.int h), .fr (.tuple bs), .fr .none, s6, s7, .no, .no, .no, .no, .no]) ⟨fun j hj => absurd hj (Nat.not_lt_zero _), _, _, rfl⟩ ?_ ?_
      · rintro i ρ hi ⟨hb3, s6, s7, rfl⟩
        refine ⟨_, _, gt_tup rfl (gts_cons gt_name (gts_cons gt_name gts_nil)), ?_⟩
        have hxi := getD_all (z := PyData.none) o5 hi
        refine st_if (b := !boxOk w' h (bs.getD i .none)) (et_not (et_trB (ev_call (ea_cons (ev_var rfl) (ea_cons (ev_var rfl) (ea_cons (ev_var rfl) ea_nil))) ⟨_, w', h, rfl, hxi, rfl⟩))) (fun hq => st_ret (ev_tup (ds := [.int (i : Nat), .str "box"]) (ea_cons (ev_var rfl) (ea_cons ev_str ea_nil)) s2) ?_) fun hq => st_next ⟨fun j hj => ?_, _, _, rfl⟩
        · have e : boxBad w' h bs i = some ("box" : Str) := by unfold boxBad; rw [if_neg (by simpa using hq)]
          rw [firstO_some hi hb3 e]
          show _ = Oc.rt (telD (upI 0 (some (i, "box"))))
          rw [tel_at]
        · by_cases e : j = i
          · rw [e]; unfold boxBad; rw [if_pos (by simpa using hq)]
          · exact hb3 j (by omega)
      rintro ρ ⟨hb3, s6, s7, rfl⟩
      rw [firstO_none hb3]
      obtain ⟨eb, hv⟩ := boxes_eq hb3
      have hlB : (bs.map bxOf).length = bs.length := List.length_map ..
      generalize hB : bs.map bxOf = B at eb hv hlB
      subst eb
      clear hb3 hB o5 o6 o2 hx ep
      rw [List.length_map] at hlB hl
      have hB40 : B.length ≤ 40 := by omega
      rw [List.length_map]
      show ST K E0 _ _ (fun o => o = Oc.rt (telD (orT (upI 0 (firstO (ovlAt B) B.length)) (if areas B < w' * h then some (-1, ("gap" : Str)) else if fourB B = true then some (-1, ("four" : Str)) else none))))
      refine q_for (ei_enumT (ds := B.map bxD) (ea_cons (ev_var rfl) ea_nil)) (fun i ρ => (∀ j, j < i → ovlAt B j = none) ∧ ∃ s6 s7 s8 : Sl, ρ = [.fr (.tuple [.tuple es, .int w', .int h, .tuple (B.map bxD)]), .fr (.tuple es), .fr (.int w'), .fr (.int h), .fr (.tuple (B.map bxD)), .fr .none, s6, s7, s8, .no, .no, .no, .no]) ⟨fun j hj => absurd hj (Nat.not_lt_zero _), _, _, _, rfl⟩ ?_ ?_
      · rintro i ρ hi ⟨hb4, s6, s7, s8, rfl⟩
        refine ⟨_, _, gt_tup rfl (gts_cons gt_name (gts_cons gt_name gts_nil)), ?_⟩
        have hi' : i < B.length := by rw [List.length_map] at hi; exact hi
        rw [getD_bx hi']
        have es2 : EI K (iSeqU K (tSl (rSlU K) (tVar 4) tNoPart (tPart (tVar 6)))) [.fr (.tuple [.tuple es, .int w', .int h, .tuple (B.map bxD)]), .fr (.tuple es), .fr (.int w'), .fr (.int h), .fr (.tuple (B.map bxD)), .fr .none, .fr (.int (i : Nat)), .fr (bxD (bA B i)), s8, .no, .no, .no, .no] i (fun j => bxD (bA B j)) := by
          have e := ei_tup (K := K) (ρ := [.fr (.tuple [.tuple es, .int w', .int h, .tuple (B.map bxD)]), .fr (.tuple es), .fr (.int w'), .fr (.int h), .fr (.tuple (B.map bxD)), .fr .none, .fr (.int (i : Nat)), .fr (bxD (bA B i)), s8, .no, .no, .no, .no]) (ev_slT (tl := tNoPart) (th := tPart (tVar 6)) (ev_var (i := 4) (d := .tuple (B.map bxD)) rfl) eo_none (eo_some (ev_var (d := .int (i : Nat)) rfl)))
          rw [cut_to hi, List.length_take, Nat.min_eq_left (by omega)] at e
          exact ei_mono e fun j hj => by
            rw [List.getD_eq_getElem?_getD, List.getElem?_take, if_pos hj, ← List.getD_eq_getElem?_getD, getD_bx (by omega)]
        refine st_if (b := (List.range i).any fun j => ovl (bA B j) (bA B i)) (et_is (et_trB (ev_cb (ea_cons (ev_N (en_is (en_lc (b := fun _ => true) (f := fun j => .bool (ovl (bA B j) (bA B i))) es2 (by omega) fun j hj => ⟨_, _, gt_name, by simp, et_yes, fun _ => ev_call (ea_cons (ev_var rfl) (ea_cons (ev_var rfl) ea_nil)) ⟨_, _, rfl, rfl⟩⟩) (congrArg PyData.list (lcD_bools i _)))) ea_nil) cd_any)) (by rw [List.any_map]; rfl)) (fun hq => st_ret (ev_tup (ds := [.int (i : Nat), .str "overlap"]) (ea_cons (ev_var rfl) (ea_cons ev_str ea_nil)) s2) ?_) fun hq => st_next ⟨fun j hj => ?_, _, _, _, rfl⟩
        · have e : ovlAt B i = some ("overlap" : Str) := by unfold ovlAt; rw [if_pos hq]
          rw [firstO_some hi' hb4 e]
          show _ = Oc.rt (telD (upI 0 (some (i, "overlap"))))
          rw [tel_at]
        · by_cases e : j = i
          · rw [e]; unfold ovlAt; rw [if_neg (by rw [hq]; exact Bool.false_ne_true)]
          · exact hb4 j (by omega)
      rintro ρ ⟨hb4, s6, s7, s8, rfl⟩
      rw [List.length_map] at hb4
      rw [firstO_none hb4]
      have hbd : ∀ i, i < B.length → (0 ≤ (bA B i).w ∧ (bA B i).w < (bA B i).e ∧ (bA B i).e ≤ w') := fun i hi => by
        have := hv _ (DL.getD_mem (z := zB) hi)
        unfold Pos at this
        exact ⟨this.2.1, this.1.1, this.2.2.1⟩
      simp only [Bool.or_eq_false_iff, Bool.not_eq_false', Bool.and_eq_true, decide_eq_true_eq] at hb2
      refine q_when (b := decide (areas B < w' * h)) (et_test (ev_op (ev_cb (ea_cons (ev_N (en_is (en_lc (b := fun _ => true) (f := fun i => .int (area (bA B i))) (ei_tupB (bs := B) (ev_var rfl)) (by omega) fun i hi => ⟨_, _, gt_bx, by simp, et_yes, fun _ => ?_⟩) (congrArg PyData.list (lcD_areas B)))) ea_nil) cd_sum) (ev_op (ev_var (d := .int w') rfl) (ev_var (d := .int h) rfl) (od_mulI (.inl (by omega)))) od_cmpI)) (fun hq => st_ret ev_fault ?_) fun hq => ?_
      · have := hbd i hi
        exact ev_op (ev_op (ev_var (d := .int (bA B i).e) rfl) (ev_var (d := .int (bA B i).w) rfl) od_sub) (ev_op (ev_var (d := .int (bA B i).n) rfl) (ev_var (d := .int (bA B i).s) rfl) od_sub) (od_mulI (.inl (by omega)))
      · show _ = Oc.rt (telD (if areas B < w' * h then _ else _))
        rw [if_pos (of_decide_eq_true hq)]; rfl
      · show ST K E0 _ _ (fun o => o = Oc.rt (telD (if areas B < w' * h then _ else _)))
        rw [if_neg (of_decide_eq_false hq)]
        refine q_when (b := fourB B) (et_trB (ev_call (ea_cons (ev_var rfl) ea_nil) ⟨B, rfl, hB40, rfl⟩)) (fun hq2 => st_ret ev_fault (by rw [if_pos hq2]; rfl)) fun hq2 => st_ret (d := .none) (by walk_at "ev") (by rw [if_neg (by rw [hq2]; exact Bool.false_ne_true)]; rfl)

theorem plf_none {x : D} (h : PLF x = none) : ∃ es w h bs, x = .tuple [.tuple es, .int w, .int h, .tuple bs] ∧ es.length = bs.length := by
  cases hf : formB x with
  | true => exact form_yes hf
  | false => rw [plf_not hf] at h; cases h
theorem ok_check_plan (T : Txt K mg) (hd : FnP K "check_plan" s_check_plan) (hm : mg "check_plan" = some (.ref (He.ga K "check_plan"))) (O1 : Okd P w K mg base CX0 4 "plan_fault" ["thing"] (sp_plan_fault K)) (X1 : ExOk P w K mg base 1 "BadPlan" ["at", "word"]) : Okd P w K mg base (L2N.CX P w) 5 "check_plan" ["thing"] (sp_check_plan K) := by
  obtain ⟨fd, F⟩ := hd
  refine ⟨hm, fd, fn_pxC F sc_check_plan ?_ ?_ (fun cdv A outer s H E hr => ⟨_, dv_check_plan T O1 X1 cdv A outer s H E hr, ?_, ?_⟩), F.bindsN (fun _ _ _ _ _ _ us hl => match us, hl with | [_], _ => rfl), F.kp⟩
  · rintro ds d ⟨x, rfl, _⟩
    rfl
  · rintro ds C fl ⟨x, i, w, rfl, _⟩
    rfl
  · rintro ds d ⟨x, rfl, hx, hn, rfl⟩
    refine ST.mono (P := fun o => o = .rt (.int (lenR x))) ?_ fun o h => .inl h
    show ST K E (t_check_plan K E) [.fr x, .no] _
    unfold t_check_plan
    refine q_asg (ev_call (R := fun ds d => ∃ x, ds = [x] ∧ okT x = true ∧ d = telD (PLF x)) (by walk_at "ea") ⟨_, rfl, hx, rfl⟩) ?_
    rw [hn]
    refine q_no (et_is (et_B (ev_notN (by walk_at "ev"))) (by rfl)) ?_
    obtain ⟨es, w', h, bs, rfl, _⟩ := plf_none hn
    exact st_ret (ev_cb (ea_cons (ev_op (d := .tuple es) (ev_var rfl) ev_int (od_ixT (atI_nat (j := 0) (by rfl)))) ea_nil) cd_lenT) (by rfl)
  · rintro ds C fl ⟨x, i, wd, rfl, hx, hn, rfl, rfl⟩
    show ST K E (t_check_plan K E) [.fr x, .no] _
    unfold t_check_plan
    refine q_asg (ev_call (R := fun ds d => ∃ x, ds = [x] ∧ okT x = true ∧ d = telD (PLF x)) (by walk_at "ea") ⟨_, rfl, hx, rfl⟩) ?_
    rw [hn]
    refine q_yes (et_is (et_B (ev_notN (by walk_at "ev"))) (by rfl)) ?_
    show ST K E _ [.fr x, .fr (.tuple [.int i, .str wd])] _
    exact st_raiseO (by walk_at "ea") (by rfl) (by show 2 ≤ 1000; decide) (by rfl)

/-! plain: boxes without overlap within w x h have at most w*h cells -/
def sumN : Nat → (Nat → Int) → Int
  | 0, _ => 0
  | n + 1, f => sumN n f + f n
theorem sumN_congr {f g : Nat → Int} : ∀ {n : Nat}, (∀ i, i < n → f i = g i) → sumN n f = sumN n g
  | 0, _ => rfl
  | n + 1, h => by
    unfold sumN
    rw [sumN_congr fun i hi => h i (by omega), h n (by omega)]
theorem sumN_add (f g : Nat → Int) : ∀ n : Nat, sumN n (fun i => f i + g i) = sumN n f + sumN n g
  | 0 => rfl
  | n + 1 => by
    unfold sumN
    rw [sumN_add f g n]
    dsimp only
    omega
theorem sumN_le {f g : Nat → Int} : ∀ {n : Nat}, (∀ i, i < n → f i ≤ g i) → sumN n f ≤ sumN n g
  | 0, _ => Int.le_refl _
  | n + 1, h => by
    unfold sumN
    have := sumN_le (n := n) fun i hi => h i (by omega)
    have := h n (by omega)
    omega
theorem sumN_zero : ∀ n : Nat, sumN n (fun _ => 0) = 0
  | 0 => rfl
  | n + 1 => by
    unfold sumN
    rw [sumN_zero n]
    rfl
theorem sumN_mul (c : Int) (f : Nat → Int) : ∀ n : Nat, sumN n (fun i => f i * c) = sumN n f * c
  | 0 => (Int.zero_mul c).symm
  | n + 1 => by
    unfold sumN
    rw [sumN_mul c f n, Int.add_mul]
theorem sumN_mulL (c : Int) (f : Nat → Int) (n : Nat) : sumN n (fun i => c * f i) = c * sumN n f := by
  rw [sumN_congr (g := fun i => f i * c) fun i _ => Int.mul_comm _ _, sumN_mul, Int.mul_comm]
def ind (a b : Int) (i : Nat) : Int := if a ≤ (i : Int) ∧ (i : Int) < b then 1 else 0
theorem sumN_ind {a b : Int} (h0 : 0 ≤ a) (h1 : a ≤ b) : ∀ n : Nat, sumN n (ind a b) = min b n - min a n
  | 0 => by
    show (0 : Int) = _
    omega
  | n + 1 => by
    unfold sumN ind
    have := sumN_ind h0 h1 n
    unfold ind at this
    rw [this]
    split <;> omega
def cell (b : Bx) (x y : Nat) : Int := ind b.w b.e x * ind b.s b.n y
theorem cells_area {b : Bx} {w h : Nat} (hp : Pos b) (h1 : 0 ≤ b.w) (h2 : b.e ≤ w) (h3 : 0 ≤ b.s) (h4 : b.n ≤ h) : sumN w (fun x => sumN h (fun y => cell b x y)) = area b := by
  unfold Pos at hp
  unfold cell area
  rw [sumN_congr (g := fun x => ind b.w b.e x * (b.n - b.s)) fun x _ => ?_, sumN_mul, sumN_ind h1 (by omega)]
  · congr 1
    omega
  · rw [sumN_mulL, sumN_ind h3 (by omega)]
    congr 1
    omega
def cellsOf (bs : List Bx) (x y : Nat) : Int := (bs.map fun b => cell b x y).sum
theorem cell01 (b : Bx) (x y : Nat) : cell b x y = 0 ∨ (cell b x y = 1 ∧ (b.w ≤ x ∧ (x : Int) < b.e) ∧ b.s ≤ y ∧ (y : Int) < b.n) := by
  unfold cell ind
  split
  · split
    · right
      rename_i p q
      exact ⟨rfl, p, q⟩
    · left; rfl
  · left; exact Int.zero_mul _
theorem cells_zero {b : Bx} {x y : Nat} (hx : b.w ≤ x ∧ (x : Int) < b.e) (hy : b.s ≤ y ∧ (y : Int) < b.n) : ∀ {bs : List Bx}, (∀ a ∈ bs, Dis b a) → cellsOf bs x y = 0
  | [], _ => rfl
  | a :: bs, d1 => by
    have e : cellsOf (a :: bs) x y = cell a x y + cellsOf bs x y := by
      unfold cellsOf
      rw [List.map_cons, List.sum_cons]
    rw [e, cells_zero hx hy fun q hq => d1 q (List.mem_cons_of_mem _ hq)]
    rcases cell01 a x y with c2 | ⟨c2, hx2, hy2⟩
    · omega
    · have := d1 a List.mem_cons_self
      unfold Dis acr alo at this
      omega
theorem cells_le {bs : List Bx} (x y : Nat) (hd : bs.Pairwise Dis) : 0 ≤ cellsOf bs x y ∧ cellsOf bs x y ≤ 1 := by
  induction bs with
  | nil => exact ⟨Int.le_refl _, by show (0 : Int) ≤ 1; decide⟩
  | cons b bs ih =>
    obtain ⟨d1, d2⟩ := List.pairwise_cons.mp hd
    have ih := ih d2
    have e : cellsOf (b :: bs) x y = cell b x y + cellsOf bs x y := by
      unfold cellsOf
      rw [List.map_cons, List.sum_cons]
    rw [e]
    rcases cell01 b x y with c | ⟨c, hx, hy⟩
    · omega
    · have z : cellsOf bs x y = 0 := cells_zero hx hy d1
      omega
theorem sum_cells {bs : List Bx} {w h : Nat} (hb : ∀ b ∈ bs, Pos b ∧ 0 ≤ b.w ∧ b.e ≤ w ∧ 0 ≤ b.s ∧ b.n ≤ h) : areas bs = sumN w (fun x => sumN h (fun y => cellsOf bs x y)) := by
  induction bs with
  | nil =>
    rw [sumN_congr (g := fun _ => 0) fun x _ => ?_, sumN_zero]
    · rfl
    · exact (sumN_congr (g := fun _ => 0) fun y _ => rfl).trans (sumN_zero h)
  | cons b bs ih =>
    rw [areas_cons, ih fun q hq => hb q (List.mem_cons_of_mem _ hq)]
    obtain ⟨p, h1, h2, h3, h4⟩ := hb b List.mem_cons_self
    rw [← cells_area p h1 h2 h3 h4, ← sumN_add]
    refine sumN_congr fun x _ => ?_
    rw [← sumN_add]
    refine sumN_congr fun y _ => ?_
    unfold cellsOf
    rw [List.map_cons, List.sum_cons]
theorem areas_le {bs : List Bx} {w h : Int} (hw : 0 ≤ w) (hh : 0 ≤ h) (hb : ∀ b ∈ bs, Pos b ∧ 0 ≤ b.w ∧ b.e ≤ w ∧ 0 ≤ b.s ∧ b.n ≤ h) (hd : bs.Pairwise Dis) : areas bs ≤ w * h := by
  obtain ⟨w, rfl⟩ := Int.eq_ofNat_of_zero_le hw
  obtain ⟨h, rfl⟩ := Int.eq_ofNat_of_zero_le hh
  rw [sum_cells hb]
  have one : ∀ n : Nat, sumN n (fun _ => 1) = n := fun n => by
    induction n with
    | zero => rfl
    | succ n ih => unfold sumN; rw [ih]; dsimp only; omega
  refine Int.le_trans (sumN_le (g := fun _ => (h : Int)) fun x _ => ?_) ?_
  · refine Int.le_trans (sumN_le (g := fun _ => 1) fun y _ => (cells_le x y hd).2) ?_
    rw [one]
    exact Int.le_refl _
  · have := sumN_mul (h : Int) (fun _ => 1) w
    rw [one] at this
    have e : sumN w (fun _ => (h : Int)) = sumN w (fun _ => 1 * (h : Int)) := sumN_congr fun _ _ => (Int.one_mul _).symm
    rw [e, this]
    exact Int.le_refl _

theorem dis_of {B : List Bx} (h : ∀ j, j < B.length → ovlAt B j = none) : B.Pairwise Dis := by
  rw [List.pairwise_iff_getElem]
  intro i j hi hj hij
  have hn := h j hj
  unfold ovlAt at hn
  split at hn
  · cases hn
  · rename_i hq
    have hq : ((List.range j).any fun k => ovl (bA B k) (bA B j)) = false := by simpa using hq
    rw [List.any_eq_false] at hq
    have hq := hq i (List.mem_range.mpr hij)
    have e : ∀ k (hk : k < B.length), bA B k = B[k] := fun k hk => by
      unfold bA
      rw [List.getD_eq_getElem?_getD, List.getElem?_eq_getElem hk]
      rfl
    rw [e i hi, e j hj] at hq
    unfold ovl at hq
    simp only [Bool.and_eq_true, decide_eq_true_eq] at hq
    unfold Dis acr alo
    omega
theorem dis_to {B : List Bx} (h : B.Pairwise Dis) : ∀ j, j < B.length → ovlAt B j = none := by
  intro j hj
  unfold ovlAt
  rw [if_neg]
  intro e
  obtain ⟨i, hi, q⟩ := List.any_eq_true.mp e
  have hi := List.mem_range.mp hi
  have hd := List.pairwise_iff_getElem.mp h i j (by omega) hj hi
  have e : ∀ k (hk : k < B.length), bA B k = B[k] := fun k hk => by
    unfold bA
    rw [List.getD_eq_getElem?_getD, List.getElem?_eq_getElem hk]
    rfl
  rw [e i (by omega), e j hj] at q
  unfold ovl at q
  simp only [Bool.and_eq_true, decide_eq_true_eq] at q
  unfold Dis acr alo at hd
  omega
/-- the tally tells how often -/
def times (f : Bx → List (Int × Int)) (bs : List Bx) (p : Int × Int) : Nat := ((bs.map f).flatten.filter fun q => decide (q = p)).length
theorem cnt_none {ps : List ((Int × Int) × Int)} {k : Int × Int} (h : (ps.any fun p => decide (p.1 = k)) = false) : ps.find? (fun p => decide (p.1 = k)) = none := by
  rw [List.find?_eq_none]
  rw [List.any_eq_false] at h
  exact h
theorem cnt_bump (ps : List ((Int × Int) × Int)) (k p : Int × Int) : DL.cnt (DL.bump ps k) p = if p = k then DL.cnt ps p + 1 else DL.cnt ps p := by
  unfold DL.bump
  by_cases ha : (ps.any fun q => decide (q.1 = k)) = true
  · rw [if_pos ha]
    have e : (ps.map fun q => if q.1 = k then (q.1, DL.cnt ps k + 1) else q).find? (fun q => decide (q.1 = p)) = (ps.find? fun q => decide (q.1 = p)).map (fun q => if q.1 = k then (q.1, DL.cnt ps k + 1) else q) := by
      rw [List.find?_map]
      congr 1
      congr 1
      funext q
      show decide ((if q.1 = k then (q.1, DL.cnt ps k + 1) else q).1 = p) = _
      split <;> rfl
    show (((ps.map fun q => if q.1 = k then (q.1, DL.cnt ps k + 1) else q).find? (fun q => decide (q.1 = p))).map (·.2)).getD 0 = _
    rw [e]
    cases hf : ps.find? fun q => decide (q.1 = p) with
    | none =>
      have hc : DL.cnt ps p = 0 := by unfold DL.cnt; rw [hf]; rfl
      rw [if_neg, hc]
      · rfl
      · intro e
        rw [e] at hf
        obtain ⟨q, hq, hq2⟩ := List.any_eq_true.mp ha
        have := List.find?_eq_none.mp hf q hq
        exact this hq2
    | some q =>
      have hq : q.1 = p := of_decide_eq_true (List.find?_some (p := fun q : (Int × Int) × Int => decide (q.1 = p)) hf)
      have hc : DL.cnt ps p = q.2 := by unfold DL.cnt; rw [hf]; rfl
      show (if q.1 = k then (q.1, DL.cnt ps k + 1) else q).2 = _
      by_cases e : p = k
      · rw [if_pos e, if_pos (hq.trans e), e]
      · rw [if_neg e, if_neg (fun z => e (hq.symm.trans z)), hc]
  · have ha : (ps.any fun q => decide (q.1 = k)) = false := Bool.eq_false_iff.mpr ha
    rw [if_neg (by rw [ha]; exact Bool.false_ne_true)]
    show (((ps ++ [(k, DL.cnt ps k + 1)]).find? (fun q => decide (q.1 = p))).map (·.2)).getD 0 = _
    rw [List.find?_append]
    by_cases e : p = k
    · rw [if_pos e, e, cnt_none ha]
      simp
    · rw [if_neg e]
      have : [(k, DL.cnt ps k + 1)].find? (fun q => decide (q.1 = p)) = none := by
        rw [List.find?_eq_none]
        intro q hq
        obtain rfl := List.mem_singleton.mp hq
        simpa using fun z => e z.symm
      rw [this, Option.or_none]
      rfl
theorem cnt_fold (ks : List (Int × Int)) (p : Int × Int) : ∀ ps, DL.cnt (ks.foldl DL.bump ps) p = DL.cnt ps p + ((ks.filter fun q => decide (q = p)).length : Int) := by
  induction ks with
  | nil => intro ps; exact (Int.add_zero _).symm
  | cons k ks ih =>
    intro ps
    rw [List.foldl_cons, ih, cnt_bump]
    by_cases e : k = p
    · rw [if_pos e.symm, List.filter_cons_of_pos (by simpa using e), List.length_cons]
      omega
    · rw [if_neg (fun z => e z.symm), List.filter_cons_of_neg (by simpa using e)]

theorem tally_eq (f : Bx → List (Int × Int)) (bs : List Bx) : tally f bs = ((bs.map f).flatten).foldl DL.bump [] := by
  unfold tally
  generalize ([] : List ((Int × Int) × Int)) = ps
  induction bs generalizing ps with
  | nil => rfl
  | cons b bs ih =>
    rw [List.foldl_cons, List.map_cons, List.flatten_cons, List.foldl_append]
    exact ih _
theorem tally_cnt (f : Bx → List (Int × Int)) (bs : List Bx) (p : Int × Int) : DL.cnt (tally f bs) p = (times f bs p : Int) := by
  rw [tally_eq, cnt_fold]
  unfold times
  show (0 : Int) + _ = _
  rw [Int.zero_add]
/-- keys stand once -/
def Uni (ps : List ((Int × Int) × Int)) : Prop := (ps.map (·.1)).Nodup
theorem uni_bump {ps : List ((Int × Int) × Int)} (h : Uni ps) (k : Int × Int) : Uni (DL.bump ps k) := by
  unfold DL.bump Uni at *
  by_cases ha : (ps.any fun q => decide (q.1 = k)) = true
  · rw [if_pos ha, List.map_map]
    have e : ((fun q : (Int × Int) × Int => q.1) ∘ fun q => if q.1 = k then (q.1, DL.cnt ps k + 1) else q) = fun q => q.1 := by
      funext q
      show (if q.1 = k then (q.1, DL.cnt ps k + 1) else q).1 = q.1
      split <;> rfl
    rw [e]
    exact h
  · rw [if_neg ha, List.map_append]
    refine List.nodup_append.mpr ⟨h, by simp, ?_⟩
    rintro a h1 b h2 rfl
    have h2 : a = k := by simpa using h2
    obtain ⟨q, hq, e⟩ := List.mem_map.mp h1
    exact ha (List.any_eq_true.mpr ⟨q, hq, decide_eq_true (e.trans h2)⟩)
theorem uni_fold (ks : List (Int × Int)) : ∀ ps, Uni ps → Uni (ks.foldl DL.bump ps) := by
  induction ks with
  | nil => intro ps h; exact h
  | cons k ks ih => intro ps h; exact ih _ (uni_bump h k)
theorem uni_cnt : ∀ {ps : List ((Int × Int) × Int)}, Uni ps → ∀ q ∈ ps, DL.cnt ps q.1 = q.2
  | p :: ps, h, q, hq => by
    unfold Uni at h
    rw [List.map_cons, List.nodup_cons] at h
    obtain ⟨h1, h2⟩ := h
    unfold DL.cnt
    rcases List.mem_cons.mp hq with rfl | hq
    · rw [List.find?_cons_of_pos (by simp)]
      rfl
    · rw [List.find?_cons_of_neg]
      · exact uni_cnt h2 q hq
      · intro e
        exact h1 (List.mem_map.mpr ⟨q, hq, (of_decide_eq_true e).symm⟩)
theorem tally_mem {f : Bx → List (Int × Int)} {bs : List Bx} {q : (Int × Int) × Int} (h : q ∈ tally f bs) : q.2 = (times f bs q.1 : Int) := by
  have u : Uni (tally f bs) := by
    rw [tally_eq]
    exact uni_fold _ [] List.nodup_nil
  rw [← uni_cnt u q h, tally_cnt]

theorem tally_has {f : Bx → List (Int × Int)} {bs : List Bx} {p : Int × Int} (h : 0 < times f bs p) : (p, (times f bs p : Int)) ∈ tally f bs := by
  have hc := tally_cnt f bs p
  unfold DL.cnt at hc
  cases hf : (tally f bs).find? fun q => decide (q.1 = p) with
  | none =>
    rw [hf] at hc
    have hc : (0 : Int) = (times f bs p : Int) := hc
    omega
  | some q =>
    have hq : q.1 = p := of_decide_eq_true (List.find?_some (p := fun q : (Int × Int) × Int => decide (q.1 = p)) hf)
    have hm := List.mem_of_find?_eq_some hf
    rw [hf] at hc
    have hc : q.2 = (times f bs p : Int) := hc
    have : q = (p, (times f bs p : Int)) := by rw [← hq, ← hq] at *; exact Prod.ext rfl (by first | exact hc | (rw [hq]; exact hc))
    exact this ▸ hm
theorem times_cons (f : Bx → List (Int × Int)) (b : Bx) (bs : List Bx) (p : Int × Int) : times f (b :: bs) p = ((f b).filter fun q => decide (q = p)).length + times f bs p := by
  unfold times
  rw [List.map_cons, List.flatten_cons, List.filter_append, List.length_append]
theorem cor_one (b : Bx) (p : Int × Int) : ((cor b).filter fun q => decide (q = p)).length = ((corL b).filter fun q => decide (q = p)).length := by
  have h : (cor b).Perm (corL b) := by
    unfold cor corL
    refine List.Perm.cons _ ?_
    refine ((List.Perm.swap (b.w, b.n) (b.e, b.n) []).cons (b.e, b.s)).trans ?_
    exact (List.Perm.swap (b.w, b.n) (b.e, b.s) [(b.e, b.n)])
  exact (h.filter _).length_eq
theorem times_same (bs : List Bx) (p : Int × Int) : times cor bs p = times corL bs p := by
  induction bs with
  | nil => rfl
  | cons b bs ih => rw [times_cons, times_cons, ih, cor_one]

def kd (g : Bx → Int × Int) (bs : List Bx) (p : Int × Int) : Nat := (bs.filter fun b => decide (g b = p)).length
theorem kd_cons (g : Bx → Int × Int) (b : Bx) (bs : List Bx) (p : Int × Int) : kd g (b :: bs) p = (if g b = p then 1 else 0) + kd g bs p := by
  unfold kd
  by_cases h : g b = p
  · rw [List.filter_cons_of_pos (by simpa using h), List.length_cons, if_pos h]; omega
  · rw [List.filter_cons_of_neg (by simpa using h), if_neg h]; omega
theorem four_len (a b c d p : Int × Int) : (([a, b, c, d] : List (Int × Int)).filter fun q => decide (q = p)).length = (if a = p then 1 else 0) + ((if b = p then 1 else 0) + ((if c = p then 1 else 0) + (if d = p then 1 else 0))) := by
  have e : ∀ (x : Int × Int) (l : List (Int × Int)), ((x :: l).filter fun q => decide (q = p)).length = (if x = p then 1 else 0) + (l.filter fun q => decide (q = p)).length := fun x l => by
    by_cases h : x = p
    · rw [List.filter_cons_of_pos (by simpa using h), List.length_cons, if_pos h]; omega
    · rw [List.filter_cons_of_neg (by simpa using h), if_neg h]; omega
  rw [e, e, e, e]
  rfl
theorem times_kd (bs : List Bx) (p : Int × Int) : times corL bs p = kd (fun b => (b.w, b.s)) bs p + (kd (fun b => (b.w, b.n)) bs p + (kd (fun b => (b.e, b.s)) bs p + kd (fun b => (b.e, b.n)) bs p)) := by
  induction bs with
  | nil => rfl
  | cons b bs ih =>
    rw [times_cons, kd_cons, kd_cons, kd_cons, kd_cons, ih]
    unfold corL
    rw [four_len]
    omega
theorem kd_pos {g : Bx → Int × Int} {bs : List Bx} {p : Int × Int} (h : 0 < kd g bs p) : ∃ b ∈ bs, g b = p := by
  unfold kd at h
  obtain ⟨b, hb⟩ := List.exists_mem_of_length_pos h
  obtain ⟨h1, h2⟩ := List.mem_filter.mp hb
  exact ⟨b, h1, of_decide_eq_true h2⟩
theorem kd_one {g : Bx → Int × Int} {p : Int × Int} (hg : ∀ a b, Pos a → Pos b → g a = p → g b = p → ¬ Dis a b) : ∀ {bs : List Bx}, (∀ b ∈ bs, Pos b) → bs.Pairwise Dis → kd g bs p ≤ 1
  | [], _, _ => Nat.zero_le _
  | b :: bs, hp, hd => by
    obtain ⟨d1, d2⟩ := List.pairwise_cons.mp hd
    have ih := kd_one hg (fun c hc => hp c (List.mem_cons_of_mem _ hc)) d2
    rw [kd_cons]
    by_cases h : g b = p
    · rw [if_pos h]
      have : kd g bs p = 0 := by
        refine Classical.byContradiction fun hn => ?_
        obtain ⟨c, hc, e⟩ := kd_pos (show 0 < kd g bs p by omega)
        exact hg b c (hp b List.mem_cons_self) (hp c (List.mem_cons_of_mem _ hc)) h e (d1 c hc)
      omega
    · rw [if_neg h]
      omega
theorem kinds_one {bs : List Bx} {p : Int × Int} (hp : ∀ b ∈ bs, Pos b) (hd : bs.Pairwise Dis) : (kd (fun b => (b.w, b.s)) bs p ≤ 1 ∧ kd (fun b => (b.w, b.n)) bs p ≤ 1) ∧ kd (fun b => (b.e, b.s)) bs p ≤ 1 ∧ kd (fun b => (b.e, b.n)) bs p ≤ 1 := by
  refine ⟨⟨kd_one ?_ hp hd, kd_one ?_ hp hd⟩, kd_one ?_ hp hd, kd_one ?_ hp hd⟩ <;>
  · rintro a b h1 h2 rfl e h
    injection e with e1 e2
    unfold Pos at h1 h2
    unfold Dis acr alo at h
    omega
theorem times_four {bs : List Bx} {p : Int × Int} (hp : ∀ b ∈ bs, Pos b) (hd : bs.Pairwise Dis) : times corL bs p ≤ 4 := by
  have := kinds_one (p := p) hp hd
  rw [times_kd]
  omega
theorem times_three {bs : List Bx} {p : Int × Int} (hp : ∀ b ∈ bs, Pos b) (hd : bs.Pairwise Dis) (hdi : ∀ a ∈ bs, ∀ b ∈ bs, Dia a b) : times corL bs p ≤ 3 := by
  have k := kinds_one (p := p) hp hd
  rw [times_kd]
  refine Classical.byContradiction fun hn => ?_
  obtain ⟨a, ha, e1⟩ := kd_pos (g := fun b => (b.e, b.n)) (bs := bs) (p := p) (by omega)
  obtain ⟨b, hb, e2⟩ := kd_pos (g := fun b => (b.w, b.s)) (bs := bs) (p := p) (by omega)
  have e := e1.trans e2.symm
  injection e with q1 q2
  exact hdi a ha b hb ⟨q1, q2⟩
/-- the program's and the law's question about four are one -/
theorem four_iff {bs : List Bx} (hp : ∀ b ∈ bs, Pos b) (hd : bs.Pairwise Dis) : fourB bs = (tally corL bs).any fun q => decide (q.2 > 3) := by
  unfold fourB
  rw [Bool.eq_iff_iff, List.any_eq_true, List.any_eq_true]
  constructor
  · rintro ⟨q, hq, e⟩
    have e := of_decide_eq_true e
    have t := tally_mem hq
    rw [times_same] at t
    exact ⟨_, tally_has (f := corL) (p := q.1) (by omega), decide_eq_true (by show (times corL bs q.1 : Int) > 3; omega)⟩
  · rintro ⟨q, hq, e⟩
    have e := of_decide_eq_true e
    have t := tally_mem hq
    have := times_four (p := q.1) hp hd
    rw [← times_same] at t this
    exact ⟨_, tally_has (f := cor) (p := q.1) (by omega), decide_eq_true (by show (times cor bs q.1 : Int) = 4; omega)⟩

theorem four_no {bs : List Bx} (hp : ∀ b ∈ bs, Pos b) (hd : bs.Pairwise Dis) (hdi : ∀ a ∈ bs, ∀ b ∈ bs, Dia a b) : fourB bs = false := by
  rw [four_iff hp hd, Bool.eq_false_iff]
  intro h
  obtain ⟨q, hq, e⟩ := List.any_eq_true.mp h
  have e := of_decide_eq_true e
  have t := tally_mem hq
  have := times_three (p := q.1) hp hd hdi
  omega
/-- a right name is told no fault -/
theorem name_ok {z : Str} (h : Name z) : isNoneD (nfD (.str z)) = true := by
  obtain ⟨⟨c, r, e, hc, hr⟩, hl⟩ := h
  have hsz : z.cps.size = r.length + 1 := by
    have := congrArg List.length e
    rw [Array.length_toList] at this
    exact this
  have hlen : lenOk z = true := by
    unfold lenOk
    rw [Bool.and_eq_true]
    have e2 : z.length = z.cps.size := rfl
    exact ⟨decide_eq_true (by omega), decide_eq_true (by omega)⟩
  refine nf_none hlen (firstP_none fun j hj => ?_)
  unfold badAt
  have hg : z.cps.getD j 0 = (c :: r).getD j 0 := by
    rw [← e, Array.getD_eq_getD_getElem?, List.getD_eq_getElem?_getD, Array.getElem?_toList]
  rw [hg]
  cases j with
  | zero =>
    show (!decide (c ∈ sL.cps.toList) && _) = false
    rw [decide_eq_true (show c ∈ sL.cps.toList from hc)]
    rfl
  | succ j =>
    have hj2 : j < r.length := by omega
    have hm : (c :: r).getD (j + 1) 0 ∈ r := by
      rw [List.getD_cons_succ]
      exact DL.getD_mem hj2
    rcases hr _ hm with q | q
    · rw [decide_eq_true (show (c :: r).getD (j + 1) 0 ∈ sL.cps.toList from q)]
      rfl
    · rw [decide_eq_true (show (c :: r).getD (j + 1) 0 ∈ sF.cps.toList from q)]
      have : decide (((j + 1 : Nat) : Int) = 0) = false := decide_eq_false (by omega)
      rw [this]
      simp

theorem strD_at {rs : List Str} {i : Nat} (h : i < rs.length) : (rs.map PyData.str).getD i .none = .str (rA rs i) := getD_str h
theorem rooms_none {rs : List Str} {bs : List Bx} (V : VP rs bs) : RF (rs.map PyData.str) = none := by
  unfold RF
  rw [firstO_none]
  · rfl
  intro i hi
  rw [List.length_map] at hi
  unfold roomBad
  rw [strD_at hi, if_pos (name_ok (z := rA rs i) (V.names _ (DL.getD_mem hi)))]
  by_cases h0 : i = 0
  · rw [if_neg]
    rw [h0]
    simp
  · rw [strD_at (show i - 1 < rs.length by omega), if_neg]
    have lt : ltD (.str (rA rs (i - 1))) (.str (rA rs i)) = true := by
      have := List.pairwise_iff_getElem.mp V.up (i - 1) i (by omega) hi (by omega)
      show ltS (rA rs (i - 1)) (rA rs i) = true
      unfold rA
      rw [List.getD_eq_getElem?_getD, List.getD_eq_getElem?_getD, List.getElem?_eq_getElem (by omega), List.getElem?_eq_getElem hi]
      exact this
    rw [lt]
    simp
theorem bxOf_bxD (b : Bx) : bxOf (bxD b) = b := rfl
theorem map_bxOf (bs : List Bx) : (bs.map bxD).map bxOf = bs := by
  rw [List.map_map]
  conv => rhs; rw [← List.map_id bs]
  exact List.map_congr_left fun b _ => rfl
/-- the drawn strict plan is right -/
theorem plan_right {rs : List Str} {w h : Int} {bs : List Bx} (V : VP rs bs) (C : Cut 40 w h true bs) (hw : 1 ≤ w ∧ w ≤ 10000) (hh : 1 ≤ h ∧ h ≤ 10000) : PLF (plD rs w h bs) = none := by
  unfold plD
  show (if (rs.map PyData.str).length = (bs.map bxD).length then _ else _) = _
  rw [if_pos (by rw [List.length_map, List.length_map]; exact V.len)]
  have hl := V.len
  have h1 := C.lo
  have h2 := C.hi
  have hlim : limB (rs.map PyData.str) w h = true := by
    unfold limB
    simp only [List.length_map, Bool.and_eq_true, decide_eq_true_eq]
    omega
  rw [if_pos hlim]
  unfold LF
  rw [rooms_none V, map_bxOf, firstO_none (f := boxBad w h (bs.map bxD)) ?_, List.length_map, firstO_none (dis_to C.dis)]
  · show (if areas bs < w * h then _ else if fourB bs = true then _ else _) = none
    rw [if_neg (by rw [C.sum]; omega), if_neg]
    rw [four_no (fun b hb => (C.ok b hb).1) C.dis (C.dia rfl)]
    exact Bool.false_ne_true
  · intro i hi
    rw [List.length_map] at hi
    unfold boxBad
    rw [getD_bx hi, if_pos]
    obtain ⟨p, q1, q2, q3, q4⟩ := C.ok _ (DL.getD_mem (z := zB) hi)
    show boxOk w h (bxD (bA bs i)) = true
    unfold bxD
    rw [box_int]
    unfold Pos at p
    simp only [Bool.and_eq_true, decide_eq_true_eq]
    change 0 ≤ (bA bs i).w at q1
    change (bA bs i).e ≤ w at q2
    change 0 ≤ (bA bs i).s at q3
    change (bA bs i).n ≤ h at q4
    change (bA bs i).w < (bA bs i).e ∧ (bA bs i).s < (bA bs i).n at p
    omega

theorem ok_u_law_put (T : Txt K mg) (hd : FnP K "_law_put" s_u_law_put) (hm : mg "_law_put" = some (.ref (He.ga K "_law_put")))  : Okd P w K mg base CX0 1 "_law_put" ["row", "at", "thing"] (sp_u_law_put K) := by
  obtain ⟨fd, F⟩ := hd
  refine ⟨hm, fd, fn_pf F sc_u_law_put ?_ (fun cdv A outer s H E hr => ⟨_, dv_u_law_put T  cdv A outer s H E hr, ?_⟩), F.bindsN (fun _ _ _ _ _ _ us hl => match us, hl with | [_, _, _], _ => rfl), F.kp⟩
  · rintro ds d ⟨x0, x1, x2, rfl, _⟩
    rfl
  · rintro ds d ⟨es, k, x, rfl, hk, hl, rfl⟩
    refine ST.mono (P := fun o => o = .rt (.tuple (es.take k ++ [x] ++ es.drop (k + 1)))) ?_ fun o h => .inl h
    show ST K E0 (t_u_law_put K) [.fr (.tuple es), .fr (.int (k : Int)), .fr x] _
    unfold t_u_law_put
    refine st_ret (ev_op (d1 := .tuple (es.take k ++ [x])) (d2 := .tuple (es.drop (k + 1))) (ev_op (d1 := .tuple (es.take k)) (d2 := .tuple [x]) (ev_is (ev_slT (ev_var (d := .tuple es) rfl) eo_none (eo_some (ev_var (d := .int (k : Nat)) rfl))) (congrArg PyData.tuple (cut_to hk))) (ev_tup (ea_cons (ev_var rfl) ea_nil) (by show 1 ≤ sizeLine; rw [sizeLine_eq]; omega)) (od_addT ?_)) (ev_is (ev_slT (ev_var (d := .tuple es) rfl) (eo_some (ev_op (ev_var (d := .int (k : Nat)) rfl) ev_int od_addI)) eo_none) (congrArg PyData.tuple (cut_from hk))) (od_addT ?_)) (by rfl)
    · rw [List.length_take, sizeLine_eq]
      show min k es.length + 1 ≤ _
      omega
    · rw [List.length_append, List.length_take, List.length_drop, sizeLine_eq]
      show min k es.length + 1 + _ ≤ _
      omega

theorem at_tD {ds : List D} {i : Nat} (h : i < ds.length) : atI ds ((i : Nat) : Int) = some (ds.getD i .none) := at_self h
theorem due_some {x : D} {i : Int} {w : Str} (h : PLF x = some (i, w)) : dueD x = .tuple [.int i, .str w] := by
  unfold dueD
  rw [h]
theorem due_none {x : D} (h : PLF x = none) : dueD x = .int (lenR x) := by
  unfold dueD
  rw [h]
theorem cK_keys (ps : List ((Int × Int) × Int)) : (cK ps).map (·.1) = ps.map fun p => kI p.1 := by
  unfold cK
  rw [List.map_map]
  rfl
theorem cK_at {ps : List ((Int × Int) × Int)} (u : Uni ps) {i : Nat} (h : i < ps.length) : getG (cK ps) (kI (ps.getD i ((0, 0), 0)).1) = some (.int (ps.getD i ((0, 0), 0)).2) := by
  rw [cK_get]
  have hm : ps.getD i ((0, 0), 0) ∈ ps := DL.getD_mem h
  have hc := uni_cnt u _ hm
  generalize ps.getD i ((0, 0), 0) = q at hm hc
  unfold DL.cnt at hc
  cases hf : ps.find? fun p => decide (p.1 = q.1) with
  | none => exact absurd (decide_eq_true rfl) (List.find?_eq_none.mp hf q hm)
  | some p =>
    rw [hf] at hc
    have hc : p.2 = q.2 := hc
    show some (PyData.int p.2) = _
    rw [hc]
theorem tally_uni (f : Bx → List (Int × Int)) (bs : List Bx) : Uni (tally f bs) := by
  rw [tally_eq]
  exact uni_fold _ [] List.nodup_nil
theorem areas_take {B : List Bx} {i : Nat} (h : i < B.length) : areas (B.take (i + 1)) = areas (B.take i) + area (bA B i) := by
  rw [List.take_succ_eq_append_getElem h, areas_app, areas_cons, areas_nil]
  unfold bA
  rw [List.getD_eq_getElem?_getD, List.getElem?_eq_getElem h]
  show _ = _ + area B[i]
  omega

theorem ok_u_law_due (T : Txt K mg) (hd : FnP K "_law_due" s_u_law_due) (hm : mg "_law_due" = some (.ref (He.ga K "_law_due"))) (O_u_law_form : Okd P w K mg base CX0 2 "_law_form" ["thing"] (sp_u_law_form K)) (O_u_law_name : Okd P w K mg base CX0 1 "_law_name" ["thing"] (sp_u_law_name K)) (O_u_law_box : Okd P w K mg base CX0 2 "_law_box" ["box", "wide", "high"] (sp_u_law_box K)) : Okd P w K mg base CX0 3 "_law_due" ["thing"] (sp_u_law_due K) := by
  obtain ⟨fd, F⟩ := hd
  refine ⟨hm, fd, fn_pf F sc_u_law_due ?_ (fun cdv A outer s H E hr => ⟨_, dv_u_law_due T O_u_law_form O_u_law_name O_u_law_box cdv A outer s H E hr, ?_⟩), F.bindsN (fun _ _ _ _ _ _ us hl => match us, hl with | [_], _ => rfl), F.kp⟩
  · rintro ds d ⟨x0, rfl, _⟩
    rfl
  · rintro ds d ⟨x, rfl, hx, rfl⟩
    refine ST.mono (P := fun o => o = .rt (dueD x)) ?_ fun o h => .inl h
    show ST K E0 (t_u_law_due K) [.fr x, .no, .no, .no, .no, .no, .no, .no, .no, .no, .no, .no, .no, .no, .no, .no, .no, .no] _
    unfold t_u_law_due sp_u_law_form sp_u_law_name sp_u_law_box
    refine q_when (b := !formB x) (et_not (et_trB (ev_call (ea_cons (ev_var rfl) ea_nil) ⟨x, rfl, hx, rfl⟩))) (fun hb => st_ret ev_fault (by rw [due_some (plf_not (by simpa using hb))]; rfl)) fun hb => ?_
    obtain ⟨es, w', h, bs, rfl, hl⟩ := form_yes (x := x) (by simpa using hb)
    clear hb
    obtain ⟨⟨o1, _⟩, _, o2⟩ := okT4 hx
    obtain ⟨o3, o4⟩ := okC_es o1
    obtain ⟨o5, o6⟩ := okC_es o2
    refine q_asgG (ev_var rfl) (gt_tup rfl (gts_cons gt_name (gts_cons gt_name (gts_cons gt_name (gts_cons gt_name gts_nil))))) ?_
    have ep : PLF (.tuple [.tuple es, .int w', .int h, .tuple bs]) = if limB es w' h = true then LF es w' h bs else some (-1, ("limit" : Str)) := by
      show (if es.length = bs.length then _ else _) = _
      rw [if_pos hl]
    refine q_when (b := !limB es w' h) (et_is (et_or (et_not (et_test (ev_chain ev_int (ev_cb (ea_cons (ev_var (d := .tuple es) rfl) ea_nil) cd_lenT) od_cmpI (fun _ => ev_int) (fun _ => od_cmpI)))) fun _ => et_or (et_not (et_test (ev_chain ev_int (ev_var (d := .int w') rfl) od_cmpI (fun _ => ev_int) (fun _ => od_cmpI)))) fun _ => et_not (et_test (ev_chain ev_int (ev_var (d := .int h) rfl) od_cmpI (fun _ => ev_int) (fun _ => od_cmpI)))) (by unfold limB; simp only [Bool.not_and])) (fun hb => st_ret ev_fault ?_) fun hb => ?_
    · rw [due_some (i := -1) (w := "limit") (by rw [ep, if_neg (by simpa using hb)])]
      rfl
    rw [Bool.not_eq_false'] at hb
    rw [if_pos hb] at ep
    have hb0 := hb
    unfold limB at hb0
    simp only [Bool.and_eq_true, decide_eq_true_eq] at hb0
    have oA := okB_okA o3
    have lenE : ∀ ρ : List Sl, ρ[1]? = some (.fr (.tuple es)) → EV K (tCB (rLen K) (tCons (tVar 1) tNil)) ρ (.int ((es.length : Nat) : Int)) := fun ρ h1 => ev_cb (ea_cons (ev_var h1) ea_nil) cd_lenT
    -- names
    refine q_for (ei_rng1 (ea_cons (lenE _ rfl) ea_nil) (by omega) (by omega)) (fun i ρ => (∀ j, j < i → roomBad es j = none) ∧ ∃ s5 : Sl, ρ = [.fr (.tuple [.tuple es, .int w', .int h, .tuple bs]), .fr (.tuple es), .fr (.int w'), .fr (.int h), .fr (.tuple bs), s5, .no, .no, .no, .no, .no, .no, .no, .no, .no, .no, .no, .no]) ⟨fun j hj => absurd hj (Nat.not_lt_zero _), _, rfl⟩ ?_ ?_
    · rintro i ρ hi ⟨hb3, s5, rfl⟩
      refine ⟨_, _, gt_name, ?_⟩
      have hi : i < es.length := by omega
      have hxi := getD_all (z := PyData.none) oA hi
      have R : ∀ ρ : List Sl, ρ[1]? = some (.fr (.tuple es)) → ρ[5]? = some (.fr (.int ((i : Nat) : Int))) → EV K (tOp (rIx K) (tVar 1) (tVar 5)) ρ (es.getD i .none) := fun ρ a b => ev_op (ev_var a) (ev_var b) (od_ixT (at_tD hi))
      refine q_when (b := !isNoneD (nfD (es.getD i .none))) (et_not (et_trB (ev_call (ea_cons (R _ rfl rfl) ea_nil) ⟨_, rfl, hxi, rfl⟩))) (fun hq => st_ret (ev_tup (ds := [.int (i : Nat), .str "name"]) (ea_cons (ev_var rfl) (ea_cons ev_str ea_nil)) s2) ?_) fun hq => ?_
      · have e : roomBad es i = some ("name" : Str) := by unfold roomBad; rw [if_neg (by simpa using hq)]
        have er : RF es = some (((i : Nat) : Int), ("name" : Str)) := by unfold RF; rw [firstO_some hi hb3 e]; simp [upI]
        rw [due_some (by rw [ep]; unfold LF; rw [er]; rfl)]
        rfl
      · obtain ⟨z, ez⟩ := nf_str (x := es.getD i .none) (by simpa using hq)
        refine st_if (b := decide ((i : Int) > 0) && !ltD (es.getD (i - 1) .none) (es.getD i .none)) (et_and (et_test (ev_op (ev_var (d := .int (i : Nat)) rfl) ev_int od_cmpI)) fun h0 => ?_) (fun hq2 => st_ret (ev_tup (ds := [.int (i : Nat), .str "order"]) (ea_cons (ev_var rfl) (ea_cons ev_str ea_nil)) s2) ?_) fun hq2 => st_next ⟨fun j hj => ?_, _, rfl⟩
        · have h0 : (i : Int) > 0 := of_decide_eq_true h0
          obtain ⟨y, ey⟩ := nf_str (room_ok (hb3 (i - 1) (by omega))).1
          have R1 := R [.fr (.tuple [.tuple es, .int w', .int h, .tuple bs]), .fr (.tuple es), .fr (.int w'), .fr (.int h), .fr (.tuple bs), .fr (.int (i : Nat)), .no, .no, .no, .no, .no, .no, .no, .no, .no, .no, .no, .no] rfl rfl
          rw [ez] at R1
          rw [ez, ey]
          exact et_not (et_test (ev_op (ev_op (ev_var (d := .tuple es) rfl) (ev_op (ev_var (d := .int (i : Nat)) rfl) ev_int od_sub) (od_ixT ((at_pred h0 hi).trans (congrArg some ey)))) R1 od_cmpS))
        · have e : roomBad es i = some ("order" : Str) := by unfold roomBad; rw [if_pos (by simpa using hq), if_pos hq2]
          have er : RF es = some (((i : Nat) : Int), ("order" : Str)) := by unfold RF; rw [firstO_some hi hb3 e]; simp [upI]
          rw [due_some (by rw [ep]; unfold LF; rw [er]; rfl)]
          rfl
        · by_cases e : j = i
          · rw [e]
            unfold roomBad
            rw [if_pos (by simpa using hq), if_neg (by rw [hq2]; exact Bool.false_ne_true)]
          · exact hb3 j (by omega)
    rintro ρ ⟨hb3, s5, rfl⟩
    have er : RF es = none := by unfold RF; rw [firstO_none fun j hj => hb3 j (by omega)]; rfl
    -- boxes
    refine q_for (ei_rng1 (ea_cons (lenE _ rfl) ea_nil) (by omega) (by omega)) (fun i ρ => (∀ j, j < i → boxBad w' h bs j = none) ∧ ∃ s5 : Sl, ρ = [.fr (.tuple [.tuple es, .int w', .int h, .tuple bs]), .fr (.tuple es), .fr (.int w'), .fr (.int h), .fr (.tuple bs), s5, .no, .no, .no, .no, .no, .no, .no, .no, .no, .no, .no, .no]) ⟨fun j hj => absurd hj (Nat.not_lt_zero _), _, rfl⟩ ?_ ?_
    · rintro i ρ hi ⟨hb4, s5, rfl⟩
      refine ⟨_, _, gt_name, ?_⟩
      have hi : i < bs.length := by omega
      have hxi := getD_all (z := PyData.none) o5 hi
      refine st_if (b := !boxOk w' h (bs.getD i .none)) (et_not (et_trB (ev_call (ea_cons (ev_op (d := bs.getD i .none) (ev_var (d := .tuple bs) rfl) (ev_var (d := .int (i : Nat)) rfl) (od_ixT (at_tD hi))) (ea_cons (ev_var rfl) (ea_cons (ev_var rfl) ea_nil))) ⟨_, w', h, rfl, hxi, rfl⟩))) (fun hq => st_ret (ev_tup (ds := [.int (i : Nat), .str "box"]) (ea_cons (ev_var rfl) (ea_cons ev_str ea_nil)) s2) ?_) fun hq => st_next ⟨fun j hj => ?_, _, rfl⟩
      · have e : boxBad w' h bs i = some ("box" : Str) := by unfold boxBad; rw [if_neg (by simpa using hq)]
        have e2 : upI 0 (firstO (boxBad w' h bs) bs.length) = some (((i : Nat) : Int), ("box" : Str)) := by rw [firstO_some hi hb4 e]; simp [upI]
        rw [due_some (by rw [ep]; unfold LF; rw [er, e2]; rfl)]
        rfl
      · by_cases e : j = i
        · rw [e]; unfold boxBad; rw [if_pos (by simpa using hq)]
        · exact hb4 j (by omega)
    rintro ρ ⟨hb4, s5, rfl⟩
    have hb4 : ∀ j, j < bs.length → boxBad w' h bs j = none := fun j hj => hb4 j (by omega)
    have e2 : upI 0 (firstO (boxBad w' h bs) bs.length) = none := by rw [firstO_none hb4]; rfl
    obtain ⟨eb, hv⟩ := boxes_eq hb4
    have hlB : (bs.map bxOf).length = bs.length := List.length_map ..
    have ep2 : PLF (.tuple [.tuple es, .int w', .int h, .tuple bs]) = orT (upI 0 (firstO (ovlAt (bs.map bxOf)) bs.length)) (if areas (bs.map bxOf) < w' * h then some (-1, ("gap" : Str)) else if fourB (bs.map bxOf) = true then some (-1, ("four" : Str)) else none) := by
      rw [ep]; unfold LF; rw [er, e2]; rfl
    generalize hB : bs.map bxOf = B at eb hv hlB ep2
    subst eb
    clear hb4 hB o5 o6 o2 hx ep e2 hb3
    rw [List.length_map] at hlB hl ep2
    have hB40 : B.length ≤ 40 := by omega
    have boxAt : ∀ (ρ : List Sl) (n k : Nat), k < B.length → ρ[4]? = some (.fr (.tuple (B.map bxD))) → ρ[n]? = some (.fr (.int (k : Int))) → EV K (tOp (rIx K) (tVar 4) (tVar n)) ρ (bxD (bA B k)) := fun ρ n k hk h1 h2 => ev_op (ev_var h1) (ev_var h2) (od_ixT (by
      have := at_tD (ds := B.map bxD) (i := k) (by rw [List.length_map]; exact hk)
      rw [getD_bx hk] at this
      exact this))
    generalize hx0 : (PyData.tuple [.tuple es, .int w', .int h, .tuple (B.map bxD)] : D) = x0 at ep2
    refine q_asg (d := .int 0) ev_int ?_
    refine q_asgN (d := dtD []) en_dnewT ?_
    refine q_for (ei_rng1 (ea_cons (lenE _ rfl) ea_nil) (by omega) (by omega)) (fun k ρ => (∀ j, j < k → ovlAt B j = none) ∧ ∃ s5 s8 s9 s10 s11 s12 s13 s14 s15 s16 s17 : Sl, ρ = [.fr x0, .fr (.tuple es), .fr (.int w'), .fr (.int h), .fr (.tuple (B.map bxD)), s5, .fr (.int (areas (B.take k))), .ow (dtD (cK (tally corL (B.take k)))), s8, s9, s10, s11, s12, s13, s14, s15, s16, s17]) ⟨fun j hj => absurd hj (Nat.not_lt_zero _), _, _, _, _, _, _, _, _, _, _, _, rfl⟩ ?_ ?_
    · rintro k ρ hk ⟨hno, s5, s8, s9, s10, s11, s12, s13, s14, s15, s16, s17, rfl⟩
      refine ⟨_, _, gt_name, ?_⟩
      have hk : k < B.length := by omega
      refine q_asgG (d := bxD (bA B k)) (boxAt _ 5 k hk rfl rfl) gt_bx ?_
      have bd := hv _ (DL.getD_mem (z := zB) hk)
      change Pos (bA B k) ∧ 0 ≤ (bA B k).w ∧ (bA B k).e ≤ w' ∧ 0 ≤ (bA B k).s ∧ (bA B k).n ≤ h at bd
      generalize ha : bA B k = a at bd
      refine q_augI (n := 6) (a := areas (B.take k)) (b := area a) rfl (ev_op (ev_op (ev_var (d := .int a.e) rfl) (ev_var (d := .int a.w) rfl) od_sub) (ev_op (ev_var (d := .int a.n) rfl) (ev_var (d := .int a.s) rfl) od_sub) (od_mulI (.inl (by have := bd.1; unfold Pos at this; omega)))) ?_
      have ea : areas (B.take k) + area a = areas (B.take (k + 1)) := by rw [areas_take hk, ha]
      rw [ea]
      refine q_for (ei_rng1 (ea_cons (ev_var (d := .int (k : Nat)) rfl) ea_nil) (by omega) (by omega)) (fun j ρ => (∀ i, i < j → ovl (bA B i) a = false) ∧ ∃ s12 s13 s14 s15 s16 : Sl, ρ = [.fr x0, .fr (.tuple es), .fr (.int w'), .fr (.int h), .fr (.tuple (B.map bxD)), .fr (.int (k : Nat)), .fr (.int (areas (B.take (k + 1)))), .ow (dtD (cK (tally corL (B.take k)))), .fr (.int a.w), .fr (.int a.s), .fr (.int a.e), .fr (.int a.n), s12, s13, s14, s15, s16, s17]) ⟨fun j hj => absurd hj (Nat.not_lt_zero _), _, _, _, _, _, rfl⟩ ?_ ?_
      · rintro j ρ hj ⟨hnj, s12, s13, s14, s15, s16, rfl⟩
        refine ⟨_, _, gt_name, ?_⟩
        have hj : j < k := by omega
        refine q_asgG (d := bxD (bA B j)) (boxAt _ 12 j (by omega) rfl rfl) gt_bx ?_
        generalize hb : bA B j = b
        refine st_if (b := ovl b a) (et_is (et_and (et_test (ev_op (ev_cb (ea_cons (ev_var (d := .int a.e) rfl) (ea_cons (ev_var (d := .int b.e) rfl) ea_nil)) cd_min) (ev_cb (ea_cons (ev_var (d := .int a.w) rfl) (ea_cons (ev_var (d := .int b.w) rfl) ea_nil)) cd_max) od_cmpI)) fun _ => et_test (ev_op (ev_cb (ea_cons (ev_var (d := .int a.n) rfl) (ea_cons (ev_var (d := .int b.n) rfl) ea_nil)) cd_min) (ev_cb (ea_cons (ev_var (d := .int a.s) rfl) (ea_cons (ev_var (d := .int b.s) rfl) ea_nil)) cd_max) od_cmpI)) ?_) (fun hq => st_ret (ev_tup (ds := [.int (k : Nat), .str "overlap"]) (ea_cons (ev_var rfl) (ea_cons ev_str ea_nil)) s2) ?_) fun hq => st_next ⟨fun i hi => ?_, _, _, _, _, _, rfl⟩
        · unfold ovl
          rw [Bool.eq_iff_iff]
          simp only [Bool.and_eq_true, decide_eq_true_eq]
          omega
        · have e : ovlAt B k = some ("overlap" : Str) := by
            unfold ovlAt
            rw [if_pos (List.any_eq_true.mpr ⟨j, List.mem_range.mpr hj, by rw [hb, ha]; exact hq⟩)]
          have e2 : upI 0 (firstO (ovlAt B) B.length) = some (((k : Nat) : Int), ("overlap" : Str)) := by rw [firstO_some hk hno e]; simp [upI]
          rw [due_some (by rw [ep2, e2]; rfl)]
          rfl
        · by_cases e : i = j
          · rw [e, hb]; exact hq
          · exact hnj i (by omega)
      · rintro ρ ⟨hnj, s12, s13, s14, s15, s16, rfl⟩
        have tl := tally_len (f := corL) (fun _ => rfl) B k (by omega)
        refine st_bumps (n := 7) (i := 17) (ks := corL a) rfl (by decide) (by show 17 < 18; decide) (eik_lst (eat_cons (evt_pt (ev_var (d := .int a.w) rfl) (ev_var (d := .int a.s) rfl)) (eat_cons (evt_pt (ev_var (d := .int a.w) rfl) (ev_var (d := .int a.n) rfl)) (eat_cons (evt_pt (ev_var (d := .int a.e) rfl) (ev_var (d := .int a.s) rfl)) (eat_cons (evt_pt (ev_var (d := .int a.e) rfl) (ev_var (d := .int a.n) rfl)) eat_nil)))) (by show 4 ≤ sizeLine; exact s4)) ?_ fun s => ⟨fun j hj => ?_, .fr (.int (k : Nat)), .fr (.int a.w), .fr (.int a.s), .fr (.int a.e), .fr (.int a.n), s12, s13, s14, s15, s16, s, ?_⟩
        · have : (corL a).length = 4 := rfl
          omega
        · by_cases e : j = k
          · rw [e]
            unfold ovlAt
            rw [if_neg]
            intro z
            obtain ⟨i, hi, q⟩ := List.any_eq_true.mp z
            have hi := List.mem_range.mp hi
            rw [ha, hnj i (by omega)] at q
            cases q
          · exact hno j (by omega)
        · rw [tally_take hk, ha]
          rfl
    rintro ρ ⟨hno, s5, s8, s9, s10, s11, s12, s13, s14, s15, s16, s17, rfl⟩
    have hee : (es.length : Int).toNat = B.length := by omega
    rw [hee, List.take_of_length_le (Nat.le_refl _)]
    rw [hee] at hno
    have hd := dis_of hno
    have e3 : upI 0 (firstO (ovlAt B) B.length) = none := by rw [firstO_none hno]; rfl
    rw [e3] at ep2
    have le := areas_le (w := w') (h := h) (by omega) (by omega) hv hd
    have hpos : ∀ b ∈ B, Pos b := fun b hb => (hv b hb).1
    refine q_when (b := !decide (areas B = w' * h)) (et_test (ev_op (ev_var (d := .int (areas B)) rfl) (ev_op (ev_var (d := .int w') rfl) (ev_var (d := .int h) rfl) (od_mulI (.inl (by omega)))) od_neI)) (fun hq => st_ret ev_fault ?_) fun hq => ?_
    · have hq : ¬ areas B = w' * h := by simpa using hq
      rw [due_some (i := -1) (w := "gap") (by rw [ep2]; show (if areas B < w' * h then _ else _) = _; rw [if_pos (by omega)])]
      rfl
    have hq : areas B = w' * h := by simpa using hq
    have ep3 : PLF x0 = if fourB B = true then some (-1, ("four" : Str)) else none := by
      rw [ep2]
      show (if areas B < w' * h then _ else _) = _
      rw [if_neg (by omega)]
    rw [four_iff hpos hd] at ep3
    generalize hT : tally corL B = ts at ep3
    have hu : Uni ts := hT ▸ tally_uni corL B
    refine st_seq (st_listK (n := 7) (kss := ts.map fun p => kI p.1) rfl (cK_keys ts) (fun i ρ => (∀ j, j < i → ¬ (ts.getD j ((0, 0), 0)).2 > 3) ∧ ∃ s17 : Sl, ρ = [.fr x0, .fr (.tuple es), .fr (.int w'), .fr (.int h), .fr (.tuple (B.map bxD)), s5, .fr (.int (areas B)), .fr (dtD (cK ts)), s8, s9, s10, s11, s12, s13, s14, s15, s16, s17]) ⟨fun j hj => absurd hj (Nat.not_lt_zero _), _, rfl⟩ ?_ ?_)
    · rintro i ρ hi ⟨hno4, s17, rfl⟩
      rw [List.length_map] at hi
      have ek : (ts.map fun p => kI p.1).getD i [] = kI (ts.getD i ((0, 0), 0)).1 := by
        rw [List.getD_eq_getElem?_getD, List.getElem?_map, List.getD_eq_getElem?_getD, List.getElem?_eq_getElem hi]
        rfl
      rw [ek]
      refine ⟨_, _, gt_name, ?_⟩
      refine st_if (b := decide ((ts.getD i ((0, 0), 0)).2 > 3)) (et_test (ev_op (ev_getP (ks := kI (ts.getD i ((0, 0), 0)).1) (ev_var rfl) (ev_var rfl) (cK_at hu hi)) ev_int od_cmpI)) (fun hq2 => st_ret ev_fault ?_) fun hq2 => st_next ⟨fun j hj => ?_, _, rfl⟩
      · refine ⟨_, rfl, ?_⟩
        show Oc.rt _ = Oc.rt _
        rw [due_some (i := -1) (w := "four") (by rw [ep3, if_pos (List.any_eq_true.mpr ⟨_, DL.getD_mem hi, hq2⟩)])]
      · by_cases e : j = i
        · rw [e]; exact of_decide_eq_false hq2
        · exact hno4 j (by omega)
    · rintro ρ ⟨hno4, s17, rfl⟩
      rw [List.length_map] at hno4
      refine st_ret (lenE _ rfl) ?_
      rw [due_none (by
        rw [ep3, if_neg]
        intro z
        obtain ⟨q, hq2, e⟩ := List.any_eq_true.mp z
        obtain ⟨i, hi, rfl⟩ := List.getElem_of_mem hq2
        have := hno4 i hi
        rw [List.getD_eq_getElem?_getD, List.getElem?_eq_getElem hi] at this
        exact this (of_decide_eq_true e)), ← hx0]
      rfl

theorem ok_u_law_ask (T : Txt K mg) (hd : FnP K "_law_ask" s_u_law_ask) (hm : mg "_law_ask" = some (.ref (He.ga K "_law_ask"))) (O_u_law_due : Okd P w K mg base CX0 3 "_law_due" ["thing"] (sp_u_law_due K)) (O_check_plan : Okd P w K mg base (L2N.CX P w) 5 "check_plan" ["thing"] (sp_check_plan K)) (O_u_law_whole : Okd P w K mg base CX0 1 "_law_whole" ["thing"] (sp_u_law_whole K)) (X_BadPlan : ExOk P w K mg base 1 "BadPlan" ["at", "word"]) : Okd P w K mg base CX0 6 "_law_ask" ["thing"] (sp_u_law_ask K) := by
  obtain ⟨fd, F⟩ := hd
  refine ⟨hm, fd, fn_pf F sc_u_law_ask ?_ (fun cdv A outer s H E hr => ⟨_, dv_u_law_ask T O_u_law_due O_check_plan O_u_law_whole X_BadPlan cdv A outer s H E hr, ?_⟩), F.bindsN (fun _ _ _ _ _ _ us hl => match us, hl with | [_], _ => rfl), F.kp⟩
  · rintro ds d ⟨x0, rfl, _⟩
    rfl
  · rintro ds d ⟨x, rfl, hx, rfl⟩
    refine ST.mono (P := fun o => o = .rt (.bool true)) ?_ fun o h => .inl h
    show ST K E0 (t_u_law_ask K) [.fr x, .no, .no, .no, .no, .no, .no] _
    unfold t_u_law_ask sp_u_law_due sp_check_plan sp_u_law_whole
    refine q_asg (ev_call (ea_cons (ev_var rfl) ea_nil) ⟨_, rfl, hx, rfl⟩) ?_
    refine q_asg ev_non ?_
    refine q_asg ev_bl ?_
    refine q_asgG (d := .tuple [.none, .none]) (ev_tup (ea_cons ev_non (ea_cons ev_non ea_nil)) s2) (gt_tup rfl (gts_cons gt_name (gts_cons gt_name gts_nil))) ?_
    cases hn : PLF x with
    | none =>
      rw [due_none hn]
      refine st_seq (st_tryA (ea_cons (ev_var rfl) ea_nil) (.inl ⟨_, ⟨_, rfl, hx, hn, rfl⟩, ?_⟩))
      refine q_no (et_is (et_trB (ev_isi (ev_var (d := .int (lenR x)) rfl) rfl (show kitB _ _ = some false from rfl))) rfl) ?_
      refine st_ret (d := .bool true) (ev_is (d := .bool (true && (true && true))) ?_ rfl) rfl
      refine ev_andV (ev_is (d := .bool (!false)) (ev_notV (ev_var rfl)) rfl) fun _ => ?_
      refine ev_andV (ev_call (ea_cons (ev_var (d := .int (lenR x)) rfl) ea_nil) ⟨_, rfl, rfl, rfl⟩) fun _ => ?_
      exact ev_is (ev_op (ev_var (d := .int (lenR x)) rfl) (ev_var (d := .int (lenR x)) rfl) od_eqI) (congrArg PyData.bool (decide_eq_true rfl))
    | some r =>
      obtain ⟨i, wd⟩ := r
      rw [due_some hn]
      refine st_seq (st_tryA (ea_cons (ev_var rfl) ea_nil) (.inr ⟨_, _, ⟨_, i, wd, rfl, hx, hn, rfl, rfl⟩, T.e_BadPlan_BadPlan, fun a dd => ?_⟩))
      unfold ts_u_law_ask
      have isR : ∀ {c : Addr} {b : Bool} (ρ : List Sl), ρ[6]? = some (Sl.ex a dd [(("word" : Str), .str wd), (("at" : Str), .int i)]) → PySem.W.kitOne K (.ref (He.ga K "BadPlan")) (.ref c) = some b → EV K (tCB (rIsX K (.ref (He.ga K "BadPlan")) (some dd) a) (tCons (tVar 6) (tCons (tC (.ref c)) tNil))) ρ (.bool b) := fun ρ h k => ev_isX h T.x_BadPlan.exc (fun _ z => z) k
      have isT : ∀ {c : String} {b : Bool} (ρ : List Sl), ρ[6]? = some (Sl.ex a dd [(("word" : Str), .str wd), (("at" : Str), .int i)]) → PySem.W.kitOne K (.ref (He.ga K "BadPlan")) (.type c) = some b → EV K (tCB (rIsX K (.ref (He.ga K "BadPlan")) (some dd) a) (tCons (tVar 6) (tCons (tC (.ty c)) tNil))) ρ (.bool b) := fun ρ h k => ev_isX h T.x_BadPlan.exc (fun _ z => z) k
      refine q_no (et_is (et_or (et_not (et_trB (isR _ rfl T.k_BadPlan_DataError))) fun _ => et_or (et_not (et_trB (isR _ rfl T.k_BadPlan_PlanError))) fun _ => et_not (et_trB (isT _ rfl T.k_BadPlan_ValueError))) (by rfl)) ?_
      refine q_no (et_is (et_or (et_trB (isR _ rfl T.k_BadPlan_BadScheme)) fun _ => et_or (et_trB (isR _ rfl T.k_BadPlan_BadLayout)) fun _ => et_trB (isR _ rfl T.k_BadPlan_CallError)) (by rfl)) ?_
      refine q_no (et_is (et_or (et_trB (isR _ rfl T.k_BadPlan_TextError)) fun _ => et_trB (isR _ rfl T.k_BadPlan_DeskError)) (by rfl)) ?_
      refine q_asg ev_bl ?_
      refine st_par (ev_xf (d := .int i) rfl rfl) (ev_xf (d := .str wd) rfl rfl) ?_
      show ST K E0 _ [.fr x, .fr (.tuple [.int i, .str wd]), .fr .none, .fr (.bool true), .fr (.int i), .fr (.str wd), .no] _
      refine q_yes (et_is (et_trB (ev_isi (ev_var (d := .tuple [.int i, .str wd]) rfl) rfl (show kitB _ _ = some true from rfl))) rfl) ?_
      refine st_ret (d := .bool true) (ev_is (d := .bool (true && (true && (true && (true && true))))) ?_ rfl) rfl
      refine ev_andV (ev_var rfl) fun _ => ?_
      refine ev_andV (ev_call (ea_cons (ev_var (d := .int i) rfl) ea_nil) ⟨_, rfl, rfl, rfl⟩) fun _ => ?_
      refine ev_andV (ev_is (ev_op (ev_var (d := .int i) rfl) (ev_op (d := .int i) (ev_var (d := .tuple [.int i, .str wd]) rfl) ev_int (od_ixT (by rfl))) od_eqI) (congrArg PyData.bool (decide_eq_true rfl))) fun _ => ?_
      refine ev_andV (ev_isi (ev_var (d := .str wd) rfl) rfl (show kitB _ _ = some true from rfl)) fun _ => ?_
      exact ev_is (ev_op (ev_var (d := .str wd) rfl) (ev_op (d := .str wd) (ev_var (d := .tuple [.int i, .str wd]) rfl) ev_int (od_ixT (by rfl))) od_eqS) (congrArg PyData.bool (decide_eq_true rfl))

/-! the law's things: values that are let -/
theorem okT_tup {ds : List D} (h : ds.all okC = true) (hl : ds.length ≤ 1000) : okT (.tuple ds) = true := by
  show (ds.all okC && decide (ds.length ≤ 1000)) = true
  rw [h, decide_eq_true hl]; rfl
theorem okC_tup {ds : List D} (h : ds.all okB = true) (hl : ds.length ≤ 1000) : okC (.tuple ds) = true := by
  show (ds.all okB && decide (ds.length ≤ 1000)) = true
  rw [h, decide_eq_true hl]; rfl
theorem okB_tup {ds : List D} (h : ds.all okA = true) (hl : ds.length ≤ 1000) : okB (.tuple ds) = true := by
  show (ds.all okA && decide (ds.length ≤ 1000)) = true
  rw [h, decide_eq_true hl]; rfl
theorem pl_ok {rs : List Str} {bs : List Bx} (hl : ∀ z ∈ rs, z.length ≤ 1000) (h1 : rs.length ≤ 1000) (h2 : bs.length ≤ 1000) : okC (.tuple (rs.map PyData.str)) = true ∧ okC (.tuple (bs.map bxD)) = true := by
  refine ⟨okC_tup ?_ (by rw [List.length_map]; exact h1), okC_tup ?_ (by rw [List.length_map]; exact h2)⟩
  · rw [List.all_map, List.all_eq_true]
    intro z hz
    exact decide_eq_true (hl z hz)
  · rw [List.all_map, List.all_eq_true]
    intro b _
    rfl
theorem VP.okC {rs : List Str} {bs : List Bx} (V : VP rs bs) : okC (.tuple (rs.map PyData.str)) = true ∧ okC (.tuple (bs.map bxD)) = true := by
  have h1 := V.many
  have h2 := V.len
  exact pl_ok (fun z hz => by have := (V.names z hz).2; omega) (by omega) (by omega)
theorem evt4 {ρ : List Sl} {t1 t2 t3 t4 : TE} (h1 : EVX K t1 ρ (OkP okC)) (h2 : EVX K t2 ρ (OkP okC)) (h3 : EVX K t3 ρ (OkP okC)) (h4 : EVX K t4 ρ (OkP okC)) : EVX K (tTup (tCons t1 (tCons t2 (tCons t3 (tCons t4 tNil))))) ρ (OkP okT) :=
  evp_tup (eap_cons h1 (eap_cons h2 (eap_cons h3 (eap_cons h4 eap_nil)))) fun _ h hl => okT_tup h hl
theorem evb4 {ρ : List Sl} {t1 t2 t3 t4 : TE} (h1 : EVX K t1 ρ (OkP okA)) (h2 : EVX K t2 ρ (OkP okA)) (h3 : EVX K t3 ρ (OkP okA)) (h4 : EVX K t4 ρ (OkP okA)) : EVX K (tTup (tCons t1 (tCons t2 (tCons t3 (tCons t4 tNil))))) ρ (OkP okB) :=
  evp_tup (eap_cons h1 (eap_cons h2 (eap_cons h3 (eap_cons h4 eap_nil)))) fun _ h hl => okB_tup h hl
/-- a tuple whose parts pass, as long as told -/
def PutP (n : Nat) : D → Prop := fun d => ∃ fs, d = .tuple fs ∧ fs.length = n ∧ fs.all okB = true
theorem PutP.c {n : Nat} {d : D} (h : PutP n d) (hn : n ≤ 1000) : K15.okC d = true := by
  obtain ⟨fs, rfl, h1, h2⟩ := h
  exact okC_tup h2 (by omega)
theorem putP_of {es : List D} (h : K15.okC (.tuple es) = true) : PutP es.length (.tuple es) := ⟨es, rfl, rfl, (okC_es h).1⟩
def InN (n : Nat) : D → Prop := fun d => ∃ k : Nat, d = .int (k : Int) ∧ k < n
theorem evn_take {ρ : List Sl} {n m : Nat} {tb : TE} (hi : ρ[n]? = some (.fr stD)) (hb : EV K tb ρ (.int (m : Int))) (h0 : 0 < m) (h1 : m ≤ 1000000) : EVX K (tCall (sp_u_law_take K) [] E0 (tCons (tVar n) (tCons tb tNil))) ρ (InN m) :=
  ev_take hi hb (by omega) (by omega) fun v v0 v1 => ⟨v.toNat, by rw [Int.toNat_of_nonneg v0], by omega⟩
theorem evx_put {ρ : List Sl} {ta tb tc : TE} {n : Nat} (ha : EVX K ta ρ (PutP n)) (hb : EVX K tb ρ (InN n)) (hc : EVX K tc ρ (OkP okB)) (hn : n ≤ 100) : EVX K (tCall (sp_u_law_put K) [] E0 (tCons ta (tCons tb (tCons tc tNil)))) ρ (PutP n) := by
  unfold sp_u_law_put
  refine evx_call (Pl := fun ds => ∃ es k x, ds = [.tuple es, .int ((k : Nat) : Int), x] ∧ es.length = n ∧ es.all okB = true ∧ k < n ∧ okB x = true) (eax_cons (Pl := fun ds => ∃ k x, ds = [.int ((k : Nat) : Int), x] ∧ k < n ∧ okB x = true) ha (eax_cons (Pl := fun ds => ∃ x, ds = [x] ∧ okB x = true) hb (eax_one hc fun d h => ⟨d, rfl, h⟩) ?_) ?_) ?_
  · rintro d ds ⟨k, rfl, hk⟩ ⟨x, rfl, hx⟩
    exact ⟨k, x, rfl, hk, hx⟩
  · rintro d ds ⟨es, rfl, h1, h2⟩ ⟨k, x, rfl, hk, hx⟩
    exact ⟨es, k, x, rfl, h1, h2, hk, hx⟩
  · rintro ds ⟨es, k, x, rfl, h1, h2, hk, hx⟩
    refine ⟨_, ⟨es, k, x, rfl, by omega, by omega, rfl⟩, _, rfl, ?_, ?_⟩
    · simp only [List.length_append, List.length_take, List.length_drop, List.length_cons, List.length_nil]
      omega
    · rw [List.all_append, List.all_append, List.all_cons, hx]
      have hA : ∀ (fs : List D), (∀ x ∈ fs, x ∈ es) → fs.all okB = true := fun fs hf => List.all_eq_true.mpr fun y hy => List.all_eq_true.mp h2 y (hf y hy)
      rw [hA _ fun y hy => List.mem_of_mem_take hy, hA _ fun y hy => List.mem_of_mem_drop hy]
      rfl
local macro_rules | `(tactic| walk_at "okv") => `(tactic| first
  | exact evx_of (ev_var rfl) (by assumption)
  | exact evx_of ev_int (by rfl)
  | exact evx_of ev_bl (by rfl)
  | exact evx_of ev_non (by rfl)
  | exact evx_of ev_str (by decide)
  | exact evp_i (evi_var rfl)
  | exact evp_i evi_neg
  | exact evp_i (evi_add (evi_var rfl) evi_int)
  | exact evp_i (evi_sub (evi_var rfl) evi_int)
  | exact evp_i evi_pow
  | exact evx_of (ev_tup ea_nil (Nat.zero_le _)) (by rfl)
  | exact evx_of (ev_tup (ea_cons (ev_var rfl) ea_nil) (by show 1 ≤ sizeLine; rw [sizeLine_eq]; omega)) (by rfl)
  | (refine evt4 ?_ ?_ ?_ ?_ <;> walk_at "okv")
  | (refine evb4 ?_ ?_ ?_ ?_ <;> walk_at "okv")
  | exact evx_of (ev_N (en_cb (ea_cons (ev_var rfl) ea_nil) cn_listT)) (by rfl))
local macro_rules | `(tactic| walk_at "okl") => `(tactic| first
  | exact eap_nil
  | (refine eap_cons ?_ ?_; (· walk_at "okv"); (· walk_at "okl")))
theorem ok_u_law_forms (T : Txt K mg) (hd : FnP K "_law_forms" s_u_law_forms) (hm : mg "_law_forms" = some (.ref (He.ga K "_law_forms"))) (O_u_law_take : Okd P w K mg base CX0 1 "_law_take" ["state", "many"] (sp_u_law_take K)) : Okd P w K mg base CX0 2 "_law_forms" ["plan", "state"] (sp_u_law_forms K) := by
  obtain ⟨fd, F⟩ := hd
  refine ⟨hm, fd, fn_pq F sc_u_law_forms ?_ (fun cdv A outer s H E hr => ⟨_, dv_u_law_forms T O_u_law_take cdv A outer s H E hr, ?_⟩), F.bindsN (fun _ _ _ _ _ _ us hl => match us, hl with | [_, _], _ => rfl), F.kp⟩
  · rintro ds ⟨x0, rfl, _⟩
    rfl
  · rintro ds ⟨p, rfl, w', h, rs, bs, rfl, V, l1, hw, hh, hb⟩
    show ST K E0 (t_u_law_forms K) [.fr (plD rs w' h bs), .fr stD, .no, .no, .no, .no, .no] _
    unfold t_u_law_forms
    obtain ⟨hR, hB⟩ := V.okC
    have hV := V.many
    have hL := V.len
    refine q_asgG (ev_var rfl) (gt_tup rfl (gts_cons gt_name (gts_cons gt_name (gts_cons gt_name (gts_cons gt_name gts_nil))))) ?_
    have hA := okC_es hR
    have hA2 := okC_es hB
    have hT : okT (plD rs w' h bs) = true := okT_tup (by rw [List.all_cons, hR, List.all_cons, List.all_cons, List.all_cons, hB]; rfl) (by show 4 ≤ 1000; decide)
    refine q_asgNV (Pd := LstP 5 okT) (evnp_lst (eap_cons ?_ (eap_cons ?_ (eap_cons ?_ (eap_cons ?_ (eap_cons ?_ eap_nil)))))) ?_
    · walk_at "okv"
    · exact evx_of (ev_slT (ev_var rfl) eo_none (eo_some ev_int)) (okT_tup (by show (okC _ && (okC _ && (okC _ && true))) = true; rw [hR]; rfl) (by show 3 ≤ 1000; decide))
    · exact evx_of (ev_op (ev_var rfl) (ev_tup (ds := [.int 0]) (ea_cons ev_int ea_nil) (by show 1 ≤ sizeLine; rw [sizeLine_eq]; omega)) (od_addT (by show 4 + 1 ≤ sizeLine; rw [sizeLine_eq]; omega))) (okT_tup (by show (okC _ && (okC _ && (okC _ && (okC _ && (okC _ && true))))) = true; rw [hR, hB]; rfl) (by show 5 ≤ 1000; decide))
    · walk_at "okv"
    · walk_at "okv"
    rintro d ⟨ds1, rfl, a1⟩
    have z1 := a1.1
    refine q_augP (i := 6) (m := 3) (p := okT) rfl (evx_N (evnp_lst (eap_cons ?_ (eap_cons ?_ (eap_cons ?_ eap_nil))))) (by omega) ?_
    · refine evt4 (evx_of (ev_slT (ev_var rfl) (eo_some ev_int) eo_none) (okC_tup ?_ ?_)) (by walk_at "okv") (by walk_at "okv") (by walk_at "okv")
      · exact List.all_eq_true.mpr fun y hy => List.all_eq_true.mp hA.1 y (List.mem_of_mem_drop (List.mem_of_mem_take hy))
      · have : (cutDs (rs.map PyData.str) (some 1) none).length ≤ (rs.map PyData.str).length := by
          unfold cutDs
          rw [List.length_take, List.length_drop]
          omega
        have := hA.2
        omega
    · refine evt4 (by walk_at "okv") (by walk_at "okv") (by walk_at "okv") (evx_of (ev_slT (ev_var rfl) eo_none (eo_some (ev_op (ev_cb (ea_cons (ev_var rfl) ea_nil) cd_lenT) ev_int od_sub))) (okC_tup ?_ ?_))
      · exact List.all_eq_true.mpr fun y hy => List.all_eq_true.mp hA2.1 y (List.mem_of_mem_drop (List.mem_of_mem_take hy))
      · refine Nat.le_trans ?_ hA2.2
        unfold cutDs
        rw [List.length_take, List.length_drop]
        omega
    · walk_at "okv"
    intro ds2 a2
    replace a2 := a1.app a2
    have z2 := a2.1
    refine q_augP (i := 6) (m := 3) (p := okT) rfl (evx_N (evnp_lst (eap_cons ?_ (eap_cons ?_ (eap_cons ?_ eap_nil))))) (by omega) ?_
    · walk_at "okv"
    · walk_at "okv"
    · refine evt4 (by walk_at "okv") (by walk_at "okv") (evx_of (ev_cb (ea_cons (ev_var (d := .int h) rfl) ea_nil) (cd_strI ?_)) ?_) (by walk_at "okv")
      · refine (Nat.log2_lt (by omega)).mpr ?_
        exact Nat.lt_of_le_of_lt (show h.natAbs ≤ 10000 by omega) (Nat.lt_of_lt_of_le (show 10000 < 2 ^ 14 by decide) (Nat.pow_le_pow_right (by decide) (by decide)))
      · have e : h = ((h.toNat : Nat) : Int) := by omega
        rw [e]
        exact decide_eq_true (Nat.le_trans (strI_len (n := 5) (by decide) (by omega)) (by decide))
    intro ds3 a3
    replace a3 := a2.app a3
    have z3 := a3.1
    refine q_augP (i := 6) (m := 8) (p := okT) rfl (evx_N (evnp_lst ?_)) (by omega) ?_
    · walk_at "okl"
    intro ds4 a4
    replace a4 := a3.app a4
    have z4 := a4.1
    refine q_augP (i := 6) (m := 3) (p := okT) rfl (evx_N (evnp_lst (eap_cons ?_ (eap_cons ?_ (eap_cons ?_ eap_nil))))) (by omega) ?_
    · walk_at "okv"
    · walk_at "okv"
    · refine evt4 (by walk_at "okv") (by walk_at "okv") (evp_i (evi_sub evi_neg (ev_take (n := 1) rfl ev_int (by decide) (by decide) fun v _ _ => ⟨v, rfl⟩))) (by walk_at "okv")
    intro ds5 a5
    replace a5 := a4.app a5
    have z5 := a5.1
    refine q_augP (i := 6) (m := 3) (p := okT) rfl (evx_N (evnp_lst (eap_cons ?_ (eap_cons ?_ (eap_cons ?_ eap_nil))))) (by omega) ?_
    · refine evt4 (by walk_at "okv") (evp_i (evi_add evi_int (ev_take (n := 1) rfl ev_int (by decide) (by decide) fun v _ _ => ⟨v, rfl⟩))) (by walk_at "okv") (by walk_at "okv")
    · walk_at "okv"
    · walk_at "okv"
    intro ds6 a6
    replace a6 := a5.app a6
    have z6 := a6.1
    refine q_frz (i := 6) rfl ?_
    exact st_ret (ev_var rfl) ⟨_, rfl, _, rfl, by omega, fun t ht => List.all_eq_true.mp a6.2 t ht⟩
abbrev nmL : List D := [.str "", .str "A", .str "1a", .str "a-b", .str "abcdefghi", .str "aB", .int 7, .bool true, .none, .tuple [.str "a"], .str " a", .str "a ", .str "E", .str "aZ", .list [.str "a"]]
theorem nmL_ok : nmL.all okB = true := by decide +kernel
theorem PutP.p {n : Nat} {d : D} (h : PutP n d) (hn : n ≤ 1000) : OkP K15.okC d := h.c hn
theorem evx_putC {ρ : List Sl} {ta tb tc : TE} {n : Nat} (ha : EVX K ta ρ (PutP n)) (hb : EVX K tb ρ (InN n)) (hc : EVX K tc ρ (OkP okB)) (hn : n ≤ 100) : EVX K (tCall (sp_u_law_put K) [] E0 (tCons ta (tCons tb (tCons tc tNil)))) ρ (OkP okC) := evx_mono (evx_put ha hb hc hn) fun d h => h.p (by omega)
theorem evx_len {ρ : List Sl} {n : Nat} {ds : List D} (hi : ρ[n]? = some (.fr (.tuple ds))) : EV K (tCB (rLen K) (tCons (tVar n) tNil)) ρ (.int (ds.length : Nat)) := ev_cb (ea_cons (ev_var hi) ea_nil) cd_lenT
theorem inN_of {n k : Nat} (h : k < n) : InN n (.int (k : Int)) := ⟨k, rfl, h⟩
theorem str_ok {rs : List Str} {bs : List Bx} (V : VP rs bs) {k : Nat} (hk : k < rs.length) : ∃ z : Str, (rs.map PyData.str)[k]? = some (.str z) ∧ okB (.str z) = true := by
  refine ⟨rs[k], by rw [List.getElem?_map, List.getElem?_eq_getElem hk]; rfl, ?_⟩
  have := (V.names _ (List.getElem_mem hk)).2
  exact decide_eq_true (by omega)
theorem ok_u_law_named (T : Txt K mg) (hd : FnP K "_law_named" s_u_law_named) (hm : mg "_law_named" = some (.ref (He.ga K "_law_named"))) (O_u_law_take : Okd P w K mg base CX0 1 "_law_take" ["state", "many"] (sp_u_law_take K)) (O_u_law_put : Okd P w K mg base CX0 1 "_law_put" ["row", "at", "thing"] (sp_u_law_put K)) : Okd P w K mg base CX0 2 "_law_named" ["plan", "state"] (sp_u_law_named K) := by
  obtain ⟨fd, F⟩ := hd
  refine ⟨hm, fd, fn_pq F sc_u_law_named ?_ (fun cdv A outer s H E hr => ⟨_, dv_u_law_named T O_u_law_take O_u_law_put cdv A outer s H E hr, ?_⟩), F.bindsN (fun _ _ _ _ _ _ us hl => match us, hl with | [_, _], _ => rfl), F.kp⟩
  · rintro ds ⟨x0, rfl, _⟩
    rfl
  · rintro ds ⟨p, rfl, w', h, rs, bs, rfl, V, l1, hw, hh, hb⟩
    show ST K E0 (t_u_law_named K) [.fr (plD rs w' h bs), .fr stD, .no, .no, .no, .no, .no, .no, .no, .no, .no, .no, .no] _
    unfold t_u_law_named
    obtain ⟨hR, hB⟩ := V.okC
    have hV := V.many
    have hL := V.len
    have pR := putP_of hR
    rw [List.length_map] at pR
    have lenR : ∀ ρ : List Sl, ρ[2]? = some (.fr (.tuple (rs.map PyData.str))) → EV K (tCB (rLen K) (tCons (tVar 2) tNil)) ρ (.int ((rs.length : Nat) : Int)) := fun ρ e => ev_is (evx_len e) (by rw [List.length_map])
    refine q_asgG (ev_var rfl) (gt_tup rfl (gts_cons gt_name (gts_cons gt_name (gts_cons gt_name (gts_cons gt_name gts_nil))))) ?_
    refine q_asgV (evn_take (n := 1) (m := rs.length) rfl (lenR _ rfl) (by omega) (by omega)) ?_
    rintro d ⟨k, rfl, hk⟩
    refine q_asgN (d := .list nmL) (en_lst (by walk_at "ea") (by rw [sizeLine_eq]; decide)) ?_
    refine q_frz (i := 7) rfl ?_
    refine q_asgNV (enp_lc (p := okC) (n := 15) (ei_rng1 (n := 15) (ea_cons (ev_cb (ea_cons (ev_var (d := .list nmL) rfl) ea_nil) cd_lenL) ea_nil) (by decide) (by decide)) (by decide) fun i hi => ⟨_, _, gt_name, by decide, ?_⟩) ?_
    · refine evx_putC (n := rs.length) (evx_of (ev_var (d := .tuple (rs.map PyData.str)) rfl) pR) (evx_of (ev_var (d := .int (k : Nat)) rfl) (inN_of hk)) (evp_ixL (ds := nmL) (Pc := InN 15) (ev_var rfl) nmL_ok (evx_of (ev_var (d := .int (i : Nat)) rfl) (inN_of hi)) fun d h => h) (by omega)
    rintro d ⟨ds1, rfl, a1⟩
    have z1 := a1.1
    refine q_cut (fun ρ => ∃ (ds : List D) (s6 s10 s11 : Sl), ρ = [.fr (plD rs w' h bs), .fr stD, .fr (.tuple (rs.map PyData.str)), .fr (.int w'), .fr (.int h), .fr (.tuple (bs.map bxD)), s6, .fr (.list nmL), .ow (.list ds), .no, s10, s11, .no] ∧ ds.length ≤ 18 ∧ ds.all okC = true) (st_if (et_test (ev_op (lenR _ rfl) ev_int od_cmpI)) (fun hb => ?_) fun hb => st_next ⟨ds1, _, _, _, rfl, by omega, a1.2⟩) ?_
    · have hb : 1 < rs.length := by
        have := of_decide_eq_true hb
        omega
      refine q_asgV (Pd := fun d => ∃ j : Nat, d = .int ((j + 1 : Nat) : Int) ∧ j + 1 < rs.length) (evx_op (Pa := fun d => d = .int 1) (evx_of ev_int rfl) (evn_take (n := 1) (m := rs.length - 1) rfl (ev_is (ev_op (lenR _ rfl) ev_int od_sub) (by congr 1; omega)) (by omega) (by omega)) ?_) ?_
      · rintro a b rfl ⟨j, rfl, hj⟩
        exact ⟨_, od_addI, j, by congr 1; omega, by omega⟩
      rintro d ⟨j, rfl, hj⟩
      obtain ⟨z, ez, oz⟩ := str_ok V (k := j) (by omega)
      obtain ⟨z2, ez2, oz2⟩ := str_ok V (k := j + 1) (by omega)
      have pre : ∀ ρ : List Sl, ρ[2]? = some (.fr (.tuple (rs.map PyData.str))) → ρ[6]? = some (.fr (.int ((j + 1 : Nat) : Int))) → EV K (tOp (rIx K) (tVar 2) (tOp rSubU (tVar 6) (tC (.int 1)))) ρ (.str z) := fun ρ e1 e2 => ev_op (ev_var e1) (ev_is (ev_op (ev_var e2) ev_int od_sub) (show _ = PyData.int ((j : Nat) : Int) by congr 1; omega)) (od_ixT (by
        rw [atI_nn PyData.none (by omega) (by rw [List.length_map]; omega), Int.toNat_natCast, List.getD_eq_getElem?_getD, ez]
        rfl))
      have put1 : ∀ ρ : List Sl, ρ[2]? = some (.fr (.tuple (rs.map PyData.str))) → ρ[6]? = some (.fr (.int ((j + 1 : Nat) : Int))) → EVX K (tCall (sp_u_law_put K) [] E0 (tCons (tVar 2) (tCons (tVar 6) (tCons (tOp (rIx K) (tVar 2) (tOp rSubU (tVar 6) (tC (.int 1)))) tNil)))) ρ (PutP rs.length) := fun ρ e1 e2 => evx_put (evx_of (ev_var e1) pR) (evx_of (ev_var e2) (inN_of hj)) (evx_of (pre ρ e1 e2) oz) (by omega)
      refine q_appendV (i := 8) (ds := ds1) rfl (put1 _ rfl rfl) (by omega) ?_
      intro d1 p1
      refine q_asgV (evx_put (n := rs.length) (put1 _ rfl rfl) (evx_of (ev_is (ev_op (ev_var (d := .int ((j + 1 : Nat) : Int)) rfl) ev_int od_sub) (show _ = PyData.int ((j : Nat) : Int) by congr 1; omega)) (inN_of (by omega))) (evx_of (ev_op (d := .str z2) (ev_var (d := .tuple (rs.map PyData.str)) rfl) (ev_var (d := .int ((j + 1 : Nat) : Int)) rfl) (od_ixT ?_)) oz2) (by omega)) ?_
      · rw [atI_nn PyData.none (by omega) (by rw [List.length_map]; omega), Int.toNat_natCast, List.getD_eq_getElem?_getD, ez2]
        rfl
      intro d2 p2
      refine q_append (n := 8) (ds := ds1 ++ [d1]) (d := d2) rfl (ev_var rfl) (by rw [List.length_append]; show _ + 1 < _; omega) ?_
      refine q_asgV (evn_take (n := 1) (m := rs.length) rfl (lenR _ rfl) (by omega) (by omega)) ?_
      rintro d ⟨l, rfl, hl⟩
      refine st_appendV (n := 8) (ds := (ds1 ++ [d1]) ++ [d2]) (Pd := PutP rs.length) rfl (evx_put (evx_of (ev_var rfl) p2) (evx_of (ev_var rfl) (inN_of hl)) (evp_ixL (ds := nmL) (Pc := InN 15) (ev_var rfl) nmL_ok (evn_take (n := 1) (m := 15) rfl (ev_cb (ea_cons (ev_var (d := .list nmL) rfl) ea_nil) cd_lenL) (by decide) (by decide)) fun d h => h) (by omega)) (by rw [List.length_append, List.length_append]; show _ + 1 + 1 < _; omega) ?_
      intro d3 p3
      refine ⟨((ds1 ++ [d1]) ++ [d2]) ++ [d3], _, _, _, rfl, by simp only [List.length_append, List.length_cons, List.length_nil]; omega, ?_⟩
      rw [List.all_append, List.all_append, List.all_append, a1.2, List.all_cons, List.all_cons, List.all_cons, p1.c (by omega), p2.c (by omega), p3.c (by omega)]
      rfl
    rintro ρ ⟨ds2, s6, s10, s11, rfl, z2, a2⟩
    refine q_frz (i := 8) rfl ?_
    refine st_retV (Pd := LstP ds2.length okT) (evx_N (enp_lc (p := okT) (n := ds2.length) (ei_list (ds := ds2) (ev_var rfl)) (by omega) fun i hi => ⟨_, _, gt_name, by decide, ?_⟩)) ?_
    · have := getD_all (z := PyData.none) a2 hi
      exact evt4 (evx_of (ev_var rfl) this) (by walk_at "okv") (by walk_at "okv") (by walk_at "okv")
    · rintro d ⟨es, rfl, a⟩
      exact ⟨_, rfl, es, rfl, by have := a.1; omega, fun t ht => List.all_eq_true.mp a.2 t ht⟩

theorem okB_bx (b : Bx) : okB (bxD b) = true := rfl
theorem ev_bxAt {ρ : List Sl} {n m k : Nat} {bs : List Bx} (h1 : ρ[n]? = some (.fr (.tuple (bs.map bxD)))) (h2 : ρ[m]? = some (.fr (.int (k : Int)))) (hk : k < bs.length) : EV K (tOp (rIx K) (tVar n) (tVar m)) ρ (bxD (bA bs k)) := ev_op (ev_var h1) (ev_var h2) (od_ixT (by
  have := at_tD (ds := bs.map bxD) (i := k) (by rw [List.length_map]; exact hk)
  rw [getD_bx hk] at this
  exact this))
theorem all_map_okB (bs : List Bx) : (bs.map bxD).all okB = true := by
  rw [List.all_map, List.all_eq_true]
  intro b _
  rfl
theorem ok_u_law_boxed (T : Txt K mg) (hd : FnP K "_law_boxed" s_u_law_boxed) (hm : mg "_law_boxed" = some (.ref (He.ga K "_law_boxed"))) (O_u_law_take : Okd P w K mg base CX0 1 "_law_take" ["state", "many"] (sp_u_law_take K)) (O_u_law_put : Okd P w K mg base CX0 1 "_law_put" ["row", "at", "thing"] (sp_u_law_put K)) : Okd P w K mg base CX0 2 "_law_boxed" ["plan", "state"] (sp_u_law_boxed K) := by
  obtain ⟨fd, F⟩ := hd
  refine ⟨hm, fd, fn_pq F sc_u_law_boxed ?_ (fun cdv A outer s H E hr => ⟨_, dv_u_law_boxed T O_u_law_take O_u_law_put cdv A outer s H E hr, ?_⟩), F.bindsN (fun _ _ _ _ _ _ us hl => match us, hl with | [_, _], _ => rfl), F.kp⟩
  · rintro ds ⟨x0, rfl, _⟩
    rfl
  · rintro ds ⟨p, rfl, w', h, rs, bs, rfl, V, l1, hw, hh, hb⟩
    show ST K E0 (t_u_law_boxed K) [.fr (plD rs w' h bs), .fr stD, .no, .no, .no, .no, .no, .no, .no, .no, .no, .no, .no, .no, .no, .no] _
    unfold t_u_law_boxed
    obtain ⟨hR, hB⟩ := V.okC
    have hV := V.many
    have hL := V.len
    have pR := putP_of hR
    rw [List.length_map] at pR
    have pB := putP_of hB
    rw [List.length_map] at pB
    have lenR : ∀ ρ : List Sl, ρ[2]? = some (.fr (.tuple (rs.map PyData.str))) → EV K (tCB (rLen K) (tCons (tVar 2) tNil)) ρ (.int ((rs.length : Nat) : Int)) := fun ρ e => ev_is (evx_len e) (by rw [List.length_map])
    refine q_asgG (ev_var rfl) (gt_tup rfl (gts_cons gt_name (gts_cons gt_name (gts_cons gt_name (gts_cons gt_name gts_nil))))) ?_
    refine q_asgV (evn_take (n := 1) (m := rs.length) rfl (lenR _ rfl) (by omega) (by omega)) ?_
    rintro d ⟨k, rfl, hk⟩
    refine q_asgG (d := bxD (bA bs k)) (ev_bxAt (n := 5) (m := 6) rfl rfl (by omega)) gt_bx ?_
    refine q_asgNV (Pd := LstP 7 okB) (evnp_lst (eap_cons ?_ ?_)) ?_
    · exact evx_of (ev_N (en_cb (ea_cons (ev_bxAt (n := 5) (m := 6) rfl rfl (by omega)) ea_nil) cn_listT)) (by rfl)
    · refine eap_cons (evx_of (ev_tup (ea_cons (ev_var rfl) (ea_cons (ev_var rfl) (ea_cons (ev_var rfl) ea_nil))) (by show 3 ≤ sizeLine; rw [sizeLine_eq]; omega)) (by rfl)) ?_
      refine eap_cons (evx_of (ev_tup (ea_cons (ev_var rfl) (ea_cons (ev_var rfl) (ea_cons (ev_var rfl) (ea_cons (ev_var rfl) (ea_cons (ev_var rfl) ea_nil))))) (by show 5 ≤ sizeLine; rw [sizeLine_eq]; omega)) (by rfl)) ?_
      walk_at "okl"
    rintro d ⟨ds1, rfl, a1⟩
    have z1 := a1.1
    refine q_augP (i := 11) (m := 7) (p := okB) rfl (evx_N (evnp_lst (by walk_at "okl"))) (by omega) ?_
    intro ds2 a2
    replace a2 := a1.app a2
    have z2 := a2.1
    refine q_augP (i := 11) (m := 6) (p := okB) rfl (evx_N (evnp_lst ?_)) (by omega) ?_
    · refine eap_cons (by walk_at "okv") (eap_cons (by walk_at "okv") (eap_cons (by walk_at "okv") (eap_cons (by walk_at "okv") (eap_cons (by walk_at "okv") (eap_cons ?_ eap_nil)))))
      exact evb4 (by walk_at "okv") (by walk_at "okv") (evx_of (ev_tup (ea_cons (ev_var rfl) ea_nil) (by show 1 ≤ sizeLine; rw [sizeLine_eq]; omega)) (by rfl)) (by walk_at "okv")
    intro ds3 a3
    replace a3 := a2.app a3
    have z3 := a3.1
    refine q_frz (i := 11) rfl ?_
    show ST K E0 _ [.fr (plD rs w' h bs), .fr stD, .fr (.tuple (rs.map PyData.str)), .fr (.int w'), .fr (.int h), .fr (.tuple (bs.map bxD)), .fr (.int (k : Int)), .fr (.int (bA bs k).w), .fr (.int (bA bs k).s), .fr (.int (bA bs k).e), .fr (.int (bA bs k).n), .fr (.list (ds1 ++ ds2 ++ ds3)), .no, .no, .no, .no] _
    generalize hD : ds1 ++ ds2 ++ ds3 = odd at a3 z3
    have tk : ∀ ρ : List Sl, ρ[1]? = some (.fr stD) → ρ[11]? = some (.fr (.list odd)) → EVX K (tOp (rIx K) (tVar 11) (tCall (sp_u_law_take K) [] E0 (tCons (tVar 1) (tCons (tCB (rLen K) (tCons (tVar 11) tNil)) tNil)))) ρ (OkP okB) := fun ρ e1 e2 => evp_ixL (ds := odd) (Pc := InN odd.length) (ev_var e2) a3.2 (evn_take (n := 1) (m := odd.length) e1 (ev_cb (ea_cons (ev_var e2) ea_nil) cd_lenL) (by omega) (by omega)) fun d h => h
    refine q_asgNV (enp_lc (p := okT) (n := odd.length) (ei_list (ds := odd) (ev_var rfl)) (by omega) fun i hi => ⟨_, _, gt_name, by decide, ?_⟩) ?_
    · have := getD_all (z := PyData.none) a3.2 hi
      exact evt4 (by walk_at "okv") (by walk_at "okv") (by walk_at "okv") (evx_putC (n := bs.length) (evx_of (ev_var (d := .tuple (bs.map bxD)) rfl) pB) (evx_of (ev_var (d := .int (k : Nat)) rfl) (inN_of (by omega))) (evx_of (ev_var rfl) this) (by omega))
    rintro d ⟨ds4, rfl, a4⟩
    have z4 := a4.1
    refine q_asgV (evn_take (n := 1) (m := rs.length) rfl (lenR _ rfl) (by omega) (by omega)) ?_
    rintro d ⟨l, rfl, hl⟩
    refine q_asgV (Pd := PutP bs.length) (evx_put (evx_put (evx_of (ev_var (d := .tuple (bs.map bxD)) rfl) pB) (evx_of (ev_var (d := .int (k : Nat)) rfl) (inN_of (by omega))) (tk _ rfl rfl) (by omega)) (evx_of (ev_var (d := .int (l : Nat)) rfl) (inN_of (by omega))) (tk _ rfl rfl) (by omega)) ?_
    intro d5 p5
    have c5 := p5.c (by omega)
    refine q_appendV (i := 12) (ds := ds4) rfl (evt4 (by walk_at "okv") (by walk_at "okv") (by walk_at "okv") (by walk_at "okv")) (by omega) ?_
    intro d6 p6
    refine q_appendV (i := 12) (ds := ds4 ++ [d6]) rfl (evt4 (evx_putC (n := rs.length) (evx_of (ev_var (d := .tuple (rs.map PyData.str)) rfl) pR) (evx_of (ev_var (d := .int (l : Nat)) rfl) (inN_of hl)) (by walk_at "okv") (by omega)) (by walk_at "okv") (by walk_at "okv") (evx_putC (n := bs.length) (evx_of (ev_var (d := .tuple (bs.map bxD)) rfl) pB) (evx_of (ev_var (d := .int (k : Nat)) rfl) (inN_of (by omega))) (tk _ rfl rfl) (by omega))) (by rw [List.length_append]; show _ + 1 < _; omega) ?_
    intro d7 p7
    refine q_frz (i := 12) rfl ?_
    refine st_ret (ev_var rfl) ⟨_, rfl, _, rfl, by simp only [List.length_append, List.length_cons, List.length_nil]; omega, ?_⟩
    intro t ht
    have := List.all_eq_true.mp ((a4.app (AllP.one p6)).app (AllP.one p7)).2
    exact this t ht
theorem ev_cutTo {ρ : List Sl} {n m k : Nat} {es : List D} (h1 : ρ[n]? = some (.fr (.tuple es))) (h2 : ρ[m]? = some (.fr (.int (k : Int)))) (hk : k < es.length) : EV K (tSl (rSlU K) (tVar n) tNoPart (tPart (tVar m))) ρ (.tuple (es.take k)) := ev_is (ev_slT (ev_var h1) eo_none (eo_some (ev_var h2))) (congrArg PyData.tuple (cut_to hk))
theorem ev_cutFrom {ρ : List Sl} {n m k : Nat} {es : List D} (h1 : ρ[n]? = some (.fr (.tuple es))) (h2 : ρ[m]? = some (.fr (.int (k : Int)))) (hk : k < es.length) : EV K (tSl (rSlU K) (tVar n) (tPart (tOp (rAddU K) (tVar m) (tC (.int 1)))) tNoPart) ρ (.tuple (es.drop (k + 1))) := ev_is (ev_slT (ev_var h1) (eo_some (ev_op (ev_var h2) ev_int od_addI)) eo_none) (congrArg PyData.tuple (cut_from hk))
theorem okC_cuts {es fs : List D} {k : Nat} (h : okC (.tuple es) = true) (hf : fs.all okB = true) (hl : es.length ≤ 100) (hl2 : fs.length ≤ 100) : okC (.tuple (es.take k ++ fs ++ es.drop (k + 1))) = true := by
  have hA : ∀ (gs : List D), (∀ x ∈ gs, x ∈ es) → gs.all okB = true := fun gs hg => List.all_eq_true.mpr fun y hy => List.all_eq_true.mp (okC_es h).1 y (hg y hy)
  refine okC_tup ?_ ?_
  · rw [List.all_append, List.all_append, hf, hA _ fun y hy => List.mem_of_mem_take hy, hA _ fun y hy => List.mem_of_mem_drop hy]
    rfl
  · simp only [List.length_append, List.length_take, List.length_drop]
    omega
theorem ok_u_law_moved (T : Txt K mg) (hd : FnP K "_law_moved" s_u_law_moved) (hm : mg "_law_moved" = some (.ref (He.ga K "_law_moved"))) (O_u_law_take : Okd P w K mg base CX0 1 "_law_take" ["state", "many"] (sp_u_law_take K)) (O_u_law_put : Okd P w K mg base CX0 1 "_law_put" ["row", "at", "thing"] (sp_u_law_put K)) (O_u_law_names : Okd P w K mg base CX0 2 "_law_names" ["state", "many"] (sp_u_law_names K)) : Okd P w K mg base CX0 3 "_law_moved" ["plan", "state"] (sp_u_law_moved K) := by
  obtain ⟨fd, F⟩ := hd
  refine ⟨hm, fd, fn_pq F sc_u_law_moved ?_ (fun cdv A outer s H E hr => ⟨_, dv_u_law_moved T O_u_law_take O_u_law_put O_u_law_names cdv A outer s H E hr, ?_⟩), F.bindsN (fun _ _ _ _ _ _ us hl => match us, hl with | [_, _], _ => rfl), F.kp⟩
  · rintro ds ⟨x0, rfl, _⟩
    rfl
  · rintro ds ⟨p, rfl, w', h, rs, bs, rfl, V, l1, hw, hh, hb⟩
    show ST K E0 (t_u_law_moved K) [.fr (plD rs w' h bs), .fr stD, .no, .no, .no, .no, .no, .no, .no, .no, .no, .no, .no, .no, .no, .no, .no, .no] _
    unfold t_u_law_moved
    obtain ⟨hR, hB⟩ := V.okC
    have hV := V.many
    have hL := V.len
    have pB := putP_of hB
    rw [List.length_map] at pB
    have lenR : ∀ ρ : List Sl, ρ[2]? = some (.fr (.tuple (rs.map PyData.str))) → EV K (tCB (rLen K) (tCons (tVar 2) tNil)) ρ (.int ((rs.length : Nat) : Int)) := fun ρ e => ev_is (evx_len e) (by rw [List.length_map])
    refine q_asgG (ev_var rfl) (gt_tup rfl (gts_cons gt_name (gts_cons gt_name (gts_cons gt_name (gts_cons gt_name gts_nil))))) ?_
    refine q_asgV (evn_take (n := 1) (m := rs.length) rfl (lenR _ rfl) (by omega) (by omega)) ?_
    rintro d ⟨k, rfl, hk⟩
    have hbk := hb _ (DL.getD_mem (z := zB) (show k < bs.length by omega))
    change Pos (bA bs k) ∧ Small (bA bs k) at hbk
    refine q_asgG (d := bxD (bA bs k)) (ev_bxAt (n := 5) (m := 6) rfl rfl (by omega)) gt_bx ?_
    generalize bA bs k = c at hbk
    refine q_asgNV (Pd := LstP 5 okB) (evnp_lst (by walk_at "okl")) ?_
    rintro d ⟨ds1, rfl, a1⟩
    have z1 := a1.1
    refine q_augP (i := 11) (m := 5) (p := okB) rfl (evx_N (evnp_lst (by walk_at "okl"))) (by omega) ?_
    intro ds2 a2
    replace a2 := a1.app a2
    have z2 := a2.1
    refine q_augP (i := 11) (m := 2) (p := okB) rfl (evx_N (evnp_lst (eap_cons (by walk_at "okv") (eap_cons ?_ eap_nil)))) (by omega) ?_
    · refine evx_op (Pa := fun d => d = .tuple (bs.map bxD)) (evx_of (ev_var rfl) rfl) (evn_take (n := 1) (m := rs.length) rfl (lenR _ rfl) (by omega) (by omega)) ?_
      rintro a b rfl ⟨j, rfl, hj⟩
      have := at_tD (ds := bs.map bxD) (i := j) (by rw [List.length_map]; omega)
      rw [getD_bx (by omega)] at this
      exact ⟨_, od_ixT this, okB_bx _⟩
    intro ds3 a3
    replace a3 := a2.app a3
    have z3 := a3.1
    refine q_frz (i := 11) rfl ?_
    show ST K E0 _ [.fr (plD rs w' h bs), .fr stD, .fr (.tuple (rs.map PyData.str)), .fr (.int w'), .fr (.int h), .fr (.tuple (bs.map bxD)), .fr (.int (k : Int)), .fr (.int c.w), .fr (.int c.s), .fr (.int c.e), .fr (.int c.n), .fr (.list (ds1 ++ ds2 ++ ds3)), .no, .no, .no, .no, .no, .no] _
    generalize hD : ds1 ++ ds2 ++ ds3 = odd at a3 z3
    refine q_asgNV (enp_lc (p := okT) (n := odd.length) (ei_list (ds := odd) (ev_var rfl)) (by omega) fun i hi => ⟨_, _, gt_name, by decide, ?_⟩) ?_
    · have := getD_all (z := PyData.none) a3.2 hi
      exact evt4 (by walk_at "okv") (by walk_at "okv") (by walk_at "okv") (evx_putC (n := bs.length) (evx_of (ev_var (d := .tuple (bs.map bxD)) rfl) pB) (evx_of (ev_var (d := .int (k : Nat)) rfl) (inN_of (by omega))) (evx_of (ev_var rfl) this) (by omega))
    rintro d ⟨ds4, rfl, a4⟩
    have z4 := a4.1
    let M : Nat → List Sl → Prop := fun n ρ => ∃ (ds : List D), ρ = [.fr (plD rs w' h bs), .fr stD, .fr (.tuple (rs.map PyData.str)), .fr (.int w'), .fr (.int h), .fr (.tuple (bs.map bxD)), .fr (.int (k : Int)), .fr (.int c.w), .fr (.int c.s), .fr (.int c.e), .fr (.int c.n), .fr (.list odd), .ow (.list ds), .no, .no, .no, .no, .no] ∧ ds.length ≤ n ∧ ds.all okT = true
    have hlR : (rs.map PyData.str).length ≤ 100 := by rw [List.length_map]; omega
    have hlB : (bs.map bxD).length ≤ 100 := by rw [List.length_map]; omega
    have cutE : ∀ {es : List D} {n : Nat} (ρ : List Sl), okC (.tuple es) = true → es.length ≤ 100 → k < es.length → ρ[n]? = some (.fr (.tuple es)) → ρ[6]? = some (.fr (.int (k : Int))) → EVX K (tOp (rAddU K) (tSl (rSlU K) (tVar n) tNoPart (tPart (tVar 6))) (tSl (rSlU K) (tVar n) (tPart (tOp (rAddU K) (tVar 6) (tC (.int 1)))) tNoPart)) ρ (OkP okC) := fun {es n} ρ he hl hk e1 e2 => by
      refine evx_of (ev_op (ev_cutTo e1 e2 hk) (ev_cutFrom e1 e2 hk) (od_addT ?_)) ?_
      · rw [List.length_take, List.length_drop, sizeLine_eq]
        omega
      · have := okC_cuts (fs := []) (k := k) he rfl hl (by decide)
        rw [List.append_nil] at this
        exact this
    refine q_cut (M 13) (st_if (et_test (ev_op (lenR _ rfl) ev_int od_cmpI)) (fun hb => ?_) fun hb => st_next ⟨ds4, rfl, by omega, a4.2⟩) ?_
    · refine st_appendV (n := 12) (ds := ds4) (Pd := OkP okT) rfl (evt4 (cutE _ hR hlR (by rw [List.length_map]; exact hk) rfl rfl) (by walk_at "okv") (by walk_at "okv") (cutE _ hB hlB (by rw [List.length_map]; omega) rfl rfl)) (by omega) ?_
      intro d5 p5
      exact ⟨_, rfl, by rw [List.length_append]; show _ + 1 ≤ _; omega, (a4.app (AllP.one p5)).2⟩
    rintro ρ ⟨ds5, rfl, z5, a5⟩
    refine q_cut (M 14) (st_if (et_test (ev_op (ev_var (d := .int w') rfl) ev_int od_cmpI)) (fun hb => ?_) fun hb => st_next ⟨ds5, rfl, by omega, a5⟩) ?_
    · refine st_appendV (n := 12) (ds := ds5) (Pd := OkP okT) rfl (evt4 (by walk_at "okv") (by walk_at "okv") (by walk_at "okv") (by walk_at "okv")) (by omega) ?_
      intro d6 p6
      exact ⟨_, rfl, by rw [List.length_append]; show _ + 1 ≤ _; omega, by rw [List.all_append, a5, List.all_cons, show okT d6 = true from p6]; rfl⟩
    rintro ρ ⟨ds6, rfl, z6, a6⟩
    refine q_cut (fun ρ => ∃ (ds : List D) (s14 s15 s16 s17 : Sl), ρ = [.fr (plD rs w' h bs), .fr stD, .fr (.tuple (rs.map PyData.str)), .fr (.int w'), .fr (.int h), .fr (.tuple (bs.map bxD)), .fr (.int (k : Int)), .fr (.int c.w), .fr (.int c.s), .fr (.int c.e), .fr (.int c.n), .fr (.list odd), .ow (.list ds), .no, s14, s15, s16, s17] ∧ ds.length ≤ 15 ∧ ds.all okT = true) (st_if (b := decide ((rs.length : Int) < 38) && (decide (c.e - c.w > 1) && decide (c.n - c.s > 1))) (et_and (et_test (ev_op (lenR _ rfl) ev_int od_cmpI)) fun _ => et_and (et_test (ev_op (ev_op (ev_var (d := .int c.e) rfl) (ev_var (d := .int c.w) rfl) od_sub) ev_int od_cmpI)) fun _ => et_test (ev_op (ev_op (ev_var (d := .int c.n) rfl) (ev_var (d := .int c.s) rfl) od_sub) ev_int od_cmpI)) (fun hb => ?_) fun hb => st_next ⟨ds6, _, _, _, _, rfl, by omega, a6⟩) ?_
    · simp only [Bool.and_eq_true, decide_eq_true_eq] at hb
      obtain ⟨hb1, hb2, hb3⟩ := hb
      obtain ⟨_, hs⟩ := hbk
      unfold Small at hs
      refine q_asgV (Pd := IsI) (evi_add (evi_add (evi_var rfl) evi_int) (ev_take (n := 1) (m := c.e - c.w - 1) rfl (ev_op (ev_op (ev_var (d := .int c.e) rfl) (ev_var (d := .int c.w) rfl) od_sub) ev_int od_sub) (by omega) (by omega) fun v _ _ => ⟨v, rfl⟩)) ?_
      rintro d ⟨x, rfl⟩
      refine q_asgV (Pd := IsI) (evi_add (evi_add (evi_var rfl) evi_int) (ev_take (n := 1) (m := c.n - c.s - 1) rfl (ev_op (ev_op (ev_var (d := .int c.n) rfl) (ev_var (d := .int c.s) rfl) od_sub) ev_int od_sub) (by omega) (by omega) fun v _ _ => ⟨v, rfl⟩)) ?_
      rintro d ⟨y, rfl⟩
      refine q_asgV (Pd := OkP okC) (evx_cb (Pl := fun ds => ∃ zs : List Str, ds = [.list (zs.map PyData.str)] ∧ zs.length ≤ 40 ∧ ∀ z ∈ zs, Name z) (eax_one (Pa := fun d => ∃ zs : List Str, d = .list (zs.map PyData.str) ∧ zs.length ≤ 40 ∧ ∀ z ∈ zs, Name z) (by
        unfold sp_u_law_names
        refine evx_callQ (Pl := fun ds => ds = [stD, .int ((rs.length + 3 : Nat) : Int)]) (eax_of (ea_cons (ev_var rfl) (ea_cons (ev_is (ev_op (lenR _ rfl) ev_int od_addI) (by congr 1)) ea_nil)) rfl) ?_
        rintro ds rfl
        refine ⟨⟨rs.length + 3, rfl, by omega⟩, ?_⟩
        rintro d ⟨m, zs, e, rfl, hl, _, nm⟩
        refine ⟨zs, rfl, ?_, nm⟩
        have : rs.length + 3 = m := by
          injection e with _ e
          injection e with e _
          injection e with e
          exact Int.ofNat.inj e
        omega) fun d ⟨zs, e, h⟩ => ⟨zs, by rw [e], h⟩) ?_) ?_
      · rintro ds ⟨zs, rfl, hl, nm⟩
        exact ⟨_, cd_tupL, (pl_ok (bs := []) (fun z hz => by have := (nm z hz).2; omega) (by omega) (by decide)).1⟩
      intro d16 p16
      have p16 : okC d16 = true := p16
      refine q_asgV (Pd := OkP okC) (evx_of (ev_op (d1 := .tuple ((bs.map bxD).take k ++ [bxD ⟨c.w, c.s, x, y⟩, bxD ⟨x, y, c.e, c.n⟩, bxD ⟨c.w, y, x, c.n⟩] ++ (bs.map bxD).drop (k + 1))) (d2 := .tuple [bxD ⟨x, c.s, c.e, y⟩]) (ev_op (ev_op (ev_cutTo (n := 5) (m := 6) rfl rfl (by rw [List.length_map]; omega)) (ev_tup (ds := [bxD ⟨c.w, c.s, x, y⟩, bxD ⟨x, y, c.e, c.n⟩, bxD ⟨c.w, y, x, c.n⟩]) (ea_cons (ev_b4 (ev_var rfl) (ev_var rfl) (ev_var rfl) (ev_var rfl)) (ea_cons (ev_b4 (ev_var rfl) (ev_var rfl) (ev_var rfl) (ev_var rfl)) (ea_cons (ev_b4 (ev_var rfl) (ev_var rfl) (ev_var rfl) (ev_var rfl)) ea_nil))) (by show 3 ≤ sizeLine; rw [sizeLine_eq]; omega)) (od_addT ?_)) (ev_cutFrom (n := 5) (m := 6) rfl rfl (by rw [List.length_map]; omega)) (od_addT ?_)) (ev_tup (ea_cons (ev_b4 (ev_var rfl) (ev_var rfl) (ev_var rfl) (ev_var rfl)) ea_nil) (by show 1 ≤ sizeLine; rw [sizeLine_eq]; omega)) (od_addT ?_)) ?_) ?_
      · rw [List.length_take, sizeLine_eq]
        show _ + 3 ≤ _
        omega
      · rw [List.length_append, List.length_take, List.length_drop, sizeLine_eq]
        show _ + 3 + _ ≤ _
        omega
      · rw [List.length_append, List.length_append, List.length_take, List.length_drop, sizeLine_eq]
        show _ + 3 + _ + 1 ≤ _
        omega
      · have := okC_es (okC_cuts (fs := [bxD ⟨c.w, c.s, x, y⟩, bxD ⟨x, y, c.e, c.n⟩, bxD ⟨c.w, y, x, c.n⟩]) (k := k) hB rfl hlB (by show 3 ≤ 100; decide))
        refine okC_tup ?_ ?_
        · rw [List.all_append, this.1]
          rfl
        · simp only [List.length_append, List.length_take, List.length_drop, List.length_cons, List.length_nil]
          omega
      intro d17 p17
      have p17 : okC d17 = true := p17
      refine st_appendV (n := 12) (ds := ds6) (Pd := OkP okT) rfl (evt4 (by walk_at "okv") (by walk_at "okv") (by walk_at "okv") (by walk_at "okv")) (by omega) ?_
      intro d7 p7
      exact ⟨_, _, _, _, _, rfl, by rw [List.length_append]; show _ + 1 ≤ _; omega, by rw [List.all_append, a6, List.all_cons, show okT d7 = true from p7]; rfl⟩
    rintro ρ ⟨ds7, s14, s15, s16, s17, rfl, z7, a7⟩
    refine q_frz (i := 12) rfl ?_
    exact st_ret (ev_var rfl) ⟨_, rfl, _, rfl, by omega, fun t ht => List.all_eq_true.mp a7 t ht⟩

theorem ok_u_law_strip (T : Txt K mg) (hd : FnP K "_law_strip" s_u_law_strip) (hm : mg "_law_strip" = some (.ref (He.ga K "_law_strip")))  : Okd P w K mg base CX0 1 "_law_strip" ["many", "wide", "high"] (sp_u_law_strip K) := by
  obtain ⟨fd, F⟩ := hd
  refine ⟨hm, fd, fn_pq F sc_u_law_strip ?_ (fun cdv A outer s H E hr => ⟨_, dv_u_law_strip T  cdv A outer s H E hr, ?_⟩), F.bindsN (fun _ _ _ _ _ _ us hl => match us, hl with | [_, _, _], _ => rfl), F.kp⟩
  · rintro ds ⟨x0, x1, x2, rfl, _⟩
    rfl
  · rintro ds ⟨m, w', h, rfl, m1, m2⟩
    show ST K E0 (t_u_law_strip K) [.fr (.int (m : Int)), .fr (.int w'), .fr (.int h), .no, .no, .no] _
    unfold t_u_law_strip
    refine q_asgNV (enp_lc (p := okB) (n := m) (ei_rng1 (n := (m : Int)) (ea_cons (ev_var rfl) ea_nil) (by omega) (by omega)) (by omega) fun i hi => ⟨_, _, gt_name, by decide, ?_⟩) ?_
    · refine evx_op (Pa := fun d => d = .str "a" ∨ d = .str "b") (Pc := fun d => d = .str (strI ((10 + i : Nat) : Int))) (evx_if (Pb := fun _ => True) (etx_of (et_test (ev_op (ev_var (d := .int (i : Nat)) rfl) ev_int od_cmpI)) trivial) (fun _ => evx_of ev_str (.inl rfl)) fun _ => evx_of ev_str (.inr rfl)) (evx_of (ev_cb (ea_cons (ev_is (ev_op ev_int (ev_var (d := .int (i : Nat)) rfl) od_addI) (show _ = PyData.int ((10 + i : Nat) : Int) by congr 1)) ea_nil) (cd_strI ?_)) rfl) ?_
      · refine (Nat.log2_lt (by omega)).mpr ?_
        exact Nat.lt_of_le_of_lt (show (((10 + i : Nat) : Int)).natAbs ≤ 10000 by omega) (Nat.lt_of_lt_of_le (show 10000 < 2 ^ 14 by decide) (Nat.pow_le_pow_right (by decide) (by decide)))
      · rintro a b ha rfl
        have hl := strI_len (k := 10 + i) (n := 2) (by decide) (by omega)
        rcases ha with rfl | rfl
        · exact ⟨_, od_addS (by rw [sizeLine_eq]; show 1 + _ ≤ _; omega), decide_eq_true (by rw [len_app]; show 1 + _ ≤ _; omega)⟩
        · exact ⟨_, od_addS (by rw [sizeLine_eq]; show 1 + _ ≤ _; omega), decide_eq_true (by rw [len_app]; show 1 + _ ≤ _; omega)⟩
    rintro d ⟨ns, rfl, a1⟩
    have z1 := a1.1
    refine q_frz (i := 3) rfl ?_
    refine q_asgNV (enp_lc (p := okB) (n := ((m : Int) - 1).toNat) (ei_rng1 (n := (m : Int) - 1) (ea_cons (ev_op (ev_var (d := .int (m : Int)) rfl) ev_int od_sub) ea_nil) (by omega) (by omega)) (by omega) fun i hi => ⟨_, _, gt_name, by decide, ?_⟩) ?_
    · exact evb4 (by walk_at "okv") (by walk_at "okv") (by walk_at "okv") (by walk_at "okv")
    rintro d ⟨es, rfl, a2⟩
    have z2 := a2.1
    refine q_appendV (i := 5) (ds := es) (Pd := OkP okB) rfl (evb4 (by walk_at "okv") (by walk_at "okv") (by walk_at "okv") (by walk_at "okv")) (by omega) ?_
    intro d3 p3
    have a3 := a2.app (AllP.one p3)
    have z3 := a3.1
    refine q_frz (i := 5) rfl ?_
    refine st_retV (Pd := OkP okT) (evt4 (evx_of (ev_cb (ea_cons (ev_var (d := .list ns) rfl) ea_nil) cd_tupL) (okC_tup a1.2 (by omega))) (by walk_at "okv") (by walk_at "okv") (evx_of (ev_cb (ea_cons (ev_var (d := .list (es ++ [d3])) rfl) ea_nil) cd_tupL) (okC_tup a3.2 (by omega)))) fun d h => ?_
    exact ⟨_, rfl, h⟩
def InB (a b : Int) : D → Prop := fun d => ∃ i : Int, d = .int i ∧ a ≤ i ∧ i ≤ b
theorem InB.wide {a b a' b' : Int} {d : D} (h : InB a b d) (h1 : a' ≤ a) (h2 : b ≤ b') : InB a' b' d := by
  obtain ⟨i, rfl, _, _⟩ := h
  exact ⟨i, rfl, by omega, by omega⟩
theorem InB.i {a b : Int} {d : D} (h : InB a b d) : IsI d := by
  obtain ⟨i, rfl, _⟩ := h
  exact ⟨i, rfl⟩
/-- c + a drawn number -/
theorem evx_from {ρ : List Sl} {n : Nat} {c m : Int} {tb : TE} (hi : ρ[n]? = some (.fr stD)) (hb : EV K tb ρ (.int m)) (h0 : 0 < m) (h1 : m ≤ 1000000) : EVX K (tOp (rAddU K) (tC (.int c)) (tCall (sp_u_law_take K) [] E0 (tCons (tVar n) (tCons tb tNil)))) ρ (InB c (c + m - 1)) := by
  refine evx_op (Pa := fun d => d = .int c) (Pc := fun d => ∃ v : Int, d = .int v ∧ 0 ≤ v ∧ v < m) (evx_of ev_int rfl) (ev_take hi hb h0 h1 fun v a b => ⟨v, rfl, a, b⟩) ?_
  rintro a b rfl ⟨v, rfl, v0, v1⟩
  exact ⟨_, od_addI, _, rfl, by omega, by omega⟩
theorem evx_from2 {ρ : List Sl} {n : Nat} {c m a b : Int} {tb : TE} (hi : ρ[n]? = some (.fr stD)) (hb : EV K tb ρ (.int m)) (h0 : 0 < m) (h1 : m ≤ 1000000) (h2 : a ≤ c) (h3 : c + m - 1 ≤ b) : EVX K (tOp (rAddU K) (tC (.int c)) (tCall (sp_u_law_take K) [] E0 (tCons (tVar n) (tCons tb tNil)))) ρ (InB a b) := evx_mono (evx_from hi hb h0 h1) fun d h => h.wide h2 h3
/-- one of two, of three drawn -/
theorem evx_pick2 {ρ : List Sl} {n : Nat} {t1 t2 : TE} {Pd : D → Prop} (hi : ρ[n]? = some (.fr stD)) (h1 : EVX K t1 ρ Pd) (h2 : EVX K t2 ρ Pd) : EVX K (tOp (rIx K) (tLst (tCons t1 (tCons t2 tNil))) (tCall (sp_u_law_take K) [] E0 (tCons (tVar n) (tCons (tC (.int 2)) tNil)))) ρ Pd := by
  refine evx_op (Pa := fun d => ∃ x y, d = .list [x, y] ∧ Pd x ∧ Pd y) (Pc := fun d => ∃ v : Int, d = .int v ∧ 0 ≤ v ∧ v < 2) (evx_N (evnx_lst (Pl := fun ds => ∃ x y, ds = [x, y] ∧ Pd x ∧ Pd y) (eax_cons (Pl := fun ds => ∃ y, ds = [y] ∧ Pd y) h1 (eax_one h2 ?_) ?_) ?_)) (ev_take hi ev_int (by decide) (by decide) fun v a b => ⟨v, rfl, a, b⟩) ?_
  · rintro d p
    exact ⟨d, rfl, p⟩
  · rintro d ds p ⟨y, rfl, q⟩
    exact ⟨d, y, rfl, p, q⟩
  · rintro ds ⟨x, y, rfl, p⟩
    exact ⟨by show 2 ≤ sizeLine; exact s2, x, y, rfl, p⟩
  · rintro a b ⟨x, y, rfl, p, q⟩ ⟨v, rfl, v0, v1⟩
    obtain ⟨k, rfl⟩ : ∃ k : Nat, v = (k : Int) := ⟨v.toNat, by omega⟩
    have hk : k < 2 := by omega
    match k, hk with
    | 0, _ => exact ⟨x, od_ixL (atI_nat (j := 0) (by rfl)), p⟩
    | 1, _ => exact ⟨y, od_ixL (atI_nat (j := 1) (by rfl)), q⟩
theorem evx_pick3 {ρ : List Sl} {n : Nat} {t1 t2 t3 : TE} {Pd : D → Prop} (hi : ρ[n]? = some (.fr stD)) (h1 : EVX K t1 ρ Pd) (h2 : EVX K t2 ρ Pd) (h3 : EVX K t3 ρ Pd) : EVX K (tOp (rIx K) (tLst (tCons t1 (tCons t2 (tCons t3 tNil)))) (tCall (sp_u_law_take K) [] E0 (tCons (tVar n) (tCons (tC (.int 3)) tNil)))) ρ Pd := by
  refine evx_op (Pa := fun d => ∃ x y z, d = .list [x, y, z] ∧ Pd x ∧ Pd y ∧ Pd z) (Pc := fun d => ∃ v : Int, d = .int v ∧ 0 ≤ v ∧ v < 3) (evx_N (evnx_lst (Pl := fun ds => ∃ x y z, ds = [x, y, z] ∧ Pd x ∧ Pd y ∧ Pd z) (eax_cons (Pl := fun ds => ∃ y z, ds = [y, z] ∧ Pd y ∧ Pd z) h1 (eax_cons (Pl := fun ds => ∃ z, ds = [z] ∧ Pd z) h2 (eax_one h3 ?_) ?_) ?_) ?_)) (ev_take hi ev_int (by decide) (by decide) fun v a b => ⟨v, rfl, a, b⟩) ?_
  · rintro d p
    exact ⟨d, rfl, p⟩
  · rintro d ds p ⟨z, rfl, q⟩
    exact ⟨d, z, rfl, p, q⟩
  · rintro d ds p ⟨y, z, rfl, q, r⟩
    exact ⟨d, y, z, rfl, p, q, r⟩
  · rintro ds ⟨x, y, z, rfl, p⟩
    exact ⟨by show 3 ≤ sizeLine; rw [sizeLine_eq]; omega, x, y, z, rfl, p⟩
  · rintro a b ⟨x, y, z, rfl, p, q, r⟩ ⟨v, rfl, v0, v1⟩
    obtain ⟨k, rfl⟩ : ∃ k : Nat, v = (k : Int) := ⟨v.toNat, by omega⟩
    have hk : k < 3 := by omega
    match k, hk with
    | 0, _ => exact ⟨x, od_ixL (atI_nat (j := 0) (by rfl)), p⟩
    | 1, _ => exact ⟨y, od_ixL (atI_nat (j := 1) (by rfl)), q⟩
    | 2, _ => exact ⟨z, od_ixL (atI_nat (j := 2) (by rfl)), r⟩
/-- a drawn plan -/
def PlanS (st : Bool) : D → Prop := fun d => ∃ w h rs bs, d = plD rs w h bs ∧ VP rs bs ∧ Cut 40 w h st bs ∧ (1 ≤ w ∧ w ≤ 10000) ∧ (1 ≤ h ∧ h ≤ 10000)
theorem evx_plan {ρ : List Sl} {t1 t2 t3 : TE} {n : Nat} {st : Bool} (hi : ρ[n]? = some (.fr stD)) (h1 : EVX K t1 ρ (InB 1 40)) (h2 : EVX K t2 ρ (InB 1 10000)) (h3 : EVX K t3 ρ (InB 1 10000)) : EVX K (tCall (sp_u_law_plan K) [] E0 (tCons (tVar n) (tCons t1 (tCons t2 (tCons t3 (tCons (tC (.bl st)) tNil)))))) ρ (PlanS st) := by
  unfold sp_u_law_plan
  refine evx_callQ (Pl := fun ds => ∃ (m : Nat) (w h : Int), ds = [stD, .int (m : Int), .int w, .int h, .bool st] ∧ 1 ≤ m ∧ m ≤ 40 ∧ 1 ≤ w ∧ w ≤ 10000 ∧ 1 ≤ h ∧ h ≤ 10000) (eax_cons (Pa := fun d => d = stD) (Pl := fun ds => ∃ (m : Nat) (w h : Int), ds = [.int (m : Int), .int w, .int h, .bool st] ∧ 1 ≤ m ∧ m ≤ 40 ∧ 1 ≤ w ∧ w ≤ 10000 ∧ 1 ≤ h ∧ h ≤ 10000) (evx_of (ev_var hi) rfl) (eax_cons (Pl := fun ds => ∃ (w h : Int), ds = [.int w, .int h, .bool st] ∧ 1 ≤ w ∧ w ≤ 10000 ∧ 1 ≤ h ∧ h ≤ 10000) h1 (eax_cons (Pl := fun ds => ∃ (h : Int), ds = [.int h, .bool st] ∧ 1 ≤ h ∧ h ≤ 10000) h2 (eax_cons (Pl := fun ds => ds = [.bool st]) h3 (eax_of (ea_cons ev_bl ea_nil) rfl) ?_) ?_) ?_) ?_) ?_
  · rintro d ds ⟨i, rfl, a, b⟩ rfl
    exact ⟨i, rfl, a, b⟩
  · rintro d ds ⟨i, rfl, a, b⟩ ⟨j, rfl, c⟩
    exact ⟨i, j, rfl, a, b, c⟩
  · rintro d ds ⟨i, rfl, a, b⟩ ⟨j, k, rfl, c⟩
    exact ⟨i.toNat, j, k, by rw [Int.toNat_of_nonneg (by omega)], by omega, by omega, c⟩
  · rintro d ds rfl ⟨m, w, h, rfl, c⟩
    exact ⟨m, w, h, rfl, c⟩
  · rintro ds ⟨m, w, h, rfl, c⟩
    refine ⟨⟨m, w, h, st, rfl, c⟩, ?_⟩
    rintro d ⟨m', w', h', st', rs, bs, e, rfl, V, C⟩
    obtain ⟨rfl, rfl, rfl⟩ : w = w' ∧ h = h' ∧ st = st' := by
      injection e with _ e
      injection e with e1 e
      injection e with e2 e
      injection e with e3 e
      injection e with e4 e
      injection e2 with e2
      injection e3 with e3
      injection e4 with e4
      exact ⟨e2, e3, e4⟩
    exact ⟨w, h, rs, bs, rfl, V, C, ⟨c.2.2.1, c.2.2.2.1⟩, c.2.2.2.2⟩
theorem PlanS.ok {st : Bool} {d : D} (h : PlanS st d) : okT d = true := by
  obtain ⟨w, h, rs, bs, rfl, V, _⟩ := h
  obtain ⟨hR, hB⟩ := V.okC
  exact okT_tup (by rw [List.all_cons, hR, List.all_cons, List.all_cons, List.all_cons, hB]; rfl) (by show 4 ≤ 1000; decide)
theorem PlanS.p {st : Bool} {d : D} (h : PlanS st d) : PlanP d := by
  obtain ⟨w, h, rs, bs, rfl, V, C, h1, h2⟩ := h
  refine ⟨w, h, rs, bs, rfl, V, by have := C.lo; have := V.len; omega, h1, h2, fun b hb => ?_⟩
  obtain ⟨p, q1, q2, q3, q4⟩ := C.ok b hb
  exact ⟨p, q1, by omega, q3, by omega⟩
/-- a list of things, at most so many -/
def Thin (n : Nat) : D → Prop := fun d => ∃ ts : List D, d = .list ts ∧ ts.length ≤ n ∧ ∀ t ∈ ts, okT t = true
theorem evx_thin {ρ : List Sl} {ta tb : TE} {n m : Nat} (h1 : EVX K ta ρ (Thin n)) (h2 : EVX K tb ρ (Thin m)) (hz : n + m ≤ 100000) : EVX K (tOp (rAddU K) ta tb) ρ (Thin (n + m)) := by
  refine evx_N (evnx_op h1 h2 ?_)
  rintro a b ⟨ts, rfl, l1, k1⟩ ⟨us, rfl, l2, k2⟩
  refine ⟨_, on_addL (by rw [sizeLine_eq]; omega), _, rfl, by rw [List.length_append]; omega, fun t ht => ?_⟩
  rcases List.mem_append.mp ht with h | h
  · exact k1 t h
  · exact k2 t h
theorem pair_stD {p q : D} (h : ([p, stD] : List D) = [q, stD]) : p = q := by injection h
theorem ok_law (T : Txt K mg) {fd : FuncData} (F : FunD K "law" "law" (defArgs s_law) (defBody s_law) (defScope s_law) [] [] (He.ga K "law") fd) (O_u_law_state : Okd P w K mg base CX0 1 "_law_state" ["script"] (sp_u_law_state K)) (O_u_law_plan : Okd P w K mg base CX0 4 "_law_plan" ["state", "many", "wide", "high", "strict"] (sp_u_law_plan K)) (O_u_law_ask : Okd P w K mg base CX0 6 "_law_ask" ["thing"] (sp_u_law_ask K)) (O_u_law_take : Okd P w K mg base CX0 1 "_law_take" ["state", "many"] (sp_u_law_take K)) (O_u_law_strip : Okd P w K mg base CX0 1 "_law_strip" ["many", "wide", "high"] (sp_u_law_strip K)) (O_u_law_moved : Okd P w K mg base CX0 3 "_law_moved" ["plan", "state"] (sp_u_law_moved K)) (O_u_law_boxed : Okd P w K mg base CX0 2 "_law_boxed" ["plan", "state"] (sp_u_law_boxed K)) (O_u_law_due : Okd P w K mg base CX0 3 "_law_due" ["thing"] (sp_u_law_due K)) (O_u_law_forms : Okd P w K mg base CX0 2 "_law_forms" ["plan", "state"] (sp_u_law_forms K)) (O_u_law_named : Okd P w K mg base CX0 2 "_law_named" ["plan", "state"] (sp_u_law_named K)) : FnOk P w K mg base CX0 7 (He.ga K "law") fd ["script"] (sp_law K) := by
  refine fn_pf F sc_law ?_ (fun cdv A outer s H E hr => ⟨_, dv_law T O_u_law_state O_u_law_plan O_u_law_ask O_u_law_take O_u_law_strip O_u_law_moved O_u_law_boxed O_u_law_due O_u_law_forms O_u_law_named cdv A outer s H E hr, ?_⟩)
  · rintro ds d ⟨x0, rfl, _⟩
    rfl
  · rintro ds d ⟨ns, rfl, hns, rfl⟩
    refine ST.mono (P := fun o => o = .rt (.bool true)) ?_ fun o h => .inl h
    show ST K E0 (t_law K) [.fr (.dict [(.none, .list (ns.map PyData.int))]), .no, .no, .no, .no, .no, .no, .no, .no, .no, .no] _
    unfold t_law sp_u_law_state sp_u_law_ask sp_u_law_due sp_u_law_strip sp_u_law_forms sp_u_law_named sp_u_law_boxed sp_u_law_moved
    refine q_asg (d := stD) (ev_call (ea_cons (ev_var rfl) ea_nil) ⟨ns, rfl, hns, rfl⟩) ?_
    refine q_asgV (Pd := fun d => ∃ b, d = .bool b) (evx_op (Pa := IsI) (Pc := fun d => d = .int 3) (ev_take (n := 1) rfl ev_int (by decide) (by decide) fun v _ _ => ⟨v, rfl⟩) (evx_of ev_int rfl) (by rintro a b ⟨i, rfl⟩ rfl; exact ⟨_, od_eqI, _, rfl⟩)) ?_
    rintro d ⟨great, rfl⟩
    have tG : ∀ ρ : List Sl, ρ[2]? = some (.fr (.bool great)) → ETX K (tTr K (tVar 2)) ρ (fun _ => True) := fun ρ e => etx_of (et_trB (ev_var e)) trivial
    refine q_asgV (Pd := InB 1 40) (evx_if (tG _ rfl) (fun _ => evx_of ev_int ⟨_, rfl, by decide, by decide⟩) fun _ => evx_from2 (n := 1) rfl ev_int (by decide) (by decide) (by decide) (by decide)) ?_
    rintro d ⟨many, rfl, y1, y2⟩
    refine q_asgV (Pd := InB 1 10000) (evx_if (tG _ rfl) (fun _ => evx_of ev_int ⟨_, rfl, by decide, by decide⟩) fun _ => evx_pick3 (n := 1) rfl (evx_of ev_int ⟨_, rfl, by decide, by decide⟩) (evx_of ev_int ⟨_, rfl, by decide, by decide⟩) (evx_of ev_int ⟨_, rfl, by decide, by decide⟩)) ?_
    rintro d ⟨most, rfl, x1, x2⟩
    refine q_parV (Pa := InB 1 10000) (Pb := InB 1 10000) (evx_from2 (n := 1) rfl (ev_var (d := .int most) rfl) (by omega) (by omega) (by omega) (by omega)) (evx_from2 (n := 1) rfl (ev_var (d := .int most) rfl) (by omega) (by omega) (by omega) (by omega)) ?_
    rintro a b ⟨w0, rfl, u1, u2⟩ ⟨h0, rfl, u3, u4⟩
    refine q_cut (fun ρ => ∃ w h : Int, ρ = [.fr (.dict [(.none, .list (ns.map PyData.int))]), .fr stD, .fr (.bool great), .fr (.int many), .fr (.int most), .fr (.int w), .fr (.int h), .no, .no, .no, .no] ∧ (1 ≤ w ∧ w ≤ 10000) ∧ (1 ≤ h ∧ h ≤ 10000)) (st_ifV (Pb := fun _ => True) (etx_and (Pe := fun _ => True) (tG _ rfl) (fun _ => etx_test (Pd := fun d => ∃ b, d = .bool b) (evx_op (Pa := IsI) (Pc := fun d => d = .int 0) (ev_take (n := 1) rfl ev_int (by decide) (by decide) fun v _ _ => ⟨v, rfl⟩) (evx_of ev_int rfl) (by rintro a b ⟨i, rfl⟩ rfl; exact ⟨_, od_eqI, _, rfl⟩)) fun d ⟨b, e⟩ => ⟨b, e, trivial⟩) (fun _ => trivial) fun _ _ _ => trivial) (fun _ => ?_) fun _ => st_next ⟨w0, h0, rfl, ⟨u1, u2⟩, u3, u4⟩) ?_
    · refine st_asgG (d := .tuple [.int 10000, .int 10000]) (ev_tup (ea_cons ev_int (ea_cons ev_int ea_nil)) s2) (gt_tup rfl (gts_cons gt_name (gts_cons gt_name gts_nil))) ?_
      exact ⟨10000, 10000, rfl, by decide, by decide⟩
    rintro ρ ⟨w, h, rfl, hw, hh⟩
    refine q_asgV (evx_plan (n := 1) (st := true) rfl (evx_of (ev_var (d := .int many) rfl) ⟨_, rfl, y1, y2⟩) (evx_of (ev_var (d := .int w) rfl) ⟨_, rfl, hw.1, hw.2⟩) (evx_of (ev_var (d := .int h) rfl) ⟨_, rfl, hh.1, hh.2⟩)) ?_
    intro p hp
    have okp := hp.ok
    have pp := hp.p
    have due : dueD p = .int (lenR p) := by
      obtain ⟨w', h', rs, bs, rfl, V, C, h1, h2⟩ := hp
      exact due_none (plan_right V C h1 h2)
    refine q_no (et_is (et_or (et_not (b := true) (et_trB (ev_call (ea_cons (ev_var (d := p) rfl) ea_nil) ⟨p, rfl, okp, rfl⟩))) fun _ => et_not (b := true) (et_trB (ev_isi (ev_call (d := .int (lenR p)) (ea_cons (ev_var (d := p) rfl) ea_nil) ⟨p, rfl, okp, due.symm⟩) rfl (show kitB _ _ = some true from rfl)))) rfl) ?_
    refine q_asgV (Pd := IsI) (evx_pick2 (n := 1) rfl evi_int (evx_mono (evx_from (n := 1) rfl ev_int (by decide) (by decide)) fun d h => h.i)) ?_
    rintro d ⟨tall, rfl⟩
    have strip : ∀ {ρ : List Sl} {m : Int} {t2 t3 : TE}, 1 ≤ m → m ≤ 41 → EVX K t2 ρ IsI → EVX K t3 ρ IsI → EVX K (tCall (PQ K (fun ds => ∃ (m : Nat) (w h : Int), ds = [.int (m : Int), .int w, .int h] ∧ 1 ≤ m ∧ m ≤ 41) (fun ds d => okT d = true)) [] E0 (tCons (tC (.int m)) (tCons t2 (tCons t3 tNil)))) ρ (OkP okT) := fun {ρ m t2 t3} h1 h2 e2 e3 => by
      refine evx_callQ (Pl := fun ds => ∃ w h : Int, ds = [.int m, .int w, .int h]) (eax_cons (Pa := fun d => d = .int m) (Pl := fun ds => ∃ w h : Int, ds = [.int w, .int h]) (evx_of ev_int rfl) (eax_cons (Pl := fun ds => ∃ h : Int, ds = [.int h]) e2 (eax_one e3 ?_) ?_) ?_) ?_
      · rintro d ⟨i, rfl⟩
        exact ⟨i, rfl⟩
      · rintro d ds ⟨i, rfl⟩ ⟨j, rfl⟩
        exact ⟨i, j, rfl⟩
      · rintro d ds rfl ⟨i, j, rfl⟩
        exact ⟨i, j, rfl⟩
      · rintro ds ⟨i, j, rfl⟩
        exact ⟨⟨m.toNat, i, j, by rw [Int.toNat_of_nonneg (by omega)], by omega, by omega⟩, fun d h => h⟩
    refine q_asgNV (Pd := LstP 2 okT) (evnp_lst (eap_cons (strip (by decide) (by decide) (evx_pick2 (n := 1) rfl (evi_var rfl) evi_int) (evi_var rfl)) (eap_cons (strip (by decide) (by decide) (evi_var rfl) evi_int) eap_nil))) ?_
    rintro d ⟨ds1, rfl, a1⟩
    have z1 := a1.1
    refine q_augP (i := 9) (m := 1) (p := okT) rfl (evx_N (evnp_lst (eap_cons (evx_mono (evx_plan (n := 1) (st := false) rfl (evx_from2 (n := 1) rfl ev_int (by decide) (by decide) (by decide) (by decide)) (evx_from2 (n := 1) rfl ev_int (by decide) (by decide) (by decide) (by decide)) (evx_from2 (n := 1) rfl ev_int (by decide) (by decide) (by decide) (by decide))) fun d h => h.ok) eap_nil))) (by omega) ?_
    intro ds2 a2
    replace a2 := a1.app a2
    have z2 := a2.1
    refine q_augP (i := 9) (m := 1) (p := okT) rfl (evx_N (evnp_lst (eap_cons (evx_of (ev_tup (ea_cons (ev_tup (ea_cons ev_str (ea_cons ev_str (ea_cons ev_str (ea_cons ev_str ea_nil)))) s4) (ea_cons ev_int (ea_cons ev_int (ea_cons (ev_tup (ea_cons (ev_b4 ev_int ev_int ev_int ev_int) (ea_cons (ev_b4 ev_int ev_int ev_int ev_int) (ea_cons (ev_b4 ev_int ev_int ev_int ev_int) (ea_cons (ev_b4 ev_int ev_int ev_int ev_int) ea_nil)))) s4) ea_nil)))) s4) (by decide +kernel)) eap_nil))) (by omega) ?_
    intro ds3 a3
    replace a3 := a2.app a3
    have z3 := a3.1
    have gen : ∀ {ρ : List Sl}, ρ[7]? = some (.fr p) → ρ[1]? = some (.fr stD) → EVX K (tCall (PQ K (fun ds => ∃ p, ds = [p, stD] ∧ PlanP p) (fun ds d => Things 64 d)) [] E0 (tCons (tVar 7) (tCons (tVar 1) tNil))) ρ (Thin 64) := fun {ρ} e1 e2 => by
      refine evx_callQ (Pl := fun ds => ds = [p, stD]) (eax_of (ea_cons (ev_var e1) (ea_cons (ev_var e2) ea_nil)) rfl) ?_
      rintro ds rfl
      exact ⟨⟨p, rfl, pp⟩, fun d h => h⟩
    refine q_augL (i := 9) (ds := ds1 ++ ds2 ++ ds3) (Pd := Thin (64 + 64 + 64 + 64)) rfl (evx_thin (evx_thin (evx_thin (gen rfl rfl) (gen rfl rfl) (by decide)) (gen rfl rfl) (by decide)) (gen rfl rfl) (by decide)) ?_
    rintro d ⟨ts, rfl, lt, ht⟩
    refine ⟨ts, rfl, by omega, ?_⟩
    show ST K E0 _ [.fr (.dict [(.none, .list (ns.map PyData.int))]), .fr stD, .fr (.bool great), .fr (.int many), .fr (.int most), .fr (.int w), .fr (.int h), .fr p, .fr (.int tall), .ow (.list (ds1 ++ ds2 ++ ds3 ++ ts)), .no] _
    generalize hx : ds1 ++ ds2 ++ ds3 ++ ts = things
    have ok : ∀ t ∈ things, okT t = true := by
      intro t h
      rw [← hx] at h
      rcases List.mem_append.mp h with h | h
      · exact List.all_eq_true.mp a3.2 t h
      · exact ht t h
    refine q_frz (i := 9) rfl ?_
    refine q_for (ei_list (ds := things) (ev_var rfl)) (fun _ ρ => ∃ s10 : Sl, ρ = [.fr (.dict [(.none, .list (ns.map PyData.int))]), .fr stD, .fr (.bool great), .fr (.int many), .fr (.int most), .fr (.int w), .fr (.int h), .fr p, .fr (.int tall), .fr (.list things), s10]) ⟨_, rfl⟩ ?_ ?_
    · rintro i ρ hi ⟨s10, rfl⟩
      refine ⟨_, _, gt_name, ?_⟩
      have := ok _ (DL.getD_mem (z := PyData.none) hi)
      exact st_if (b := false) (et_not (b := true) (et_trB (ev_call (ea_cons (ev_var rfl) ea_nil) ⟨_, rfl, this, rfl⟩))) (fun z => nomatch z) fun _ => st_next ⟨_, rfl⟩
    rintro ρ ⟨s10, rfl⟩
    exact st_ret (ev_call (ea_cons (ev_var rfl) ea_nil) ⟨p, rfl, okp, rfl⟩) rfl

end
set_option maxHeartbeats 0
def d_name_fault : He.DefD := ⟨("name_fault", none), "name_fault", "name_fault", defArgs s_name_fault, defBody s_name_fault, defScope s_name_fault, [], []⟩
def d_is_integer : He.DefD := ⟨("is_integer", none), "is_integer", "is_integer", defArgs s_is_integer, defBody s_is_integer, defScope s_is_integer, [], []⟩
def d_integer_within : He.DefD := ⟨("integer_within", none), "integer_within", "integer_within", defArgs s_integer_within, defBody s_integer_within, defScope s_integer_within, [], []⟩
def d_is_tuple : He.DefD := ⟨("is_tuple", none), "is_tuple", "is_tuple", defArgs s_is_tuple, defBody s_is_tuple, defScope s_is_tuple, [], []⟩
def d_rooms_fault : He.DefD := ⟨("rooms_fault", none), "rooms_fault", "rooms_fault", defArgs s_rooms_fault, defBody s_rooms_fault, defScope s_rooms_fault, [], []⟩
def d_four_meet : He.DefD := ⟨("four_meet", none), "four_meet", "four_meet", defArgs s_four_meet, defBody s_four_meet, defScope s_four_meet, [], []⟩
def d_plan_shaped : He.DefD := ⟨("plan_shaped", none), "plan_shaped", "plan_shaped", defArgs s_plan_shaped, defBody s_plan_shaped, defScope s_plan_shaped, [], []⟩
def d_is_box : He.DefD := ⟨("is_box", none), "is_box", "is_box", defArgs s_is_box, defBody s_is_box, defScope s_is_box, [], []⟩
def d_boxes_overlap : He.DefD := ⟨("boxes_overlap", none), "boxes_overlap", "boxes_overlap", defArgs s_boxes_overlap, defBody s_boxes_overlap, defScope s_boxes_overlap, [], []⟩
def d_plan_fault : He.DefD := ⟨("plan_fault", none), "plan_fault", "plan_fault", defArgs s_plan_fault, defBody s_plan_fault, defScope s_plan_fault, [], []⟩
def d_check_plan : He.DefD := ⟨("check_plan", none), "check_plan", "check_plan", defArgs s_check_plan, defBody s_check_plan, defScope s_check_plan, [], []⟩
def d_u_law_state : He.DefD := ⟨("_law_state", none), "_law_state", "_law_state", defArgs s_u_law_state, defBody s_u_law_state, defScope s_u_law_state, [], []⟩
def d_u_law_take : He.DefD := ⟨("_law_take", none), "_law_take", "_law_take", defArgs s_u_law_take, defBody s_u_law_take, defScope s_u_law_take, [], []⟩
def d_u_law_names : He.DefD := ⟨("_law_names", none), "_law_names", "_law_names", defArgs s_u_law_names, defBody s_u_law_names, defScope s_u_law_names, [], []⟩
def d_u_law_mill : He.DefD := ⟨("_law_mill", none), "_law_mill", "_law_mill", defArgs s_u_law_mill, defBody s_u_law_mill, defScope s_u_law_mill, [], []⟩
def d_u_law_cuts : He.DefD := ⟨("_law_cuts", none), "_law_cuts", "_law_cuts", defArgs s_u_law_cuts, defBody s_u_law_cuts, defScope s_u_law_cuts, [], []⟩
def d_u_law_plan : He.DefD := ⟨("_law_plan", none), "_law_plan", "_law_plan", defArgs s_u_law_plan, defBody s_u_law_plan, defScope s_u_law_plan, [], []⟩
def d_u_law_whole : He.DefD := ⟨("_law_whole", none), "_law_whole", "_law_whole", defArgs s_u_law_whole, defBody s_u_law_whole, defScope s_u_law_whole, [], []⟩
def d_u_law_name : He.DefD := ⟨("_law_name", none), "_law_name", "_law_name", defArgs s_u_law_name, defBody s_u_law_name, defScope s_u_law_name, [], []⟩
def d_u_law_box : He.DefD := ⟨("_law_box", none), "_law_box", "_law_box", defArgs s_u_law_box, defBody s_u_law_box, defScope s_u_law_box, [], []⟩
def d_u_law_form : He.DefD := ⟨("_law_form", none), "_law_form", "_law_form", defArgs s_u_law_form, defBody s_u_law_form, defScope s_u_law_form, [], []⟩
def d_u_law_due : He.DefD := ⟨("_law_due", none), "_law_due", "_law_due", defArgs s_u_law_due, defBody s_u_law_due, defScope s_u_law_due, [], []⟩
def d_u_law_ask : He.DefD := ⟨("_law_ask", none), "_law_ask", "_law_ask", defArgs s_u_law_ask, defBody s_u_law_ask, defScope s_u_law_ask, [], []⟩
def d_u_law_forms : He.DefD := ⟨("_law_forms", none), "_law_forms", "_law_forms", defArgs s_u_law_forms, defBody s_u_law_forms, defScope s_u_law_forms, [], []⟩
def d_u_law_strip : He.DefD := ⟨("_law_strip", none), "_law_strip", "_law_strip", defArgs s_u_law_strip, defBody s_u_law_strip, defScope s_u_law_strip, [], []⟩
def d_u_law_put : He.DefD := ⟨("_law_put", none), "_law_put", "_law_put", defArgs s_u_law_put, defBody s_u_law_put, defScope s_u_law_put, [], []⟩
def d_u_law_named : He.DefD := ⟨("_law_named", none), "_law_named", "_law_named", defArgs s_u_law_named, defBody s_u_law_named, defScope s_u_law_named, [], []⟩
def d_u_law_boxed : He.DefD := ⟨("_law_boxed", none), "_law_boxed", "_law_boxed", defArgs s_u_law_boxed, defBody s_u_law_boxed, defScope s_u_law_boxed, [], []⟩
def d_u_law_moved : He.DefD := ⟨("_law_moved", none), "_law_moved", "_law_moved", defArgs s_u_law_moved, defBody s_u_law_moved, defScope s_u_law_moved, [], []⟩
def d_law : He.DefD := ⟨("law", none), "law", "law", defArgs s_law, defBody s_law, defScope s_law, [], []⟩
def d_i_BadScheme : He.DefD := ⟨("BadScheme", some "__init__"), "__init__", "BadScheme.__init__", defArgs s_i_BadScheme, defBody s_i_BadScheme, defScope s_i_BadScheme, [], []⟩
def d_i_BadPlan : He.DefD := ⟨("BadPlan", some "__init__"), "__init__", "BadPlan.__init__", defArgs s_i_BadPlan, defBody s_i_BadPlan, defScope s_i_BadPlan, [], []⟩
def d_i_BadLayout : He.DefD := ⟨("BadLayout", some "__init__"), "__init__", "BadLayout.__init__", defArgs s_i_BadLayout, defBody s_i_BadLayout, defScope s_i_BadLayout, [], []⟩
def fn0 : List He.DefD := [d_name_fault, d_is_integer, d_integer_within, d_is_tuple, d_rooms_fault, d_four_meet, d_plan_shaped, d_is_box, d_boxes_overlap, d_plan_fault, d_check_plan, d_u_law_state, d_u_law_take, d_u_law_names, d_u_law_mill, d_u_law_cuts, d_u_law_plan, d_u_law_whole, d_u_law_name, d_u_law_box, d_u_law_form, d_u_law_due, d_u_law_ask, d_u_law_forms]
def fn1 : List He.DefD := [d_u_law_strip, d_u_law_put, d_u_law_named, d_u_law_boxed, d_u_law_moved, d_law, d_i_BadScheme, d_i_BadPlan, d_i_BadLayout]
def fn : List He.DefD := fn0 ++ fn1
def fa0 : List He.Fa := [.glo "name_fault", .glo "is_integer", .glo "integer_within", .glo "is_tuple", .glo "rooms_fault", .glo "four_meet", .glo "plan_shaped", .glo "is_box", .glo "boxes_overlap", .glo "plan_fault", .glo "check_plan", .glo "_law_state", .glo "_law_take", .glo "_law_names", .glo "_law_mill", .glo "_law_cuts", .glo "_law_plan", .glo "_law_whole", .glo "_law_name", .glo "_law_box", .glo "_law_form", .glo "_law_due", .glo "_law_ask", .glo "_law_forms"]
def fa1 : List He.Fa := [.glo "_law_strip", .glo "_law_put", .glo "_law_named", .glo "_law_boxed", .glo "_law_moved", .glo "law", .glo "PlanError", .glo "DataError", .glo "CallError", .glo "TextError", .glo "DeskError", .glo "BadScheme", .glo "BadPlan", .glo "BadLayout", .free "ValueError", .free "abs", .free "any", .free "bool", .free "enumerate", .free "int", .free "isinstance", .free "len", .free "list", .free "max"]
def fa2 : List He.Fa := [.free "min", .free "range", .free "sorted", .free "str", .free "sum", .free "tuple", .int "NAME_MOST" (8), .int "ROOMS_MOST" (40), .int "PLAN_MOST" (10000), .str "LETTERS" "abcdefghijklmnopqrstuvwxyz", .str "FIGURES" "0123456789", .noat "BadScheme" "at", .noat "BadScheme" "word", .noat "BadPlan" "at", .noat "BadPlan" "word", .noat "BadLayout" "word", .noat "BadLayout" "at", .exm "BadPlan" "BadPlan" true]
def fa : List He.Fa := fa0 ++ fa1 ++ fa2
def ex (K : PySem.W.Frag) : Bool := [exB K (He.ga K "PlanError"), exB K (He.ga K "DataError"), exB K (He.ga K "CallError"), exB K (He.ga K "TextError"), exB K (He.ga K "DeskError"), exB K (He.ga K "BadScheme"), exB K (He.ga K "BadPlan"), exB K (He.ga K "BadLayout"), exI K (He.ga K "BadScheme"), exI K (He.ga K "BadPlan"), exI K (He.ga K "BadLayout"), kitR K (He.ga K "BadPlan") (He.ga K "BadPlan") true, kitR K (He.ga K "BadPlan") (He.ga K "DataError") true, kitR K (He.ga K "BadPlan") (He.ga K "PlanError") true, kitT K (He.ga K "BadPlan") "ValueError" true, kitR K (He.ga K "BadPlan") (He.ga K "BadScheme") false, kitR K (He.ga K "BadPlan") (He.ga K "BadLayout") false, kitR K (He.ga K "BadPlan") (He.ga K "CallError") false, kitR K (He.ga K "BadPlan") (He.ga K "TextError") false, kitR K (He.ga K "BadPlan") (He.ga K "DeskError") false].all id
def loose0 : List PySem.Str := ["NAME_MOST", "ROOMS_MOST", "PLAN_MOST", "__name__", "PlanError", "DataError", "CallError", "TextError", "DeskError", "BadScheme", "BadPlan", "BadLayout", "LETTERS", "FIGURES", "name_fault", "is_integer", "integer_within", "is_tuple", "rooms_fault", "check_plan", "plan_fault", "plan_shaped", "is_box", "boxes_overlap"]
def loose1 : List PySem.Str := ["four_meet", "_law_state", "_law_take", "_law_names", "_law_mill", "_law_cuts", "_law_plan", "_law_whole", "_law_name", "_law_box", "_law_form", "_law_due", "_law_ask", "_law_forms", "_law_strip", "_law_put", "_law_named", "_law_boxed", "_law_moved"]
def loose : List PySem.Str := loose0 ++ loose1
abbrev R : PySem.W.OpenRow := PySem.W.OpenLaw.row PySem.Challenge.rw_wallsaswished_k15_check_plan
abbrev hk : PySem.W.Hook := hookB 5 fa fn ex
def ob (s : PySem.W.SharedT) : AlB := obsBG 5 fa fn ex (HandSHeadRun.getT s)
theorem ob_eq (s : PySem.W.SharedT) : ob s = hk.obs s.abs := obsBG_eq (HandSHeadRun.getT_eq s)
theorem run (w : World) : HandSHeadRun.RunEq R (PySem.W.view R.prog [47]) hk ob 6000 loose w := by
  intro os
  kernel_rfl
theorem txt {K : PySem.W.Frag} {h : Heap} {mg : Str → Option Value} (X : K.In h) (G : h.Ns mainGlobals mg) (c : SaysB fa fn ex K) : Txt K mg where
  f_ValueError := He.free_ok X G (c.d.fact 38 (f := .free "ValueError") rfl)
  f_abs := He.free_ok X G (c.d.fact 39 (f := .free "abs") rfl)
  f_any := He.free_ok X G (c.d.fact 40 (f := .free "any") rfl)
  f_bool := He.free_ok X G (c.d.fact 41 (f := .free "bool") rfl)
  f_enumerate := He.free_ok X G (c.d.fact 42 (f := .free "enumerate") rfl)
  f_int := He.free_ok X G (c.d.fact 43 (f := .free "int") rfl)
  f_isinstance := He.free_ok X G (c.d.fact 44 (f := .free "isinstance") rfl)
  f_len := He.free_ok X G (c.d.fact 45 (f := .free "len") rfl)
  f_list := He.free_ok X G (c.d.fact 46 (f := .free "list") rfl)
  f_max := He.free_ok X G (c.d.fact 47 (f := .free "max") rfl)
  f_min := He.free_ok X G (c.d.fact 48 (f := .free "min") rfl)
  f_range := He.free_ok X G (c.d.fact 49 (f := .free "range") rfl)
  f_sorted := He.free_ok X G (c.d.fact 50 (f := .free "sorted") rfl)
  f_str := He.free_ok X G (c.d.fact 51 (f := .free "str") rfl)
  f_sum := He.free_ok X G (c.d.fact 52 (f := .free "sum") rfl)
  f_tuple := He.free_ok X G (c.d.fact 53 (f := .free "tuple") rfl)
  g_PlanError := He.glo_ok X G (c.d.fact 30 (f := .glo "PlanError") rfl)
  g_DataError := He.glo_ok X G (c.d.fact 31 (f := .glo "DataError") rfl)
  g_CallError := He.glo_ok X G (c.d.fact 32 (f := .glo "CallError") rfl)
  g_TextError := He.glo_ok X G (c.d.fact 33 (f := .glo "TextError") rfl)
  g_DeskError := He.glo_ok X G (c.d.fact 34 (f := .glo "DeskError") rfl)
  g_BadScheme := He.glo_ok X G (c.d.fact 35 (f := .glo "BadScheme") rfl)
  g_BadPlan := He.glo_ok X G (c.d.fact 36 (f := .glo "BadPlan") rfl)
  g_BadLayout := He.glo_ok X G (c.d.fact 37 (f := .glo "BadLayout") rfl)
  c_NAME_MOST := He.int_ok X G (c.d.fact 54 (f := .int "NAME_MOST" (8)) rfl)
  c_ROOMS_MOST := He.int_ok X G (c.d.fact 55 (f := .int "ROOMS_MOST" (40)) rfl)
  c_PLAN_MOST := He.int_ok X G (c.d.fact 56 (f := .int "PLAN_MOST" (10000)) rfl)
  c_LETTERS := He.str_ok X G (c.d.fact 57 (f := .str "LETTERS" "abcdefghijklmnopqrstuvwxyz") rfl)
  c_FIGURES := He.str_ok X G (c.d.fact 58 (f := .str "FIGURES" "0123456789") rfl)
  n_BadScheme_at := He.noat_ok (c.d.fact 59 (f := .noat "BadScheme" "at") rfl)
  n_BadScheme_word := He.noat_ok (c.d.fact 60 (f := .noat "BadScheme" "word") rfl)
  n_BadPlan_at := He.noat_ok (c.d.fact 61 (f := .noat "BadPlan" "at") rfl)
  n_BadPlan_word := He.noat_ok (c.d.fact 62 (f := .noat "BadPlan" "word") rfl)
  n_BadLayout_word := He.noat_ok (c.d.fact 63 (f := .noat "BadLayout" "word") rfl)
  n_BadLayout_at := He.noat_ok (c.d.fact 64 (f := .noat "BadLayout" "at") rfl)
  x_PlanError := exB_ok (allB c.more 0 rfl)
  x_DataError := exB_ok (allB c.more 1 rfl)
  x_CallError := exB_ok (allB c.more 2 rfl)
  x_TextError := exB_ok (allB c.more 3 rfl)
  x_DeskError := exB_ok (allB c.more 4 rfl)
  x_BadScheme := exB_ok (allB c.more 5 rfl)
  x_BadPlan := exB_ok (allB c.more 6 rfl)
  x_BadLayout := exB_ok (allB c.more 7 rfl)
  i_BadScheme := exI_ok (allB c.more 8 rfl)
  i_BadPlan := exI_ok (allB c.more 9 rfl)
  i_BadLayout := exI_ok (allB c.more 10 rfl)
  k_BadPlan_BadPlan := kitR_ok (allB c.more 11 rfl)
  k_BadPlan_DataError := kitR_ok (allB c.more 12 rfl)
  k_BadPlan_PlanError := kitR_ok (allB c.more 13 rfl)
  k_BadPlan_ValueError := kitT_ok (allB c.more 14 rfl)
  k_BadPlan_BadScheme := kitR_ok (allB c.more 15 rfl)
  k_BadPlan_BadLayout := kitR_ok (allB c.more 16 rfl)
  k_BadPlan_CallError := kitR_ok (allB c.more 17 rfl)
  k_BadPlan_TextError := kitR_ok (allB c.more 18 rfl)
  k_BadPlan_DeskError := kitR_ok (allB c.more 19 rfl)
  e_BadPlan_BadPlan := He.exm_ok (c.d.fact 65 (f := .exm "BadPlan" "BadPlan" true) rfl)
theorem oi_BadScheme {P : Program} {w : World} {K : PySem.W.Frag} {mg : Str → Option Value} {base : Heap} (T : Txt K mg) (F : ∃ fd, FunD K "__init__" "BadScheme.__init__" (defArgs s_i_BadScheme) (defBody s_i_BadScheme) (defScope s_i_BadScheme) [] [] (He.ma K (He.ga K "BadScheme") "__init__") fd) : ExOk P w K mg base 1 "BadScheme" ["at", "word"] := by
  obtain ⟨fd, F⟩ := F
  exact ⟨T.g_BadScheme, T.x_BadScheme, T.i_BadScheme, fd, fn_init2 F sc_i_BadScheme rfl T.x_BadScheme.oex T.n_BadScheme_at T.n_BadScheme_word (fun _ _ _ _ _ _ => pss_cons (ps_ost (pv 0) (pv 1)) (pss_one (ps_ost (pv 0) (pv 2)))), F.bindsN (fun _ _ _ _ _ _ us hl => match us, hl with | [_, _, _], _ => rfl)⟩
theorem oi_BadPlan {P : Program} {w : World} {K : PySem.W.Frag} {mg : Str → Option Value} {base : Heap} (T : Txt K mg) (F : ∃ fd, FunD K "__init__" "BadPlan.__init__" (defArgs s_i_BadPlan) (defBody s_i_BadPlan) (defScope s_i_BadPlan) [] [] (He.ma K (He.ga K "BadPlan") "__init__") fd) : ExOk P w K mg base 1 "BadPlan" ["at", "word"] := by
  obtain ⟨fd, F⟩ := F
  exact ⟨T.g_BadPlan, T.x_BadPlan, T.i_BadPlan, fd, fn_init2 F sc_i_BadPlan rfl T.x_BadPlan.oex T.n_BadPlan_at T.n_BadPlan_word (fun _ _ _ _ _ _ => pss_cons (ps_ost (pv 0) (pv 1)) (pss_one (ps_ost (pv 0) (pv 2)))), F.bindsN (fun _ _ _ _ _ _ us hl => match us, hl with | [_, _, _], _ => rfl)⟩
theorem oi_BadLayout {P : Program} {w : World} {K : PySem.W.Frag} {mg : Str → Option Value} {base : Heap} (T : Txt K mg) (F : ∃ fd, FunD K "__init__" "BadLayout.__init__" (defArgs s_i_BadLayout) (defBody s_i_BadLayout) (defScope s_i_BadLayout) [] [] (He.ma K (He.ga K "BadLayout") "__init__") fd) : ExOk P w K mg base 1 "BadLayout" ["word", "at"] := by
  obtain ⟨fd, F⟩ := F
  exact ⟨T.g_BadLayout, T.x_BadLayout, T.i_BadLayout, fd, fn_init2 F sc_i_BadLayout rfl T.x_BadLayout.oex T.n_BadLayout_word T.n_BadLayout_at (fun _ _ _ _ _ _ => pss_cons (ps_ost (pv 0) (pv 1)) (pss_one (ps_ost (pv 0) (pv 2)))), F.bindsN (fun _ _ _ _ _ _ us hl => match us, hl with | [_, _, _], _ => rfl)⟩
theorem facts {P : Program} {w : World} {K : PySem.W.Frag} {h : Heap} {mg : Str → Option Value} (X : K.In h) (G : h.Ns mainGlobals mg) (c : SaysB fa fn ex K) {fd : FuncData} (F : FunD K "law" "law" (defArgs s_law) (defBody s_law) (defScope s_law) [] [] (He.ga K "law") fd) (base : Heap) : FnOk P w K mg base CX0 7 (He.ga K "law") fd ["script"] (sp_law K) := by
  have T := txt X G c
  have X_BadScheme : ExOk P w K mg base 1 "BadScheme" ["at", "word"] := oi_BadScheme T (c.d.def_ 30 (d := d_i_BadScheme) rfl)
  have X_BadPlan : ExOk P w K mg base 1 "BadPlan" ["at", "word"] := oi_BadPlan T (c.d.def_ 31 (d := d_i_BadPlan) rfl)
  have X_BadLayout : ExOk P w K mg base 1 "BadLayout" ["word", "at"] := oi_BadLayout T (c.d.def_ 32 (d := d_i_BadLayout) rfl)
  have O_name_fault := ok_name_fault (P := P) (w := w) (base := base) T (c.d.def_ 0 (d := d_name_fault) rfl) (He.glo_ok X G (c.d.fact 0 (f := .glo "name_fault") rfl)) 
  have O_is_integer := ok_is_integer (P := P) (w := w) (base := base) T (c.d.def_ 1 (d := d_is_integer) rfl) (He.glo_ok X G (c.d.fact 1 (f := .glo "is_integer") rfl)) 
  have O_integer_within := ok_integer_within (P := P) (w := w) (base := base) T (c.d.def_ 2 (d := d_integer_within) rfl) (He.glo_ok X G (c.d.fact 2 (f := .glo "integer_within") rfl)) ‹_›
  have O_is_tuple := ok_is_tuple (P := P) (w := w) (base := base) T (c.d.def_ 3 (d := d_is_tuple) rfl) (He.glo_ok X G (c.d.fact 3 (f := .glo "is_tuple") rfl)) 
  have O_rooms_fault := ok_rooms_fault (P := P) (w := w) (base := base) T (c.d.def_ 4 (d := d_rooms_fault) rfl) (He.glo_ok X G (c.d.fact 4 (f := .glo "rooms_fault") rfl)) ‹_›
  have O_four_meet := ok_four_meet (P := P) (w := w) (base := base) T (c.d.def_ 5 (d := d_four_meet) rfl) (He.glo_ok X G (c.d.fact 5 (f := .glo "four_meet") rfl)) 
  have O_plan_shaped := ok_plan_shaped (P := P) (w := w) (base := base) T (c.d.def_ 6 (d := d_plan_shaped) rfl) (He.glo_ok X G (c.d.fact 6 (f := .glo "plan_shaped") rfl)) ‹_› ‹_›
  have O_is_box := ok_is_box (P := P) (w := w) (base := base) T (c.d.def_ 7 (d := d_is_box) rfl) (He.glo_ok X G (c.d.fact 7 (f := .glo "is_box") rfl)) ‹_› ‹_›
  have O_boxes_overlap := ok_boxes_overlap (P := P) (w := w) (base := base) T (c.d.def_ 8 (d := d_boxes_overlap) rfl) (He.glo_ok X G (c.d.fact 8 (f := .glo "boxes_overlap") rfl)) 
  have O_plan_fault := ok_plan_fault (P := P) (w := w) (base := base) T (c.d.def_ 9 (d := d_plan_fault) rfl) (He.glo_ok X G (c.d.fact 9 (f := .glo "plan_fault") rfl)) ‹_› ‹_› ‹_› ‹_› ‹_›
  have O_check_plan := ok_check_plan (P := P) (w := w) (base := base) T (c.d.def_ 10 (d := d_check_plan) rfl) (He.glo_ok X G (c.d.fact 10 (f := .glo "check_plan") rfl)) ‹_› ‹_›
  have O_u_law_state := ok_u_law_state (P := P) (w := w) (base := base) T (c.d.def_ 11 (d := d_u_law_state) rfl) (He.glo_ok X G (c.d.fact 11 (f := .glo "_law_state") rfl)) 
  have O_u_law_take := ok_u_law_take (P := P) (w := w) (base := base) T (c.d.def_ 12 (d := d_u_law_take) rfl) (He.glo_ok X G (c.d.fact 12 (f := .glo "_law_take") rfl)) 
  have O_u_law_names := ok_u_law_names (P := P) (w := w) (base := base) T (c.d.def_ 13 (d := d_u_law_names) rfl) (He.glo_ok X G (c.d.fact 13 (f := .glo "_law_names") rfl)) ‹_›
  have O_u_law_mill := ok_u_law_mill (P := P) (w := w) (base := base) T (c.d.def_ 14 (d := d_u_law_mill) rfl) (He.glo_ok X G (c.d.fact 14 (f := .glo "_law_mill") rfl)) ‹_›
  have O_u_law_cuts := ok_u_law_cuts (P := P) (w := w) (base := base) T (c.d.def_ 15 (d := d_u_law_cuts) rfl) (He.glo_ok X G (c.d.fact 15 (f := .glo "_law_cuts") rfl)) ‹_› ‹_›
  have O_u_law_plan := ok_u_law_plan (P := P) (w := w) (base := base) T (c.d.def_ 16 (d := d_u_law_plan) rfl) (He.glo_ok X G (c.d.fact 16 (f := .glo "_law_plan") rfl)) ‹_› ‹_› ‹_›
  have O_u_law_whole := ok_u_law_whole (P := P) (w := w) (base := base) T (c.d.def_ 17 (d := d_u_law_whole) rfl) (He.glo_ok X G (c.d.fact 17 (f := .glo "_law_whole") rfl)) 
  have O_u_law_name := ok_u_law_name (P := P) (w := w) (base := base) T (c.d.def_ 18 (d := d_u_law_name) rfl) (He.glo_ok X G (c.d.fact 18 (f := .glo "_law_name") rfl)) 
  have O_u_law_box := ok_u_law_box (P := P) (w := w) (base := base) T (c.d.def_ 19 (d := d_u_law_box) rfl) (He.glo_ok X G (c.d.fact 19 (f := .glo "_law_box") rfl)) ‹_›
  have O_u_law_form := ok_u_law_form (P := P) (w := w) (base := base) T (c.d.def_ 20 (d := d_u_law_form) rfl) (He.glo_ok X G (c.d.fact 20 (f := .glo "_law_form") rfl)) ‹_›
  have O_u_law_due := ok_u_law_due (P := P) (w := w) (base := base) T (c.d.def_ 21 (d := d_u_law_due) rfl) (He.glo_ok X G (c.d.fact 21 (f := .glo "_law_due") rfl)) ‹_› ‹_› ‹_›
  have O_u_law_ask := ok_u_law_ask (P := P) (w := w) (base := base) T (c.d.def_ 22 (d := d_u_law_ask) rfl) (He.glo_ok X G (c.d.fact 22 (f := .glo "_law_ask") rfl)) ‹_› ‹_› ‹_› ‹_›
  have O_u_law_forms := ok_u_law_forms (P := P) (w := w) (base := base) T (c.d.def_ 23 (d := d_u_law_forms) rfl) (He.glo_ok X G (c.d.fact 23 (f := .glo "_law_forms") rfl)) ‹_›
  have O_u_law_strip := ok_u_law_strip (P := P) (w := w) (base := base) T (c.d.def_ 24 (d := d_u_law_strip) rfl) (He.glo_ok X G (c.d.fact 24 (f := .glo "_law_strip") rfl)) 
  have O_u_law_put := ok_u_law_put (P := P) (w := w) (base := base) T (c.d.def_ 25 (d := d_u_law_put) rfl) (He.glo_ok X G (c.d.fact 25 (f := .glo "_law_put") rfl)) 
  have O_u_law_named := ok_u_law_named (P := P) (w := w) (base := base) T (c.d.def_ 26 (d := d_u_law_named) rfl) (He.glo_ok X G (c.d.fact 26 (f := .glo "_law_named") rfl)) ‹_› ‹_›
  have O_u_law_boxed := ok_u_law_boxed (P := P) (w := w) (base := base) T (c.d.def_ 27 (d := d_u_law_boxed) rfl) (He.glo_ok X G (c.d.fact 27 (f := .glo "_law_boxed") rfl)) ‹_› ‹_›
  have O_u_law_moved := ok_u_law_moved (P := P) (w := w) (base := base) T (c.d.def_ 28 (d := d_u_law_moved) rfl) (He.glo_ok X G (c.d.fact 28 (f := .glo "_law_moved") rfl)) ‹_› ‹_› ‹_›
  exact ok_law T F ‹_› ‹_› ‹_› ‹_› ‹_› ‹_› ‹_› ‹_› ‹_› ‹_›
theorem fin {P : Program} {w : World} {K : PySem.W.Frag} {h : Heap} {mg : Str → Option Value} {f : Addr} (X : K.In h) (G : h.Ns mainGlobals mg) (c : SaysB fa fn ex K) (hm : mg ("law" : Str) = some (.ref f)) :
    ∃ (K : PySem.W.Frag) (fd : FuncData) (sp : Sp), K.In h ∧ (∀ (s : Shared) (u : Value), BindsTo s fd ⟨[u], []⟩ [(("script" : Str), u)]) ∧
      (∀ (H : Hp) (a : Addr) (ns : List Int), ns.length ≤ 63 → Only H → SqL K H a (ns.map V.int) → sp [.ref a] H (fun v _ => v = .bl true) fun _ _ _ => False) ∧
      ∀ base : Heap, K.In base → base.Ns mainGlobals mg → FnOk P w K mg base CX0 7 f fd ["script"] sp := by
  obtain ⟨fd, F⟩ := c.d.def_ 29 (d := d_law) rfl
  have e := hm.symm.trans (He.glo_ok X G (c.d.fact 29 (f := .glo "law") rfl))
  cases e
  have b := FunD.bindsA (ps := ["script"]) F fun _ _ _ _ _ _ us hl => match us, hl with | [_], _ => rfl
  refine ⟨K, fd, sp_law K, X, fun s v => b s [v] rfl, fun H a ns hl hO hS => ?_, fun base hK hG => facts X G c F base⟩
  exact ⟨H, _, _, GH.only hO, .cons (.scr hS) .nil, ⟨ns, rfl, hl, rfl⟩, fun v G' H' _ hv => by cases hv; rfl⟩
end K15

open PySem PySem.W PySem.Calls PyProof.Rows
theorem PySem.Challenge.cw_wallsaswished_k15_check_plan_holds : PySem.Challenge.rw_wallsaswished_k15_check_plan.Holds := by
  w_on
  o_law
  refine HandSHeadRun.head_any (r := K15.R) (q := view (OpenLaw.row PySem.Challenge.rw_wallsaswished_k15_check_plan).prog [47])
    (H := K15.hk) (ob := K15.ob) (M := 6000) (loose := K15.loose)
    (d := HandSHeadRun.topDef (OpenLaw.row PySem.Challenge.rw_wallsaswished_k15_check_plan).prog 47) (kwd := []) K15.ob_eq
    (by kernel_rfl) (fun s => by kernel_rfl) K15.run
    (by kernel_rfl) (by kernel_rfl) (by kernel_rfl) (by rfl) (by first | assumption | decide +kernel)
    (by decide +kernel) ⟨rfl, rfl, rfl, rfl, rfl, by decide +kernel⟩ ?hw ?hc
  case hw => w_witness2
  case hc =>
    refine L2.walk_ofE (l := PySem.Challenge.rw_wallsaswished_k15_check_plan) (n := 63) (k := 7) (x := "script") (CX := L2.CX0)
      rfl (by decide) (by kernel_rfl) ⟨rfl, by decide, by decide⟩ ?F (fun _ _ _ _ z => z)
    intro w mg fa h Y G hmg0
    obtain ⟨K, KX, c⟩ := Y
    have hn : (HandSHeadRun.topDef (OpenLaw.row PySem.Challenge.rw_wallsaswished_k15_check_plan).prog 47).name = ("law" : PySem.Str) := by kernel_rfl
    rw [hn] at hmg0
    exact K15.fin KX G c hmg0
