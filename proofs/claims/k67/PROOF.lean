import PyProof.Rows.All
import PySem.Challenge.RW_everytree_k67_whole_naive
import Wide.All
import OpenK.AllK
import Wide.FinOn
import HandS.ForMost
import HandS.Exc
import HandS.TryOnly
import HandS.ExcOwn
import HandS.WordsExc
import HandS.TupAny
import HandS.IsInst
import HandS.Deep
import HandS.Wide
import HandS.Lambda
import HandS.EndTab
import HandS.SortKw
import HandS.Zip
import HandS.TupMul
import HandS.Style
import HandS.SetFor
import HandS.Dict
import HandS.DictTup
import HandS.Iter
import PyProof.DictMoreH
import KE.SortData
import KE.SortKeyHeap
import KE.KDictPairs
import HandS.Defaults
import HandS.HeadHook2
import HandS.Ends
import HandS.HeadEnd
import HandS.Head2
import HandS.HeadHook4
import HandS.ExcIs
import KE.DataFind
import PyProof.ExcBaseAll.ValueError

set_option Elab.async false
section
set_option Elab.async false
set_option linter.all false
set_option maxRecDepth 100000
/-! De0: the data layer's ground: how plain data stand in the abstract heap, what an expression's value is by its mirror. -/
namespace De
open PySem PySem.Spec PyProof.Rows L2

abbrev D := PyData
/-- what a slot holds: data that stand still; a list or dict of one's own; any other value; a dict that is locked -/
inductive Sl where
  | dat (d : D) | own (d : D) | raw (v : V) | lck (d : D)
abbrev Rho := List (Option Sl)
/-- an answer: a value, an exception of a class of the program, or none of these -/
inductive Res (α : Type) where
  | ok (a : α) | exc (c : Str) | stuck
  deriving DecidableEq
@[simp] def Res.bind {α β : Type} (x : Res α) (f : α → Res β) : Res β := match x with
  | .ok a => f a
  | .exc c => .exc c
  | .stuck => .stuck
abbrev M := Rho → Res D

/-- a key as a datum -/
def kD : Key → D
  | .inl i => .int i
  | .inr x => .str x

/-- the law's script, told apart from the lists that the program makes -/
def scrD (ns : List Int) : D := .dict [(.none, .list (ns.map PyData.int))]
/-- the texts of the tuples that the program's top writes: no keys of dicts -/
def wrName (x : Str) : Bool := decide (x = "loop") || decide (x = "outside")
/-- the items can be a key of a dict -/
def keyish : List D → Bool
  | [] => false
  | ds => ds.all fun d => match d with
    | .str _ | .int _ => true
    | _ => false
/-- a tuple's object without a dict of its own -/
def PlainO (o : Obj) : Prop := o.cls = .type "tuple" ∧ o.dict = none
/-- how a tuple stands: one that can be a key as itself; any other one with its object -/
def mkT (k : Bool) (o : Obj) (xs : List V) : HO := if k = true then .tup xs else .frz o (.tup xs)
theorem mkT_sq {K : PySem.W.Frag} {G : Hp} {a : Addr} {k : Bool} {o : Obj} {xs : List V} (h : G a = some (mkT k o xs)) : SqT K G a xs := by
  unfold mkT at h
  split at h
  · exact .inl (.inl h)
  · exact .inl (.inr ⟨o, h⟩)
/-- a tuple's description -/
def tupO (o : HO) : Prop := (∃ xs, o = .tup xs) ∨ ∃ z xs, o = .frz z (.tup xs)
theorem mkT_tupO (k : Bool) (o : Obj) (xs : List V) : tupO (mkT k o xs) := by
  unfold mkT
  split
  · exact .inl ⟨_, rfl⟩
  · exact .inr ⟨_, _, rfl⟩
/-- a new tuple laid -/
theorem laidT {X : Cx} {pins : List (Addr × Obj)} {σ : L2.St} {H : Hp} {s : Shared} (I : Inv X pins σ H s) {xs : List V} {us : List Value} (k : Bool) (r : Vals xs us) (z : xs.length ≤ sizeLine) :
    Inv X pins σ (upd H s.heap.objs.size (mkT k { cls := .type "tuple", data := .seq us.toArray } xs)) { s with heap := s.heap.push { cls := .type "tuple", data := .seq us.toArray } } := by
  refine I.laid (t' := s.toks) (fun b u e => Heap.get?_push_of_some _ e) (Nat.le_refl _) ?_
  unfold mkT
  cases k with
  | true => exact ⟨z, us, r, IsTup.new _ _⟩
  | false => exact ⟨Heap.get?_push_size _ rfl, z, us, r, IsTup.new _ _⟩
theorem plain_new (us : Array Value) : PlainO { cls := .type "tuple", data := .seq us } := ⟨rfl, rfl⟩

/-- a pair that zip makes: only unpacked -/
abbrev lseD (ds : List D) : D := .dict [(.bool true, .list ds)]
mutual
inductive Rp (K : PySem.W.Frag) (G : Hp) : V → D → Prop
  | non : Rp K G .non .none
  | bl (b : Bool) : Rp K G (.bl b) (.bool b)
  | int (i : Int) : Rp K G (.int i) (.int i)
  | str (x : Str) : Rp K G (.str x) (.str x)
  | lst {a : Addr} {xs : List V} {ds : List D} : G a = some (.lst xs) → RpAll K G xs ds → Rp K G (.ref a) (.list ds)
  | scr {a : Addr} {ns : List Int} : SqL K G a (ns.map V.int) → Rp K G (.ref a) (scrD ns)
  | tup {a : Addr} {o : Obj} {xs : List V} {ds : List D} : G a = some (mkT (keyish ds) o xs) → PlainO o → RpAll K G xs ds → Rp K G (.ref a) (.tuple ds)
  | wtup {a : Addr} {x : Str} : (∀ H, SqT K H a [.str x]) → wrName x = true → Rp K G (.ref a) (.tuple [.str x])
  | dct {a : Addr} {kvs : List (List Key × V)} {ds : List (D × D)} : Rd G a (.dT kvs) → RpT K G kvs ds → Rp K G (.ref a) (.dict ds)
  | dck {a : Addr} {kvs : List (Key × V)} {ds : List (D × D)} : Rd G a (.dK kvs) → kvs ≠ [] → RpK K G kvs ds → Rp K G (.ref a) (.dict ds)
  | lse {a : Addr} {xs : List V} {ds : List D} : SqT K G a xs → RpAll K G xs ds → Rp K G (.ref a) (lseD ds)
inductive RpAll (K : PySem.W.Frag) (G : Hp) : List V → List D → Prop
  | nil : RpAll K G [] []
  | cons {v : V} {vs : List V} {d : D} {ds : List D} : Rp K G v d → RpAll K G vs ds → RpAll K G (v :: vs) (d :: ds)
inductive RpT (K : PySem.W.Frag) (G : Hp) : List (List Key × V) → List (D × D) → Prop
  | nil : RpT K G [] []
  | cons {k : List Key} {v : V} {kvs : List (List Key × V)} {d : D} {ds : List (D × D)} : Rp K G v d → RpT K G kvs ds → RpT K G ((k, v) :: kvs) ((.tuple (k.map kD), d) :: ds)
inductive RpK (K : PySem.W.Frag) (G : Hp) : List (Key × V) → List (D × D) → Prop
  | nil : RpK K G [] []
  | cons {k : Key} {v : V} {kvs : List (Key × V)} {d : D} {ds : List (D × D)} : Rp K G v d → RpK K G kvs ds → RpK K G ((k, v) :: kvs) ((kD k, d) :: ds)
end

theorem Rd.sm {G G' : Hp} {a : Addr} {u : HO} (e : Same G G') (h : Rd G a u) : Rd G' a u := by
  rcases h with h | ⟨o, h⟩
  · exact .inl (e _ _ h)
  · exact .inr ⟨o, e _ _ h⟩
theorem SqL.sm {K : PySem.W.Frag} {G G' : Hp} {a : Addr} {xs : List V} (e : Same G G') (h : SqL K G a xs) : SqL K G' a xs := e.seq h
theorem SqT.sm {K : PySem.W.Frag} {G G' : Hp} {a : Addr} {xs : List V} (e : Same G G') (h : SqT K G a xs) : SqT K G' a xs := by
  rcases h with (h | ⟨o, h⟩) | h
  · exact .inl (.inl (e _ _ h))
  · exact .inl (.inr ⟨o, e _ _ h⟩)
  · exact .inr h

mutual
theorem Rp.sm {K : PySem.W.Frag} {G G' : Hp} (e : Same G G') : ∀ {v : V} {d : D}, Rp K G v d → Rp K G' v d
  | _, _, .non => .non
  | _, _, .bl b => .bl b
  | _, _, .int i => .int i
  | _, _, .str x => .str x
  | _, _, .lst h a => .lst (e _ _ h) (RpAll.sm e a)
  | _, _, .scr h => .scr (SqL.sm e h)
  | _, _, .tup h p a => .tup (e _ _ h) p (RpAll.sm e a)
  | _, _, .wtup h a => .wtup h a
  | _, _, .dct h a => .dct (Rd.sm e h) (RpT.sm e a)
  | _, _, .dck h z a => .dck (Rd.sm e h) z (RpK.sm e a)
  | _, _, .lse h a => .lse (SqT.sm e h) (RpAll.sm e a)
theorem RpAll.sm {K : PySem.W.Frag} {G G' : Hp} (e : Same G G') : ∀ {vs : List V} {ds : List D}, RpAll K G vs ds → RpAll K G' vs ds
  | _, _, .nil => .nil
  | _, _, .cons h a => .cons (Rp.sm e h) (RpAll.sm e a)
theorem RpT.sm {K : PySem.W.Frag} {G G' : Hp} (e : Same G G') : ∀ {vs : List (List Key × V)} {ds : List (D × D)}, RpT K G vs ds → RpT K G' vs ds
  | _, _, .nil => .nil
  | _, _, .cons h a => .cons (Rp.sm e h) (RpT.sm e a)
theorem RpK.sm {K : PySem.W.Frag} {G G' : Hp} (e : Same G G') : ∀ {vs : List (Key × V)} {ds : List (D × D)}, RpK K G vs ds → RpK K G' vs ds
  | _, _, .nil => .nil
  | _, _, .cons h a => .cons (Rp.sm e h) (RpK.sm e a)
end
theorem Rp.sqT {K : PySem.W.Frag} {G : Hp} {v : V} {ds : List D} (h : Rp K G v (.tuple ds)) : ∃ a xs, v = .ref a ∧ SqT K G a xs ∧ RpAll K G xs ds := by
  cases h with
  | tup h p a => exact ⟨_, _, rfl, mkT_sq h, a⟩
  | wtup h a => exact ⟨_, _, rfl, h G, .cons (.str _) .nil⟩
theorem rpK_noB {K : PySem.W.Frag} {G : Hp} : ∀ {kvs : List (Key × V)} {ds : List (D × D)}, RpK K G kvs ds → ∀ b d r, ds ≠ (.bool b, d) :: r
  | _, _, .nil, _, _, _, e => by cases e
  | _, _, @RpK.cons _ _ k _ _ _ _ _ _, _, _, _, e => by
    injection e with e1 _
    injection e1 with e2 _
    cases k <;> cases e2
theorem Rp.lse_inv {K : PySem.W.Frag} {G : Hp} {v : V} {ds : List D} (r : Rp K G v (lseD ds)) : ∃ a xs, v = .ref a ∧ SqT K G a xs ∧ RpAll K G xs ds := by
  generalize e : lseD ds = d at r
  cases r with
  | lse hs ra => cases e; exact ⟨_, _, rfl, hs, ra⟩
  | dct _ rr => cases e; cases rr
  | dck _ z rr => cases e; exact absurd rfl (rpK_noB rr _ _ _)
  | scr _ => cases e
  | _ => cases e
theorem RpAll.length {K : PySem.W.Frag} {G : Hp} : ∀ {vs : List V} {ds : List D}, RpAll K G vs ds → vs.length = ds.length
  | _, _, .nil => rfl
  | _, _, .cons _ a => by simp [RpAll.length a]
theorem RpAll.get {K : PySem.W.Frag} {G : Hp} : ∀ {vs : List V} {ds : List D} {i : Nat} {d : D}, RpAll K G vs ds → ds[i]? = some d → ∃ v, vs[i]? = some v ∧ Rp K G v d
  | _, _, _, _, .nil, h => by simp at h
  | _, _, 0, _, .cons h _, e => by simp at e; subst e; exact ⟨_, rfl, h⟩
  | _, _, i + 1, d, .cons _ a, e => by
    obtain ⟨v, h1, h2⟩ := RpAll.get (i := i) (d := d) a (by simpa using e)
    exact ⟨v, by simpa using h1, h2⟩
theorem RpAll.append {K : PySem.W.Frag} {G : Hp} : ∀ {vs ws : List V} {ds es : List D}, RpAll K G vs ds → RpAll K G ws es → RpAll K G (vs ++ ws) (ds ++ es)
  | _, _, _, _, .nil, b => b
  | _, _, _, _, .cons h a, b => .cons h (RpAll.append a b)
theorem RpAll.take {K : PySem.W.Frag} {G : Hp} : ∀ {vs : List V} {ds : List D} (n : Nat), RpAll K G vs ds → RpAll K G (vs.take n) (ds.take n)
  | _, _, 0, _ => .nil
  | _, _, _ + 1, .nil => .nil
  | _, _, n + 1, .cons h a => .cons h (RpAll.take n a)
theorem RpAll.drop {K : PySem.W.Frag} {G : Hp} : ∀ {vs : List V} {ds : List D} (n : Nat), RpAll K G vs ds → RpAll K G (vs.drop n) (ds.drop n)
  | _, _, 0, a => a
  | _, _, _ + 1, .nil => .nil
  | _, _, n + 1, .cons _ a => RpAll.drop n a

/-- the tables of code objects: each with the name that its code objects bear -/
abbrev Tbs := List (Addr × Str)
def noTbl (o : HO) : Prop := ∀ ps, o ≠ .tbl ps
/-- no table in the ground -/
def NT (G : Hp) : Prop := ∀ a o, G a = some o → noTbl o
/-- all but the tables stay; the tables stay tables -/
structure SameN (Γ : Tbs) (H H' : Hp) : Prop where
  k : ∀ b o, H b = some o → noTbl o → H' b = some o
  f : ∀ b, H' b = none → H b = none
  b : ∀ b ps, H b = some (.tbl ps) → ∃ ps', H' b = some (.tbl ps')
  t : LamX.Tabs Γ H → LamX.Tabs Γ H'
theorem SameN.of {Γ : Tbs} {H H' : Hp} (h : Same H H') : SameN Γ H H' := ⟨fun b o e _ => h b o e, fun b e => h.free e, fun b ps e => ⟨ps, h b _ e⟩, fun t => t.ext h⟩
theorem SameN.refl {Γ : Tbs} (H : Hp) : SameN Γ H H := .of (Same.refl H)
theorem SameN.trans {Γ : Tbs} {H H1 H2 : Hp} (a : SameN Γ H H1) (b : SameN Γ H1 H2) : SameN Γ H H2 := ⟨fun c o e n => b.k c o (a.k c o e n) n, fun c e => a.f c (b.f c e), fun c ps e => let ⟨qs, h⟩ := a.b c ps e; b.b c qs h, fun t => b.t (a.t t)⟩
theorem SameN.free {Γ : Tbs} {H H' : Hp} (h : SameN Γ H H') {a : Addr} (e : H' a = none) : H a = none := h.f a e
/-- neither a table nor a code object -/
def plainO (o : HO) : Prop := (∀ ps, o ≠ .tbl ps) ∧ ∀ c q, o ≠ LamX.CodeO c q
theorem tabs_keep {Γ : Tbs} {H H' : Hp} (t : LamX.Tabs Γ H) (k : ∀ b o, H b = some o → ¬ plainO o → H' b = some o) : LamX.Tabs Γ H' := fun p hp => by
  obtain ⟨ps, h1, h2, h3⟩ := t p hp
  refine ⟨ps, k _ _ h1 fun z => z.1 ps rfl, h2, fun pos cv hc => ?_⟩
  obtain ⟨c, e1, e2⟩ := h3 pos cv hc
  exact ⟨c, e1, k _ _ e2 fun z => z.2 c p.2 rfl⟩
theorem tabs_upd {Γ : Tbs} {H : Hp} {a : Addr} {o o' : HO} (t : LamX.Tabs Γ H) (ha : H a = some o) (p : plainO o) : LamX.Tabs Γ (upd H a o') := tabs_keep t fun b u e n => by
  by_cases h : b = a
  · subst h; rw [ha] at e; cases e; exact absurd p n
  · rw [upd_ne h]; exact e
theorem plain_lst {xs : List V} : plainO (.lst xs) := ⟨fun ps z => (by cases z), fun c q z => (by unfold LamX.CodeO at z; cases z)⟩
theorem plain_dT {xs : List (List Key × V)} : plainO (.dT xs) := ⟨fun ps z => (by cases z), fun c q z => (by unfold LamX.CodeO at z; cases z)⟩
theorem plain_dK {xs : List (Key × V)} : plainO (.dK xs) := ⟨fun ps z => (by cases z), fun c q z => (by unfold LamX.CodeO at z; cases z)⟩
theorem plain_tup {xs : List V} : plainO (.tup xs) := ⟨fun ps z => (by cases z), fun c q z => (by unfold LamX.CodeO at z; cases z)⟩
theorem plain_frz {o : Obj} {u : HO} : plainO (.frz o u) := ⟨fun ps z => (by cases z), fun c q z => (by unfold LamX.CodeO at z; cases z)⟩
/-- an object that is no table is changed in place -/
theorem SameN.updO {Γ : Tbs} {B H : Hp} {a : Addr} {o o' : HO} (h : SameN Γ B H) (hb : B a = none) (ha : H a = some o) (p : plainO o) : SameN Γ B (upd H a o') := by
  refine ⟨fun b u e n => ?_, fun b e => ?_, fun b ps e => ?_, fun t => tabs_upd (h.t t) ha p⟩
  · rw [upd_ne (ne_of_none e hb)]; exact h.k b u e n
  · by_cases z : b = a
    · subst z; exact hb
    · rw [upd_ne z] at e; exact h.f b e
  · rw [upd_ne (ne_of_none e hb)]; exact h.b b ps e
theorem NT.updO {G : Hp} (h : NT G) {a : Addr} {o : HO} (no : noTbl o) : NT (upd G a o) := fun b u e => by
  by_cases z : b = a
  · subst z; rw [upd_same] at e; cases e; exact no
  · rw [upd_ne z] at e; exact h b u e
theorem Same.toN {Γ : Tbs} {G H H' : Hp} (s : Same G H) (nt : NT G) (h : SameN Γ H H') : Same G H' := fun b o e => h.k b o (s b o e) (nt b o e)
/-- the ground grows: what stood stands; what is new in the ground was free before -/
structure GExt (Γ : Tbs) (G H G' H' : Hp) : Prop where
  h : SameN Γ H H'
  g : Same G G'
  s : Same G' H'
  n : ∀ a o, G' a = some o → G a = some o ∨ (noTbl o ∧ (H a = none ∨ ∃ xs, o = .tup xs))
theorem GExt.nt {Γ : Tbs} {G H G' H' : Hp} (x : GExt Γ G H G' H') (h : NT G) : NT G' := fun a o e => (x.n a o e).elim (h a o) (·.1)
theorem GExt.d {Γ : Tbs} {G H G' H' : Hp} (x : GExt Γ G H G' H') (h : NT G ∧ LamX.Tabs Γ H) : NT G' ∧ LamX.Tabs Γ H' := ⟨x.nt h.1, x.h.t h.2⟩
theorem GExt.refl {G H : Hp} (s : Same G H) : GExt Γ G H G H := ⟨SameN.refl _, Same.refl _, s, fun _ _ h => .inl h⟩
theorem GExt.trans {G H G1 H1 G2 H2 : Hp} (a : GExt Γ G H G1 H1) (b : GExt Γ G1 H1 G2 H2) : GExt Γ G H G2 H2 :=
  ⟨a.h.trans b.h, a.g.trans b.g, b.s, fun p o q => by
    rcases b.n p o q with h | ⟨k, h | h⟩
    · exact a.n p o h
    · exact .inr ⟨k, .inl (a.h.free h)⟩
    · exact .inr ⟨k, .inr h⟩⟩
theorem GExt.new {G H : Hp} (s : Same G H) {p : Addr} {o : HO} (no : noTbl o) (hp : H p = none) : GExt Γ G H (upd G p o) (upd H p o) := by
  refine ⟨.of fun b u q => ?_, fun b u q => ?_, fun b u q => ?_, fun b u q => ?_⟩
  · rw [upd_ne (ne_of_none q hp)]; exact q
  · rw [upd_ne (ne_of_none (s _ _ q) hp)]; exact q
  · by_cases e : b = p
    · subst e; rw [upd_same] at q ⊢; exact q
    · rw [upd_ne e] at q ⊢; exact s _ _ q
  · by_cases e : b = p
    · subst e; rw [upd_same] at q; cases q; exact .inr ⟨no, .inl hp⟩
    · rw [upd_ne e] at q; exact .inl q
/-- the ground stays, the heap grows -/
theorem GExt.heap {G H H' : Hp} (s : Same G H) (h : Same H H') : GExt Γ G H G H' := ⟨.of h, Same.refl _, s.trans h, fun _ _ q => .inl q⟩
theorem GExt.heapN {G H H' : Hp} (s : Same G H) (nt : NT G) (h : SameN Γ H H') : GExt Γ G H G H' := ⟨h, Same.refl _, De.Same.toN s nt h, fun _ _ q => .inl q⟩

/-- an object that is one's own, by what it holds -/
def OwnO (K : PySem.W.Frag) (G : Hp) (o : HO) (d : D) : Prop :=
  (∃ xs ds, o = .lst xs ∧ d = .list ds ∧ RpAll K G xs ds) ∨ (∃ kvs ds, o = .dT kvs ∧ d = .dict ds ∧ RpT K G kvs ds) ∨ (∃ kvs ds, o = .dK kvs ∧ d = .dict ds ∧ kvs ≠ [] ∧ RpK K G kvs ds)
theorem OwnO.sm {K : PySem.W.Frag} {G G' : Hp} (e : Same G G') {o : HO} {d : D} (h : OwnO K G o d) : OwnO K G' o d := by
  rcases h with ⟨xs, ds, a, b, c⟩ | ⟨xs, ds, a, b, c⟩ | ⟨xs, ds, a, b, z, c⟩
  · exact .inl ⟨xs, ds, a, b, c.sm e⟩
  · exact .inr (.inl ⟨xs, ds, a, b, c.sm e⟩)
  · exact .inr (.inr ⟨xs, ds, a, b, z, c.sm e⟩)

/-- a dict's object holds the dict d -/
def DictO (K : PySem.W.Frag) (G : Hp) (u : HO) (d : D) : Prop :=
  (∃ kvs ds, u = .dT kvs ∧ d = .dict ds ∧ RpT K G kvs ds) ∨ (∃ kvs ds, u = .dK kvs ∧ d = .dict ds ∧ kvs ≠ [] ∧ RpK K G kvs ds)
theorem DictO.sm {K : PySem.W.Frag} {G G' : Hp} (e : Same G G') {o : HO} {d : D} (h : DictO K G o d) : DictO K G' o d := by
  rcases h with ⟨xs, ds, a, b, c⟩ | ⟨xs, ds, a, b, z, c⟩
  · exact .inl ⟨xs, ds, a, b, c.sm e⟩
  · exact .inr ⟨xs, ds, a, b, z, c.sm e⟩
theorem DictO.rp {K : PySem.W.Frag} {G : Hp} {u : HO} {d : D} {a : Addr} (h : DictO K G u d) (r : Rd G a u) : Rp K G (.ref a) d := by
  rcases h with ⟨kvs, ds, rfl, rfl, c⟩ | ⟨kvs, ds, rfl, rfl, z, c⟩
  · exact .dct r c
  · exact .dck r z c
/-- a slot's value is as the mirror's slot says -/
def SlOk (K : PySem.W.Frag) (G H : Hp) (v : V) : Sl → Prop
  | .dat d => Rp K G v d
  | .own d => ∃ a o, v = .ref a ∧ H a = some o ∧ G a = none ∧ OwnO K G o d
  | .raw u => v = u
  | .lck d => ∃ a z u, v = .ref a ∧ G a = some (.frz z u) ∧ DictO K G u d
/-- a dict's object holds the dict d; no list, no dict of one's own is a tuple -/
theorem OwnO.pl {K : PySem.W.Frag} {G : Hp} {o : HO} {d : D} (h : OwnO K G o d) : plainO o := by
  rcases h with ⟨_, _, h, _⟩ | ⟨_, _, h, _⟩ | ⟨_, _, h, _⟩ <;> subst h
  · exact plain_lst
  · exact plain_dT
  · exact plain_dK
theorem OwnO.nt {K : PySem.W.Frag} {G : Hp} {o : HO} {d : D} (h : OwnO K G o d) : noTbl o := by
  rcases h with ⟨_, _, h, _⟩ | ⟨_, _, h, _⟩ | ⟨_, _, h, _⟩ <;> subst h <;> intro ps z <;> cases z
theorem OwnO.noTup {K : PySem.W.Frag} {G : Hp} {xs : List V} {d : D} (h : OwnO K G (.tup xs) d) : False := by
  rcases h with ⟨_, _, h, _⟩ | ⟨_, _, h, _⟩ | ⟨_, _, h, _⟩ <;> cases h
theorem GExt.kept {K : PySem.W.Frag} {G H G' H' : Hp} {a : Addr} {o : HO} {d : D} (x : GExt Γ G H G' H') (ha : H a = some o) (hg : G a = none) (q : OwnO K G o d) : G' a = none := by
  cases z : G' a with
  | none => rfl
  | some u =>
    rcases x.n a u z with k | ⟨_, k | ⟨xs, rfl⟩⟩
    · rw [hg] at k; cases k
    · rw [ha] at k; cases k
    · have z2 := x.s _ _ z
      rw [x.h.k _ _ ha q.nt] at z2
      cases z2
      exact q.noTup.elim
structure RelE (Γ : Tbs) (K : PySem.W.Frag) (G : Hp) (ρ : Rho) (σ : L2.St) (H : Hp) : Prop where
  s : Same G H
  d : NT G ∧ LamX.Tabs Γ H
  len : ρ.length = σ.length
  at_ : ∀ (i : Nat) (x : Sl), ρ[i]? = some (some x) → ∃ v, σ[i]? = some (some v) ∧ SlOk K G H v x
  apart : ∀ (i j : Nat) (d e : D) (v : V), i ≠ j → ρ[i]? = some (some (.own d)) → ρ[j]? = some (some (.own e)) → σ[i]? = some (some v) → σ[j]? ≠ some (some v)
theorem RelE.ext {K : PySem.W.Frag} {G H G' H' : Hp} {ρ : Rho} {σ : L2.St} (R : RelE Γ K G ρ σ H) (x : GExt Γ G H G' H') : RelE Γ K G' ρ σ H' := by
  refine ⟨x.s, x.d R.d, R.len, fun i s h => ?_, R.apart⟩
  obtain ⟨v, h1, h2⟩ := R.at_ i s h
  refine ⟨v, h1, ?_⟩
  cases s with
  | dat d => exact Rp.sm x.g h2
  | own d =>
    obtain ⟨a, o, e, ha, hg, q⟩ := h2
    exact ⟨a, o, e, x.h.k _ _ ha q.nt, x.kept ha hg q, q.sm x.g⟩
  | raw u => exact h2
  | lck d =>
    obtain ⟨a, z, u, e, hg, q⟩ := h2
    exact ⟨a, z, u, e, x.g _ _ hg, q.sm x.g⟩

/-- what is asked of an expression that answers as m says -/
def Post (Γ : Tbs) (K : PySem.W.Frag) (mg : Str → Option Value) (W : WX) (G : Hp) (σ : L2.St) (H : Hp) (Q : VK) : Res D → Prop
  | .ok d => ∀ v G' H', GExt Γ G H G' H' → Rp K G' v d → Q v H'
  | .exc c => ∃ C, mg c = some (.ref C) ∧ ∀ H', SameN Γ H H' → W (.ref C) none σ H'
  | .stuck => False
def rdE (Γ : Tbs) (K : PySem.W.Frag) (mg : Str → Option Value) (W : WX) (m : M) : TE := fun σ H Q =>
  ∃ G ρ, RelE Γ K G ρ σ H ∧ Post Γ K mg W G σ H Q (m ρ)
structure DE (Γ : Tbs) (X : Cx) (e : Expr) (m : M) : Prop where
  run : ∀ W, Takes X W → PE X e (rdE Γ X.K X.mg W m)
theorem pe_imp {X : Cx} {e : Expr} {t t' : TE} (h : PE X e t) (i : ∀ σ H Q, t' σ H Q → t σ H Q) : PE X e t' := ⟨fun pins s σ H Q I q => h.run pins s σ H Q I (i σ H Q q)⟩
theorem Post.ext {K : PySem.W.Frag} {mg : Str → Option Value} {W : WX} {G G1 : Hp} {σ : L2.St} {H H1 : Hp} {Q : VK} (x : GExt Γ G H G1 H1) : ∀ {r : Res D}, Post Γ K mg W G σ H Q r → Post Γ K mg W G1 σ H1 Q r
  | .ok d, h => fun v G' H' y r => h v G' H' (x.trans y) r
  | .exc c, ⟨C, a, b⟩ => ⟨C, a, fun H' s => b H' (x.h.trans s)⟩
  | .stuck, h => h
/-- run a first expression, go on with its value -/
theorem Post.bind {K : PySem.W.Frag} {mg : Str → Option Value} {W : WX} {G : Hp} {σ : L2.St} {H : Hp} {Q Q' : VK} {r : Res D} {f : D → Res D} (h : Post Γ K mg W G σ H Q (r.bind f))
    (k : ∀ d v G' H', r = .ok d → GExt Γ G H G' H' → Rp K G' v d → Post Γ K mg W G' σ H' Q (f d) → Q' v H') : Post Γ K mg W G σ H Q' r := by
  cases r with
  | ok d => exact fun v G' H' x q => k d v G' H' rfl x q (Post.ext x h)
  | exc c => exact h
  | stuck => exact h

section
variable {X : Cx}
/-! ### names and constants -/
def mVar (i : Nat) : M := fun ρ => match ρ[i]? with
  | some (some (.dat d)) => .ok d
  | some (some (.lck d)) => .ok d
  | _ => .stuck
theorem Post.now {K : PySem.W.Frag} {mg : Str → Option Value} {W : WX} {G : Hp} {σ : L2.St} {H : Hp} {Q : VK} {d : D} (s : Same G H) (h : Post Γ K mg W G σ H Q (.ok d)) {v : V} (r : Rp K G v d) : Q v H := h v G H (GExt.refl s) r
theorem de_var {i : Nat} {x : Str} {pos : Pos} (hN : X.N[i]? = some x) (hv : Vis X.env.scope x) (hd : (x == ("__debug__" : Str)) = false := by decide) (hcd : (x == ("__classdict__" : Str)) = false := by decide) : DE Γ X (.Name x pos) (mVar i) := by
  refine ⟨fun W tk => pe_imp (pe_var hN hv hd hcd) fun σ H Q ⟨G, ρ, R, h⟩ => ?_⟩
  unfold mVar at h
  split at h
  · rename_i d e
    obtain ⟨v, h1, h2⟩ := R.at_ i _ e
    exact ⟨v, h1, Post.now R.s h h2⟩
  · rename_i d e
    obtain ⟨v, h1, a, z, u, rfl, hg, q⟩ := R.at_ i _ e
    exact ⟨_, h1, Post.now R.s h (q.rp (.inr ⟨z, hg⟩))⟩
  · exact h.elim
def mC (d : D) : M := fun _ => .ok d
theorem de_const {e : Expr} {v : V} {d : D} (h : PE X e (tC v)) (r : ∀ G, Rp X.K G v d) : DE Γ X e (mC d) :=
  ⟨fun W tk => pe_imp h fun σ H Q ⟨G, ρ, R, h⟩ => Post.now R.s h (r G)⟩
theorem de_int {i j pos} : DE Γ X (.Constant (.int i) j pos) (mC (.int i)) := de_const pe_int fun _ => .int i
theorem de_bl {b j pos} : DE Γ X (.Constant (.bool b) j pos) (mC (.bool b)) := de_const pe_bl fun _ => .bl b
theorem de_non {j pos} : DE Γ X (.Constant .none j pos) (mC .none) := de_const pe_non fun _ => .non
theorem de_str {x j pos} : DE Γ X (.Constant (.str x) j pos) (mC (.str x)) := de_const pe_str fun _ => .str x
/-- a module's constant -/
def GlobD (K : PySem.W.Frag) (mg : Str → Option Value) (x : Str) (d : D) : Prop := ∃ v u, mg x = some u ∧ RelV v u ∧ ∀ G, Rp K G v d
theorem de_glob {x : Str} {pos : Pos} {d : D} (g : GlobD X.K X.mg x d) (hg : Gl X x) (hd : (x == ("__debug__" : Str)) = false := by decide) : DE Γ X (.Name x pos) (mC d) := by
  obtain ⟨v, u, h1, h2, h3⟩ := g
  exact de_const (pe_glob hg h1 h2 hd) h3

/-! ### operations on values -/
/-- only a value is asked -/
def PostV (Γ : Tbs) (K : PySem.W.Frag) (G H : Hp) (Q : VK) : Res D → Prop
  | .ok d => ∀ v G' H', GExt Γ G H G' H' → Rp K G' v d → Q v H'
  | _ => False
def rD2 (Γ : Tbs) (K : PySem.W.Frag) (f : D → D → Res D) : R2 := fun x y H Q => ∃ G a b, Same G H ∧ Rp K G x a ∧ Rp K G y b ∧ PostV Γ K G H Q (f a b)
def OpD (Γ : Tbs) (X : Cx) (g : Value → Value → Sem Value) (f : D → D → Res D) : Prop := OpR X g (rD2 Γ X.K f)
/-- only values, no exceptions -/
def Res.plain {α : Type} : Res α → Res α
  | .ok a => .ok a
  | _ => .stuck
def mOp (f : D → D → Res D) (m1 m2 : M) : M := fun ρ => (m1 ρ).bind fun a => (m2 ρ).bind fun b => (f a b).plain
theorem post_plain {K : PySem.W.Frag} {mg : Str → Option Value} {W : WX} {G : Hp} {σ : L2.St} {H : Hp} {Q : VK} {r : Res D} (h : Post Γ K mg W G σ H Q r.plain) :
    PostV Γ K G H Q r := by
  cases r with
  | ok d => exact h
  | exc c => exact h
  | stuck => exact h
theorem rd2 {K : PySem.W.Frag} {mg : Str → Option Value} {W : WX} {m1 m2 : M} {f : D → D → Res D} {σ : L2.St} {H : Hp} {Q : VK} (h : rdE Γ K mg W (mOp f m1 m2) σ H Q) : tOp (rD2 Γ K f) (rdE Γ K mg W m1) (rdE Γ K mg W m2) σ H Q := by
  obtain ⟨G, ρ, R, h⟩ := h
  refine ⟨G, ρ, R, Post.bind h fun a v G1 H1 _ x1 r1 h1 => ⟨G1, ρ, R.ext x1, Post.bind h1 fun b u G2 H2 _ x2 r2 h2 => ?_⟩⟩
  exact ⟨G2, a, b, x2.s, r1.sm x2.g, r2, post_plain h2⟩
theorem de_op {op : Operator} {f : D → D → Res D} {a b : Expr} {m1 m2 : M} {pos : Pos} (ho : OpD Γ X (binaryOp op) f) (ha : DE Γ X a m1) (hb : DE Γ X b m2) : DE Γ X (.BinOp a op b pos) (mOp f m1 m2) :=
  ⟨fun W tk => pe_imp (pe_op ho (ha.run W tk) (hb.run W tk)) fun _ _ _ => rd2⟩
theorem de_cmp {op : CmpOp} {f : D → D → Res D} {a b : Expr} {m1 m2 : M} {pos : Pos} (ho : OpD Γ X (compareOp op) f) (ha : DE Γ X a m1) (hb : DE Γ X b m2) (hm : behindInMarks op b = false) : DE Γ X (.Compare a [op] [b] pos) (mOp f m1 m2) :=
  ⟨fun W tk => pe_imp (pe_cmpR ho (ha.run W tk) (hb.run W tk) hm) fun _ _ _ => rd2⟩
end
end De
end

section
set_option Elab.async false
set_option linter.all false
set_option maxRecDepth 100000
/-! De1: tests, and or not, if-expressions, argument lists, tuples, own objects; operators on data. -/
namespace De
open PySem PySem.Spec PyProof.Rows L2
section
variable {X : Cx}
/-! ### tests -/
def PostT (Γ : Tbs) (K : PySem.W.Frag) (mg : Str → Option Value) (W : WX) (G : Hp) (σ : L2.St) (H : Hp) (Q : Bool → Hp → Prop) : Res Bool → Prop
  | .ok b => ∀ G' H', GExt Γ G H G' H' → Q b H'
  | .exc c => ∃ C, mg c = some (.ref C) ∧ ∀ H', SameN Γ H H' → W (.ref C) none σ H'
  | .stuck => False
theorem PostT.ext {K : PySem.W.Frag} {mg : Str → Option Value} {W : WX} {G G1 : Hp} {σ : L2.St} {H H1 : Hp} {Q : Bool → Hp → Prop} (x : GExt Γ G H G1 H1) : ∀ {r : Res Bool}, PostT Γ K mg W G σ H Q r → PostT Γ K mg W G1 σ H1 Q r
  | .ok b, h => fun G' H' y => h G' H' (x.trans y)
  | .exc c, ⟨C, a, b⟩ => ⟨C, a, fun H' s => b H' (x.h.trans s)⟩
  | .stuck, h => h
abbrev MT := Rho → Res Bool
def rdT (Γ : Tbs) (K : PySem.W.Frag) (mg : Str → Option Value) (W : WX) (m : MT) : TT := fun σ H Q =>
  ∃ G ρ, RelE Γ K G ρ σ H ∧ PostT Γ K mg W G σ H Q (m ρ)
structure DT (Γ : Tbs) (X : Cx) (e : Expr) (m : MT) : Prop where
  run : ∀ W, Takes X W → PT X e (rdT Γ X.K X.mg W m)
structure DW (Γ : Tbs) (X : Cx) (e : Expr) (m : MT) : Prop where
  run : ∀ W, Takes X W → PW X e (rdT Γ X.K X.mg W m)
theorem pt_imp {X : Cx} {e : Expr} {t t' : TT} (h : PT X e t) (i : ∀ σ H Q, t' σ H Q → t σ H Q) : PT X e t' := ⟨fun pins s σ H Q I q => h.run pins s σ H Q I (i σ H Q q)⟩
theorem pw_imp {X : Cx} {e : Expr} {t t' : TT} (h : PW X e t) (i : ∀ σ H Q, t' σ H Q → t σ H Q) : PW X e t' := ⟨fun wh pins s σ H Q I q => h.run wh pins s σ H Q I (i σ H Q q)⟩
def asB : D → Res Bool
  | .bool b => .ok b
  | _ => .stuck
def mTest (m : M) : MT := fun ρ => (m ρ).bind asB
/-- a first expression, then a test of its value -/
theorem PostT.bind {K : PySem.W.Frag} {mg : Str → Option Value} {W : WX} {G : Hp} {σ : L2.St} {H : Hp} {Q : Bool → Hp → Prop} {Q' : VK} {r : Res D} {f : D → Res Bool} (h : PostT Γ K mg W G σ H Q (r.bind f))
    (k : ∀ d v G' H', r = .ok d → GExt Γ G H G' H' → Rp K G' v d → PostT Γ K mg W G' σ H' Q (f d) → Q' v H') : Post Γ K mg W G σ H Q' r := by
  cases r with
  | ok d => exact fun v G' H' x q => k d v G' H' rfl x q (PostT.ext x h)
  | exc c => exact h
  | stuck => exact h
theorem PostT.bindT {K : PySem.W.Frag} {mg : Str → Option Value} {W : WX} {G : Hp} {σ : L2.St} {H : Hp} {Q Q' : Bool → Hp → Prop} {r : Res Bool} {f : Bool → Res Bool} (h : PostT Γ K mg W G σ H Q (r.bind f))
    (k : ∀ b G' H', r = .ok b → GExt Γ G H G' H' → PostT Γ K mg W G' σ H' Q (f b) → Q' b H') : PostT Γ K mg W G σ H Q' r := by
  cases r with
  | ok d => exact fun G' H' x => k d G' H' rfl x (PostT.ext x h)
  | exc c => exact h
  | stuck => exact h
theorem Post.bindT {K : PySem.W.Frag} {mg : Str → Option Value} {W : WX} {G : Hp} {σ : L2.St} {H : Hp} {Q : VK} {Q' : Bool → Hp → Prop} {r : Res Bool} {f : Bool → Res D} (h : Post Γ K mg W G σ H Q (r.bind f))
    (k : ∀ b G' H', r = .ok b → GExt Γ G H G' H' → Post Γ K mg W G' σ H' Q (f b) → Q' b H') : PostT Γ K mg W G σ H Q' r := by
  cases r with
  | ok d => exact fun G' H' x => k d G' H' rfl x (Post.ext x h)
  | exc c => exact h
  | stuck => exact h
theorem Rp.bool {K : PySem.W.Frag} {G : Hp} {v : V} {b : Bool} (h : Rp K G v (.bool b)) : v = .bl b := by cases h; rfl
theorem tB_of {K : PySem.W.Frag} {mg : Str → Option Value} {W : WX} {m : M} {σ : L2.St} {H : Hp} {Q : Bool → Hp → Prop} (h : rdT Γ K mg W (mTest m) σ H Q) : tB (rdE Γ K mg W m) σ H Q := by
  obtain ⟨G, ρ, R, h⟩ := h
  refine ⟨G, ρ, R, PostT.bind h fun d v G' H' _ x r q => ?_⟩
  unfold asB at q
  split at q
  · exact ⟨_, r.bool, q G' H' (GExt.refl x.s)⟩
  · exact q.elim
theorem dt_val {e : Expr} {m : M} (h : DE Γ X e m) (he : ∀ whole, isTrue e X.env whole = (do let v ← whole; standAt e.pos; holding [v] (truthy v)) := by intro _; rfl) : DT Γ X e (mTest m) :=
  ⟨fun W tk => pt_imp (pt_val (h.run W tk) he) fun _ _ _ => tB_of⟩
theorem tTest_of {K : PySem.W.Frag} {mg : Str → Option Value} {W : WX} {f : D → D → Res D} {m1 m2 : M} {σ : L2.St} {H : Hp} {Q : Bool → Hp → Prop} (h : rdT Γ K mg W (mTest (mOp f m1 m2)) σ H Q) :
    tTest (tOp (rD2 Γ K f) (rdE Γ K mg W m1) (rdE Γ K mg W m2)) σ H Q := by
  refine rd2 (f := f) ?_
  exact tB_of h
theorem dt_cmp {op : CmpOp} {f : D → D → Res D} {a b : Expr} {m1 m2 : M} {pos : Pos} (ho : OpD Γ X (compareOp op) f) (ha : DE Γ X a m1) (hb : DE Γ X b m2) (hm : behindInMarks op b = false) : DT Γ X (.Compare a [op] [b] pos) (mTest (mOp f m1 m2)) :=
  ⟨fun W tk => pt_imp (pt_cmpR ho (ha.run W tk) (hb.run W tk) hm) fun _ _ _ => tTest_of⟩
def mNotT (m : MT) : MT := fun ρ => (m ρ).bind fun b => .ok (!b)
theorem dt_not {a : Expr} {m : MT} {pos : Pos} (ha : DT Γ X a m) : DT Γ X (.UnaryOp .Not a pos) (mNotT m) :=
  ⟨fun W tk => pt_imp (pt_not (ha.run W tk)) fun σ H Q ⟨G, ρ, R, h⟩ => ⟨G, ρ, R, PostT.bindT h fun b G' H' _ x q => q G' H' (GExt.refl x.s)⟩⟩
def mAndT (m1 m2 : MT) : MT := fun ρ => (m1 ρ).bind fun b => if b = true then m2 ρ else .ok false
def mOrT (m1 m2 : MT) : MT := fun ρ => (m1 ρ).bind fun b => if b = true then .ok true else m2 ρ
theorem dw_and1 {a : Expr} {m : MT} {pos : Pos} (ha : DT Γ X a m) : DW Γ X (.BoolOp .And [a] pos) m := ⟨fun W tk => pw_and1 (ha.run W tk)⟩
theorem dw_or1 {a : Expr} {m : MT} {pos : Pos} (ha : DT Γ X a m) : DW Γ X (.BoolOp .Or [a] pos) m := ⟨fun W tk => pw_or1 (ha.run W tk)⟩
theorem dw_and {a b : Expr} {rest : List Expr} {m1 m2 : MT} {pos : Pos} (ha : DT Γ X a m1) (hb : DW Γ X (.BoolOp .And (b :: rest) pos) m2) : DW Γ X (.BoolOp .And (a :: b :: rest) pos) (mAndT m1 m2) :=
  ⟨fun W tk => pw_imp (pw_and (ha.run W tk) (hb.run W tk)) fun σ H Q ⟨G, ρ, R, h⟩ => ⟨G, ρ, R, PostT.bindT h fun b G' H' _ x q => by
    cases b with
    | true => exact ⟨G', ρ, R.ext x, q⟩
    | false => exact q G' H' (GExt.refl x.s)⟩⟩
theorem dw_or {a b : Expr} {rest : List Expr} {m1 m2 : MT} {pos : Pos} (ha : DT Γ X a m1) (hb : DW Γ X (.BoolOp .Or (b :: rest) pos) m2) : DW Γ X (.BoolOp .Or (a :: b :: rest) pos) (mOrT m1 m2) :=
  ⟨fun W tk => pw_imp (pw_or (ha.run W tk) (hb.run W tk)) fun σ H Q ⟨G, ρ, R, h⟩ => ⟨G, ρ, R, PostT.bindT h fun b G' H' _ x q => by
    cases b with
    | true => exact q G' H' (GExt.refl x.s)
    | false => exact ⟨G', ρ, R.ext x, q⟩⟩⟩
theorem DW.dt {e : Expr} {m : MT} (h : DW Γ X e m) : DT Γ X e m := ⟨fun W tk => (h.run W tk).pt⟩

/-! ### and, or, not as values -/
def mAnd (m1 m2 : M) : M := fun ρ => (m1 ρ).bind fun d => (asB d).bind fun b => if b = true then m2 ρ else .ok (.bool false)
def mOr (m1 m2 : M) : M := fun ρ => (m1 ρ).bind fun d => (asB d).bind fun b => if b = true then .ok (.bool true) else m2 ρ
def mNot (m : M) : M := fun ρ => (m ρ).bind fun d => (asB d).bind fun b => .ok (.bool (!b))
theorem asB_ok {d : D} {b : Bool} (h : asB d = .ok b) : d = .bool b := by
  unfold asB at h
  split at h
  · cases h; rfl
  · cases h
theorem Post.asB {K : PySem.W.Frag} {mg : Str → Option Value} {W : WX} {G : Hp} {σ : L2.St} {H : Hp} {Q : VK} {d : D} {f : Bool → Res D} (h : Post Γ K mg W G σ H Q ((De.asB d).bind f)) : ∃ b, d = .bool b ∧ Post Γ K mg W G σ H Q (f b) := by
  cases d with
  | bool b => exact ⟨b, rfl, h⟩
  | _ => exact False.elim h
theorem de_one {op} {a : Expr} {m : M} {pos : Pos} (h : DE Γ X a m) : DE Γ X (.BoolOp op [a] pos) m := ⟨fun W tk => pe_one (h.run W tk)⟩
theorem de_and {a b : Expr} {rest : List Expr} {m1 m2 : M} {pos : Pos} (ha : DE Γ X a m1) (hb : DE Γ X (.BoolOp .And (b :: rest) pos) m2) : DE Γ X (.BoolOp .And (a :: b :: rest) pos) (mAnd m1 m2) :=
  ⟨fun W tk => pe_imp (pe_and (ha.run W tk) (hb.run W tk)) fun σ H Q ⟨G, ρ, R, h⟩ => ⟨G, ρ, R, Post.bind h fun d v G' H' _ x r q => by
    obtain ⟨b, e, q⟩ := q.asB
    subst e
    refine ⟨b, r.bool, ?_⟩
    cases b with
    | true => exact ⟨G', ρ, R.ext x, q⟩
    | false => exact Post.now x.s q (.bl false)⟩⟩
theorem de_or {a b : Expr} {rest : List Expr} {m1 m2 : M} {pos : Pos} (ha : DE Γ X a m1) (hb : DE Γ X (.BoolOp .Or (b :: rest) pos) m2) : DE Γ X (.BoolOp .Or (a :: b :: rest) pos) (mOr m1 m2) :=
  ⟨fun W tk => pe_imp (pe_or (ha.run W tk) (hb.run W tk)) fun σ H Q ⟨G, ρ, R, h⟩ => ⟨G, ρ, R, Post.bind h fun d v G' H' _ x r q => by
    obtain ⟨b, e, q⟩ := q.asB
    subst e
    refine ⟨b, r.bool, ?_⟩
    cases b with
    | true => exact Post.now x.s q (.bl true)
    | false => exact ⟨G', ρ, R.ext x, q⟩⟩⟩
theorem de_not {a : Expr} {m : M} {pos : Pos} (ha : DE Γ X a m) : DE Γ X (.UnaryOp .Not a pos) (mNot m) :=
  ⟨fun W tk => pe_imp (pe_not (ha.run W tk)) fun σ H Q ⟨G, ρ, R, h⟩ => ⟨G, ρ, R, Post.bind h fun d v G' H' _ x r q => by
    obtain ⟨b, e, q⟩ := q.asB
    subst e
    exact ⟨b, r.bool, Post.now x.s q (.bl _)⟩⟩⟩
def mIf (t : MT) (m1 m2 : M) : M := fun ρ => (t ρ).bind fun b => if b = true then m1 ρ else m2 ρ
theorem de_if {c a b : Expr} {t : MT} {m1 m2 : M} {pos : Pos} (hc : DT Γ X c t) (ha : DE Γ X a m1) (hb : DE Γ X b m2) : DE Γ X (.IfExp c a b pos) (mIf t m1 m2) :=
  ⟨fun W tk => pe_imp (pe_ifExp (hc.run W tk) (ha.run W tk) (hb.run W tk)) fun σ H Q ⟨G, ρ, R, h⟩ => ⟨G, ρ, R, Post.bindT h fun b G' H' _ x q => by
    cases b with
    | true => exact ⟨G', ρ, R.ext x, q⟩
    | false => exact ⟨G', ρ, R.ext x, q⟩⟩⟩
/-- a op1 b op2 c -/
def mChain (f f' : D → D → Res D) (m1 m2 m3 : M) : M := fun ρ => (m1 ρ).bind fun a => (m2 ρ).bind fun b => (f a b).plain.bind fun z => (asB z).bind fun k => if k = true then (m3 ρ).bind fun c => (f' b c).plain else .ok (.bool false)
theorem plain_bind {K : PySem.W.Frag} {mg : Str → Option Value} {W : WX} {G : Hp} {σ : L2.St} {H : Hp} {Q Q' : VK} {r : Res D} {f : D → Res D} (h : Post Γ K mg W G σ H Q (r.plain.bind f)) (s : Same G H)
    (k : ∀ d v G' H', r = .ok d → GExt Γ G H G' H' → Rp K G' v d → Post Γ K mg W G' σ H' Q (f d) → Q' v H') : PostV Γ K G H Q' r := by
  cases r with
  | ok d => exact fun v G' H' x q => k d v G' H' rfl x q (Post.ext x h)
  | exc c => exact h
  | stuck => exact h
theorem de_chain {op op' : CmpOp} {f f' : D → D → Res D} {a b c : Expr} {m1 m2 m3 : M} {pos : Pos} (ho : OpD Γ X (compareOp op) f) (ho' : OpD Γ X (compareOp op') f') (ha : DE Γ X a m1) (hb : DE Γ X b m2) (hc : DE Γ X c m3)
    (hm : lastMarks [op, op'] [b, c] = false := by first | rfl | decide) : DE Γ X (.Compare a [op, op'] [b, c] pos) (mChain f f' m1 m2 m3) :=
  ⟨fun W tk => pe_imp (pe_chain ho ho' (ha.run W tk) (hb.run W tk) (hc.run W tk) hm) fun σ H Q ⟨G, ρ, R, h⟩ => ⟨G, ρ, R, Post.bind h fun d1 v1 G1 H1 _ x1 r1 q1 =>
    ⟨G1, ρ, R.ext x1, Post.bind q1 fun d2 v2 G2 H2 _ x2 r2 q2 => ⟨G2, d1, d2, x2.s, r1.sm x2.g, r2, plain_bind q2 x2.s fun z v3 G3 H3 _ x3 r3 q3 => by
      obtain ⟨k, e, q3⟩ := q3.asB
      subst e
      refine ⟨k, r3.bool, ?_⟩
      cases k with
      | true => exact ⟨G3, ρ, ((R.ext x1).ext x2).ext x3, Post.bind q3 fun d4 v4 G4 H4 _ x4 r4 q4 => ⟨G4, d2, d4, x4.s, (r2.sm x3.g).sm x4.g, r4, post_plain q4⟩⟩
      | false => exact Post.now x3.s q3 (.bl false)⟩⟩⟩⟩

/-! ### argument lists -/
abbrev MA := Rho → Res (List D)
def PostA (Γ : Tbs) (K : PySem.W.Frag) (mg : Str → Option Value) (W : WX) (G : Hp) (σ : L2.St) (H : Hp) (Q : List V → Hp → Prop) : Res (List D) → Prop
  | .ok ds => ∀ vs G' H', GExt Γ G H G' H' → RpAll K G' vs ds → Q vs H'
  | .exc c => ∃ C, mg c = some (.ref C) ∧ ∀ H', SameN Γ H H' → W (.ref C) none σ H'
  | .stuck => False
theorem PostA.ext {K : PySem.W.Frag} {mg : Str → Option Value} {W : WX} {G G1 : Hp} {σ : L2.St} {H H1 : Hp} {Q : List V → Hp → Prop} (x : GExt Γ G H G1 H1) : ∀ {r : Res (List D)}, PostA Γ K mg W G σ H Q r → PostA Γ K mg W G1 σ H1 Q r
  | .ok b, h => fun vs G' H' y => h vs G' H' (x.trans y)
  | .exc c, ⟨C, a, b⟩ => ⟨C, a, fun H' s => b H' (x.h.trans s)⟩
  | .stuck, h => h
def rdA (Γ : Tbs) (K : PySem.W.Frag) (mg : Str → Option Value) (W : WX) (m : MA) : TA := fun σ H Q =>
  ∃ G ρ, RelE Γ K G ρ σ H ∧ PostA Γ K mg W G σ H Q (m ρ)
structure DA (Γ : Tbs) (X : Cx) (es : List Expr) (m : MA) : Prop where
  run : ∀ W, Takes X W → PA X es (rdA Γ X.K X.mg W m)
theorem pa_imp {X : Cx} {e : List Expr} {t t' : TA} (h : PA X e t) (i : ∀ σ H Q, t' σ H Q → t σ H Q) : PA X e t' := ⟨fun pos pins s σ H Q I q => h.run pos pins s σ H Q I (i σ H Q q)⟩
def mNil : MA := fun _ => .ok []
def mCons (m : M) (r : MA) : MA := fun ρ => (m ρ).bind fun d => (r ρ).bind fun ds => .ok (d :: ds)
theorem da_nil : DA Γ X [] mNil := ⟨fun W tk => pa_imp pa_nil fun σ H Q ⟨G, ρ, R, h⟩ => h [] G H (GExt.refl R.s) .nil⟩
theorem PostA.bind {K : PySem.W.Frag} {mg : Str → Option Value} {W : WX} {G : Hp} {σ : L2.St} {H : Hp} {Q : List V → Hp → Prop} {Q' : VK} {r : Res D} {f : D → Res (List D)} (h : PostA Γ K mg W G σ H Q (r.bind f))
    (k : ∀ d v G' H', r = .ok d → GExt Γ G H G' H' → Rp K G' v d → PostA Γ K mg W G' σ H' Q (f d) → Q' v H') : Post Γ K mg W G σ H Q' r := by
  cases r with
  | ok d => exact fun v G' H' x q => k d v G' H' rfl x q (PostA.ext x h)
  | exc c => exact h
  | stuck => exact h
theorem PostA.bindA {K : PySem.W.Frag} {mg : Str → Option Value} {W : WX} {G : Hp} {σ : L2.St} {H : Hp} {Q Q' : List V → Hp → Prop} {r : Res (List D)} {f : List D → Res (List D)} (h : PostA Γ K mg W G σ H Q (r.bind f))
    (k : ∀ ds vs G' H', r = .ok ds → GExt Γ G H G' H' → RpAll K G' vs ds → PostA Γ K mg W G' σ H' Q (f ds) → Q' vs H') : PostA Γ K mg W G σ H Q' r := by
  cases r with
  | ok d => exact fun v G' H' x q => k d v G' H' rfl x q (PostA.ext x h)
  | exc c => exact h
  | stuck => exact h
theorem Post.bindA {K : PySem.W.Frag} {mg : Str → Option Value} {W : WX} {G : Hp} {σ : L2.St} {H : Hp} {Q : VK} {Q' : List V → Hp → Prop} {r : Res (List D)} {f : List D → Res D} (h : Post Γ K mg W G σ H Q (r.bind f))
    (k : ∀ ds vs G' H', r = .ok ds → GExt Γ G H G' H' → RpAll K G' vs ds → Post Γ K mg W G' σ H' Q (f ds) → Q' vs H') : PostA Γ K mg W G σ H Q' r := by
  cases r with
  | ok d => exact fun v G' H' x q => k d v G' H' rfl x q (Post.ext x h)
  | exc c => exact h
  | stuck => exact h
theorem da_cons {e : Expr} {es : List Expr} {m : M} {r : MA} (ha : DE Γ X e m) (hr : DA Γ X es r) (hs : starEach (e :: es) X.env = (false, eval e X.env) :: starEach es X.env := by rfl) : DA Γ X (e :: es) (mCons m r) :=
  ⟨fun W tk => pa_imp (pa_cons (ha.run W tk) (hr.run W tk) hs) fun σ H Q ⟨G, ρ, R, h⟩ => ⟨G, ρ, R, PostA.bind h fun d v G1 H1 _ x1 r1 q1 =>
    ⟨G1, ρ, R.ext x1, PostA.bindA q1 fun ds vs G2 H2 _ x2 r2 q2 => q2 _ G2 H2 (GExt.refl x2.s) (.cons (r1.sm x2.g) r2)⟩⟩⟩
/-- a tuple of written items -/
def mTup (m : MA) : M := fun ρ => (m ρ).bind fun ds => if ds.length ≤ sizeLine then .ok (.tuple ds) else .stuck
theorem mkT_nt (k : Bool) (o : Obj) (xs : List V) : noTbl (mkT k o xs) := by
  rcases mkT_tupO k o xs with ⟨ys, e⟩ | ⟨z, ys, e⟩ <;> rw [e] <;> intro ps h <;> cases h
theorem new_tup {K : PySem.W.Frag} {G H : Hp} {vs : List V} {ds : List D} {p : Addr} {o : Obj} (s : Same G H) (r : RpAll K G vs ds) (hp : H p = none) (po : PlainO o) :
    GExt Γ G H (upd G p (mkT (keyish ds) o vs)) (upd H p (mkT (keyish ds) o vs)) ∧ Rp K (upd G p (mkT (keyish ds) o vs)) (.ref p) (.tuple ds) :=
  ⟨GExt.new s (mkT_nt _ _ _) hp, .tup upd_same po (r.sm (GExt.new (Γ := Γ) s (mkT_nt _ _ _) hp).g)⟩
def tTupK (t : TA) : TE := fun σ H Q => t σ H fun xs H1 => xs.length ≤ sizeLine ∧ ∃ k, ∀ p o, H1 p = none → PlainO o → Q (.ref p) (upd H1 p (mkT k o xs))
theorem pe_tupK {es : List Expr} {t : TA} {x1} {pos : Pos} (h : PA X es t) : PE X (.Tuple es x1 pos) (tTupK t) := by
  refine ⟨fun pins s σ H Q I hq => ?_⟩
  refine wpAny_Tuple_spliced (thn (h.run pos pins s σ H _ I hq) fun us s1 ⟨xs, H1, I1, r, z, k, q⟩ => ⟨by rw [← r.length]; exact z, ?_⟩)
  exact ⟨.ref s1.heap.objs.size, _, laidT I1 k r z, rfl, q _ _ (I1.hok.fresh (Nat.le_refl _)) (plain_new _)⟩
theorem de_tup {es : List Expr} {m : MA} {x1} {pos : Pos} (h : DA Γ X es m) : DE Γ X (.Tuple es x1 pos) (mTup m) :=
  ⟨fun W tk => pe_imp (pe_tupK (h.run W tk)) fun σ H Q ⟨G, ρ, R, h⟩ => ⟨G, ρ, R, Post.bindA h fun ds vs G' H' _ x r q => by
    split at q
    · rename_i hl
      refine ⟨by rw [r.length]; exact hl, keyish ds, fun p o hp po => ?_⟩
      obtain ⟨a, b⟩ := new_tup x.s r hp po
      exact q _ _ _ a b
    · exact q.elim⟩⟩

/-! ### fresh objects -/
def PostO (Γ : Tbs) (K : PySem.W.Frag) (mg : Str → Option Value) (W : WX) (G : Hp) (σ : L2.St) (H : Hp) (Q : VK) : Res D → Prop
  | .ok d => ∀ a o G' H', GExt Γ G H G' H' → H a = none → G' a = none → H' a = some o → OwnO K G' o d → Q (.ref a) H'
  | .exc c => ∃ C, mg c = some (.ref C) ∧ ∀ H', SameN Γ H H' → W (.ref C) none σ H'
  | .stuck => False
def rdO (Γ : Tbs) (K : PySem.W.Frag) (mg : Str → Option Value) (W : WX) (m : M) : TE := fun σ H Q =>
  ∃ G ρ, RelE Γ K G ρ σ H ∧ PostO Γ K mg W G σ H Q (m ρ)
/-- e is a new list or dict that nobody else holds -/
structure DO (Γ : Tbs) (X : Cx) (e : Expr) (m : M) : Prop where
  run : ∀ W, Takes X W → PE X e (rdO Γ X.K X.mg W m)
theorem PostO.ext {K : PySem.W.Frag} {mg : Str → Option Value} {W : WX} {G G1 : Hp} {σ : L2.St} {H H1 : Hp} {Q : VK} (x : GExt Γ G H G1 H1) : ∀ {r : Res D}, PostO Γ K mg W G σ H Q r → PostO Γ K mg W G1 σ H1 Q r
  | .ok d, h => fun a o G' H' y n1 n2 ha q => h a o G' H' (x.trans y) (x.h.free n1) n2 ha q
  | .exc c, ⟨C, a, b⟩ => ⟨C, a, fun H' s => b H' (x.h.trans s)⟩
  | .stuck, h => h
theorem PostO.bind {K : PySem.W.Frag} {mg : Str → Option Value} {W : WX} {G : Hp} {σ : L2.St} {H : Hp} {Q : VK} {Q' : VK} {r : Res D} {f : D → Res D} (h : PostO Γ K mg W G σ H Q (r.bind f))
    (k : ∀ d v G' H', r = .ok d → GExt Γ G H G' H' → Rp K G' v d → PostO Γ K mg W G' σ H' Q (f d) → Q' v H') : Post Γ K mg W G σ H Q' r := by
  cases r with
  | ok d => exact fun v G' H' x q => k d v G' H' rfl x q (PostO.ext x h)
  | exc c => exact h
  | stuck => exact h
theorem PostO.bindA {K : PySem.W.Frag} {mg : Str → Option Value} {W : WX} {G : Hp} {σ : L2.St} {H : Hp} {Q : VK} {Q' : List V → Hp → Prop} {r : Res (List D)} {f : List D → Res D} (h : PostO Γ K mg W G σ H Q (r.bind f))
    (k : ∀ ds vs G' H', r = .ok ds → GExt Γ G H G' H' → RpAll K G' vs ds → PostO Γ K mg W G' σ H' Q (f ds) → Q' vs H') : PostA Γ K mg W G σ H Q' r := by
  cases r with
  | ok d => exact fun v G' H' x q => k d v G' H' rfl x q (PostO.ext x h)
  | exc c => exact h
  | stuck => exact h
theorem PostO.bindT {K : PySem.W.Frag} {mg : Str → Option Value} {W : WX} {G : Hp} {σ : L2.St} {H : Hp} {Q : VK} {Q' : Bool → Hp → Prop} {r : Res Bool} {f : Bool → Res D} (h : PostO Γ K mg W G σ H Q (r.bind f))
    (k : ∀ b G' H', r = .ok b → GExt Γ G H G' H' → PostO Γ K mg W G' σ H' Q (f b) → Q' b H') : PostT Γ K mg W G σ H Q' r := by
  cases r with
  | ok d => exact fun G' H' x => k d G' H' rfl x (PostO.ext x h)
  | exc c => exact h
  | stuck => exact h
/-- a new object laid: the ground stays -/
theorem PostO.now {K : PySem.W.Frag} {mg : Str → Option Value} {W : WX} {G : Hp} {σ : L2.St} {H : Hp} {Q : VK} {d : D} {p : Addr} {o : HO} (s : Same G H) (h : PostO Γ K mg W G σ H Q (.ok d)) (hp : H p = none) (q : OwnO K G o d) : Q (.ref p) (upd H p o) := by
  have hs : Same H (upd H p o) := fun b u e => by rw [upd_ne (ne_of_none e hp)]; exact e
  exact h p o G _ (GExt.heap s hs) hp (s.free hp) upd_same q
/-- it is held from now on as it is: a datum -/
theorem OwnO.rp {K : PySem.W.Frag} {G : Hp} {a : Addr} {o : HO} {d : D} (h : OwnO K G o d) (hg : G a = none) : Rp K (upd G a o) (.ref a) d := by
  have e : Same G (upd G a o) := fun b u q => by rw [upd_ne (ne_of_none q hg)]; exact q
  rcases h with ⟨xs, ds, rfl, rfl, r⟩ | ⟨kvs, ds, rfl, rfl, r⟩ | ⟨kvs, ds, rfl, rfl, z, r⟩
  · exact .lst upd_same (r.sm e)
  · exact .dct (.inl upd_same) (r.sm e)
  · exact .dck (.inl upd_same) z (r.sm e)
theorem GExt.keep {G H G' H' : Hp} {a : Addr} {o : HO} (no : noTbl o) (x : GExt Γ G H G' H') (hn : H a = none) (hg : G' a = none) (ha : H' a = some o) : GExt Γ G H (upd G' a o) H' := by
  refine ⟨x.h, fun b u q => ?_, fun b u q => ?_, fun b u q => ?_⟩
  · rw [upd_ne (ne_of_none (x.g _ _ q) hg)]; exact x.g _ _ q
  · by_cases e : b = a
    · subst e; rw [upd_same] at q; cases q; exact ha
    · rw [upd_ne e] at q; exact x.s _ _ q
  · by_cases e : b = a
    · subst e; rw [upd_same] at q; cases q; exact .inr ⟨no, .inl hn⟩
    · rw [upd_ne e] at q; exact x.n _ _ q
theorem de_of_do {e : Expr} {m : M} (h : DO Γ X e m) : DE Γ X e m :=
  ⟨fun W tk => pe_imp (h.run W tk) fun σ H Q ⟨G, ρ, R, h⟩ => by
    refine ⟨G, ρ, R, ?_⟩
    cases e : m ρ with
    | ok d =>
      rw [e] at h
      exact fun a o G' H' x hn hg ha q => h (.ref a) (upd G' a o) H' (GExt.keep q.nt x hn hg ha) (q.rp hg)
    | exc c => rw [e] at h; exact h
    | stuck => rw [e] at h; exact h⟩
def mLst (m : MA) : M := fun ρ => (m ρ).bind fun ds => if ds.length ≤ sizeLine then .ok (.list ds) else .stuck
theorem do_lst {es : List Expr} {m : MA} {pos : Pos} (h : DA Γ X es m) : DO Γ X (.List es pos) (mLst m) :=
  ⟨fun W tk => pe_imp (pe_lst (h.run W tk)) fun σ H Q ⟨G, ρ, R, h⟩ => ⟨G, ρ, R, PostO.bindA h fun ds vs G' H' _ x r q => by
    split at q
    · rename_i hl
      exact ⟨by rw [r.length]; exact hl, fun p hp => PostO.now x.s q hp (.inl ⟨vs, ds, rfl, rfl, r⟩)⟩
    · exact q.elim⟩⟩
theorem do_if {c a b : Expr} {t : MT} {m1 m2 : M} {pos : Pos} (hc : DT Γ X c t) (ha : DO Γ X a m1) (hb : DO Γ X b m2) : DO Γ X (.IfExp c a b pos) (mIf t m1 m2) :=
  ⟨fun W tk => pe_imp (pe_ifExp (hc.run W tk) (ha.run W tk) (hb.run W tk)) fun σ H Q ⟨G, ρ, R, h⟩ => ⟨G, ρ, R, PostO.bindT h fun b G' H' _ x q => by
    cases b with
    | true => exact ⟨G', ρ, R.ext x, q⟩
    | false => exact ⟨G', ρ, R.ext x, q⟩⟩⟩
end
end De
end

section
set_option Elab.async false
set_option linter.all false
set_option maxRecDepth 100000
/-! De2: statements, blocks, calls of defs, a def by its body. -/
namespace De
open PySem PySem.Spec PyProof.Rows L2
/-- how a statement ends -/
inductive RSt where
  | next (ρ : Rho) | ret (d : D) | reto (d : D) | brk (ρ : Rho) | cont (ρ : Rho) | exc (c : Str) (ρ : Rho) | stuck
abbrev MS := Rho → RSt
def Res.st {α : Type} (x : Res α) (ρ : Rho) (f : α → RSt) : RSt := match x with
  | .ok a => f a
  | .exc c => .exc c ρ
  | .stuck => .stuck
@[simp] theorem Res.st_ok {α : Type} (a : α) (ρ : Rho) (f : α → RSt) : (Res.ok a).st ρ f = f a := rfl
@[simp] theorem Res.st_exc {α : Type} (c : Str) (ρ : Rho) (f : α → RSt) : (Res.exc c : Res α).st ρ f = .exc c ρ := rfl
@[simp] theorem Res.st_stuck {α : Type} (ρ : Rho) (f : α → RSt) : (Res.stuck : Res α).st ρ f = .stuck := rfl

/-- in a def's body: B the ground and the heap at the entry -/
structure RelG (Γ : Tbs) (K : PySem.W.Frag) (B : Hp × Hp) (G : Hp) (ρ : Rho) (σ : L2.St) (H : Hp) : Prop where
  x : GExt Γ B.1 B.2 G H
  r : RelE Γ K G ρ σ H
  f : ∀ (i : Nat) (d : D) (a : Addr), ρ[i]? = some (some (.own d)) → σ[i]? = some (some (.ref a)) → B.2 a = none
def RelS (Γ : Tbs) (K : PySem.W.Frag) (B : Hp × Hp) (ρ : Rho) (σ : L2.St) (H : Hp) : Prop := ∃ G, RelG Γ K B G ρ σ H
theorem RelG.ext {K : PySem.W.Frag} {B : Hp × Hp} {G H G' H' : Hp} {ρ : Rho} {σ : L2.St} (R : RelG Γ K B G ρ σ H) (x : GExt Γ G H G' H') : RelG Γ K B G' ρ σ H' := ⟨R.x.trans x, R.r.ext x, R.f⟩
def PostS (Γ : Tbs) (K : PySem.W.Frag) (mg : Str → Option Value) (W : WX) (B : Hp × Hp) (E : Ends) : RSt → Prop
  | .next ρ => ∀ σ H, RelS Γ K B ρ σ H → E.nx σ H
  | .brk ρ => ∀ σ H, RelS Γ K B ρ σ H → E.bk σ H
  | .cont ρ => ∀ σ H, RelS Γ K B ρ σ H → E.ct σ H
  | .ret d => ∀ v G H, GExt Γ B.1 B.2 G H → Rp K G v d → E.rt v H
  | .reto d => ∀ a o G H, GExt Γ B.1 B.2 G H → B.2 a = none → G a = none → H a = some o → OwnO K G o d → E.rt (.ref a) H
  | .exc c ρ => ∃ C, mg c = some (.ref C) ∧ ∀ σ H, RelS Γ K B ρ σ H → W (.ref C) none σ H
  | .stuck => False
def rdS (Γ : Tbs) (K : PySem.W.Frag) (mg : Str → Option Value) (W : WX) (m : MS) : TS := fun E σ H => ∃ B ρ, RelS Γ K B ρ σ H ∧ PostS Γ K mg W B E (m ρ)
structure DS (Γ : Tbs) (X : Cx) (st : Stmt) (m : MS) : Prop where
  run : ∀ W, Takes X W → PS X st (rdS Γ X.K X.mg W m)
structure DSs (Γ : Tbs) (X : Cx) (st : List Stmt) (m : MS) : Prop where
  run : ∀ W, Takes X W → PSs X st (rdS Γ X.K X.mg W m)
theorem ps_imp {X : Cx} {e : Stmt} {t t' : TS} (h : PS X e t) (i : ∀ D σ H, t' D σ H → t D σ H) : PS X e t' := ⟨fun pins s σ H D I q => h.run pins s σ H D I (i D σ H q)⟩
theorem pss_imp {X : Cx} {e : List Stmt} {t t' : TS} (h : PSs X e t) (i : ∀ D σ H, t' D σ H → t D σ H) : PSs X e t' := ⟨fun pins s σ H D I q => h.run pins s σ H D I (i D σ H q)⟩
/-- an expression within a statement -/
theorem PostS.bind {K : PySem.W.Frag} {mg : Str → Option Value} {W : WX} {B : Hp × Hp} {G : Hp} {ρ : Rho} {σ : L2.St} {H : Hp} {E : Ends} {m : M} {f : D → RSt} {Q : VK} (R : RelG Γ K B G ρ σ H) (h : PostS Γ K mg W B E ((m ρ).st ρ f))
    (k : ∀ d v G' H', RelG Γ K B G' ρ σ H' → Rp K G' v d → PostS Γ K mg W B E (f d) → Q v H') : rdE Γ K mg W m σ H Q := by
  refine ⟨G, ρ, R.r, ?_⟩
  cases e : m ρ with
  | ok d => rw [e] at h; exact fun v G' H' x q => k d v G' H' (R.ext x) q h
  | exc c =>
    rw [e] at h
    obtain ⟨C, a, b⟩ := h
    exact ⟨C, a, fun H' s => b σ H' ⟨G, R.ext (GExt.heapN R.r.s R.r.d.1 s)⟩⟩
  | stuck => rw [e] at h; exact h
theorem PostS.bindO {K : PySem.W.Frag} {mg : Str → Option Value} {W : WX} {B : Hp × Hp} {G : Hp} {ρ : Rho} {σ : L2.St} {H : Hp} {E : Ends} {m : M} {f : D → RSt} {Q : VK} (R : RelG Γ K B G ρ σ H) (h : PostS Γ K mg W B E ((m ρ).st ρ f))
    (k : ∀ d a o G' H', RelG Γ K B G' ρ σ H' → H a = none → G' a = none → H' a = some o → OwnO K G' o d → PostS Γ K mg W B E (f d) → Q (.ref a) H') : rdO Γ K mg W m σ H Q := by
  refine ⟨G, ρ, R.r, ?_⟩
  cases e : m ρ with
  | ok d => rw [e] at h; exact fun a o G' H' x n1 n2 ha q => k d a o G' H' (R.ext x) n1 n2 ha q h
  | exc c =>
    rw [e] at h
    obtain ⟨C, a, b⟩ := h
    exact ⟨C, a, fun H' s => b σ H' ⟨G, R.ext (GExt.heapN R.r.s R.r.d.1 s)⟩⟩
  | stuck => rw [e] at h; exact h
theorem PostS.bindT {K : PySem.W.Frag} {mg : Str → Option Value} {W : WX} {B : Hp × Hp} {G : Hp} {ρ : Rho} {σ : L2.St} {H : Hp} {E : Ends} {m : MT} {f : Bool → RSt} {Q : Bool → Hp → Prop} (R : RelG Γ K B G ρ σ H) (h : PostS Γ K mg W B E ((m ρ).st ρ f))
    (k : ∀ b G' H', m ρ = .ok b → RelG Γ K B G' ρ σ H' → PostS Γ K mg W B E (f b) → Q b H') : rdT Γ K mg W m σ H Q := by
  refine ⟨G, ρ, R.r, ?_⟩
  cases e : m ρ with
  | ok d => rw [e] at h; exact fun G' H' x => k d G' H' e (R.ext x) h
  | exc c =>
    rw [e] at h
    obtain ⟨C, a, b⟩ := h
    exact ⟨C, a, fun H' s => b σ H' ⟨G, R.ext (GExt.heapN R.r.s R.r.d.1 s)⟩⟩
  | stuck => rw [e] at h; exact h

/-! ### slots stored -/
theorem get_set {α : Type} {l : List α} {i j : Nat} {a b : α} (h : (l.set i a)[j]? = some b) : (j = i ∧ b = a ∧ i < l.length) ∨ (j ≠ i ∧ l[j]? = some b) := by
  by_cases e : j = i
  · subst e
    have hl : j < l.length := by
      have := (List.getElem?_eq_some_iff.mp h).1
      simpa using this
    rw [List.getElem?_set_self hl] at h
    exact .inl ⟨rfl, (Option.some.inj h).symm, hl⟩
  · rw [List.getElem?_set_ne (Ne.symm e)] at h
    exact .inr ⟨e, h⟩
theorem RelE.setDat {K : PySem.W.Frag} {G : Hp} {ρ : Rho} {σ : L2.St} {H : Hp} {v : V} {d : D} (R : RelE Γ K G ρ σ H) (i : Nat) (r : Rp K G v d) : RelE Γ K G (ρ.set i (some (.dat d))) (σ.set i (some v)) H := by
  refine ⟨R.s, R.d, by simpa using R.len, fun j x h => ?_, fun j k d' e' v' hjk h1 h2 h3 => ?_⟩
  · rcases get_set h with ⟨rfl, e, hl⟩ | ⟨hj, h⟩
    · cases e
      exact ⟨v, List.getElem?_set_self (by rw [← R.len]; exact hl), r⟩
    · obtain ⟨w, a, b⟩ := R.at_ j x h
      exact ⟨w, by rw [List.getElem?_set_ne (Ne.symm hj)]; exact a, b⟩
  · rcases get_set h1 with ⟨rfl, e, hl⟩ | ⟨hj, h1⟩
    · cases e
    · rcases get_set h2 with ⟨rfl, e, hl⟩ | ⟨hk, h2⟩
      · cases e
      · rw [List.getElem?_set_ne (Ne.symm hj)] at h3
        rw [List.getElem?_set_ne (Ne.symm hk)]
        exact R.apart j k d' e' v' hjk h1 h2 h3
theorem RelG.setDat {K : PySem.W.Frag} {B : Hp × Hp} {G : Hp} {ρ : Rho} {σ : L2.St} {H : Hp} {v : V} {d : D} (R : RelG Γ K B G ρ σ H) (i : Nat) (r : Rp K G v d) : RelG Γ K B G (ρ.set i (some (.dat d))) (σ.set i (some v)) H := by
  refine ⟨R.x, R.r.setDat i r, fun j e a h1 h2 => ?_⟩
  rcases get_set h1 with ⟨rfl, e, hl⟩ | ⟨hj, h1⟩
  · cases e
  · rw [List.getElem?_set_ne (Ne.symm hj)] at h2
    exact R.f j _ a h1 h2
theorem RelE.setOwn {K : PySem.W.Frag} {G : Hp} {ρ : Rho} {σ : L2.St} {H : Hp} {a : Addr} {o : HO} {d : D} (R : RelE Γ K G ρ σ H) (i : Nat) (ha : H a = some o) (hg : G a = none) (q : OwnO K G o d)
    (hne : ∀ (j : Nat) (e : D), j ≠ i → ρ[j]? = some (some (.own e)) → σ[j]? ≠ some (some (.ref a))) : RelE Γ K G (ρ.set i (some (.own d))) (σ.set i (some (.ref a))) H := by
  refine ⟨R.s, R.d, by simpa using R.len, fun j x h => ?_, fun j k d' e' v' hjk h1 h2 h3 h4 => ?_⟩
  · rcases get_set h with ⟨rfl, e, hl⟩ | ⟨hj, h⟩
    · cases e
      exact ⟨.ref a, List.getElem?_set_self (by rw [← R.len]; exact hl), a, o, rfl, ha, hg, q⟩
    · obtain ⟨w, h1, b⟩ := R.at_ j x h
      exact ⟨w, by rw [List.getElem?_set_ne (Ne.symm hj)]; exact h1, b⟩
  · rcases get_set h1 with ⟨rfl, e, hl⟩ | ⟨hj, h1⟩
    · rcases get_set h2 with ⟨rfl, e2, hl2⟩ | ⟨hk, h2⟩
      · exact hjk rfl
      · rw [List.getElem?_set_self (by rw [← R.len]; exact hl)] at h3
        rw [List.getElem?_set_ne (Ne.symm hk)] at h4
        cases h3
        exact hne k e' hk h2 h4
    · rw [List.getElem?_set_ne (Ne.symm hj)] at h3
      rcases get_set h2 with ⟨rfl, e2, hl2⟩ | ⟨hk, h2⟩
      · rw [List.getElem?_set_self (by rw [← R.len]; exact hl2)] at h4
        cases h4
        rw [List.getElem?_set_ne (Ne.symm hj)] at h1
        exact hne j d' hj h1 h3
      · rw [List.getElem?_set_ne (Ne.symm hk)] at h4
        exact R.apart j k d' e' v' hjk h1 h2 h3 h4
theorem RelG.setOwn {K : PySem.W.Frag} {B : Hp × Hp} {G : Hp} {ρ : Rho} {σ : L2.St} {H : Hp} {a : Addr} {o : HO} {d : D} (R : RelG Γ K B G ρ σ H) (i : Nat) (ha : H a = some o) (hg : G a = none) (q : OwnO K G o d) (hb : B.2 a = none)
    (hne : ∀ (j : Nat) (e : D), j ≠ i → ρ[j]? = some (some (.own e)) → σ[j]? ≠ some (some (.ref a))) : RelG Γ K B G (ρ.set i (some (.own d))) (σ.set i (some (.ref a))) H := by
  refine ⟨R.x, R.r.setOwn i ha hg q hne, fun j e b h1 h2 => ?_⟩
  rcases get_set h1 with ⟨rfl, e, hl⟩ | ⟨hj, h1⟩
  · rw [List.getElem?_set_self (by rw [← R.r.len]; exact hl)] at h2
    cases h2
    exact hb
  · rw [List.getElem?_set_ne (Ne.symm hj)] at h2
    exact R.f j _ b h1 h2
/-- what a slot of one's own holds is there -/
theorem RelE.own_there {K : PySem.W.Frag} {G : Hp} {ρ : Rho} {σ : L2.St} {H : Hp} {j : Nat} {e : D} {a : Addr} (R : RelE Γ K G ρ σ H) (h : ρ[j]? = some (some (.own e))) (h2 : σ[j]? = some (some (.ref a))) : ∃ o, H a = some o ∧ G a = none ∧ OwnO K G o e := by
  obtain ⟨v, h1, b, o, rfl, ha, hg, q⟩ := R.at_ j _ h
  rw [h1] at h2
  cases h2
  exact ⟨o, ha, hg, q⟩

section
variable {X : Cx}
/-! ### blocks -/
def mSkip : MS := fun ρ => .next ρ
def mSeq (m1 m2 : MS) : MS := fun ρ => match m1 ρ with
  | .next ρ' => m2 ρ'
  | r => r
theorem dss_nil : DSs Γ X [] mSkip := ⟨fun W tk => pss_imp pss_nil fun D σ H ⟨B, ρ, R, h⟩ => h σ H R⟩
theorem dss_one {st : Stmt} {m : MS} (h : DS Γ X st m) : DSs Γ X [st] m := ⟨fun W tk => pss_one (h.run W tk)⟩
theorem dss_cons {st : Stmt} {rest : List Stmt} {m1 m2 : MS} (h1 : DS Γ X st m1) (h2 : DSs Γ X rest m2) : DSs Γ X (st :: rest) (mSeq m1 m2) :=
  ⟨fun W tk => pss_imp (pss_cons (h1.run W tk) (h2.run W tk)) fun E σ H ⟨B, ρ, R, h⟩ => ⟨B, ρ, R, by
    unfold mSeq at h
    cases e : m1 ρ with
    | next ρ' => rw [e] at h; exact fun σ' H' R' => ⟨B, ρ', R', h⟩
    | ret d => rw [e] at h; exact h
    | reto d => rw [e] at h; exact h
    | brk d => rw [e] at h; exact h
    | cont d => rw [e] at h; exact h
    | exc c d => rw [e] at h; exact h
    | stuck => rw [e] at h; exact h⟩⟩
theorem ds_pass {pos : Pos} : DS Γ X (.Pass pos) mSkip := ⟨fun W tk => ps_imp ps_pass fun D σ H ⟨B, ρ, R, h⟩ => h σ H R⟩
def mBrk : MS := fun ρ => .brk ρ
def mCont : MS := fun ρ => .cont ρ
theorem ds_break {pos : Pos} : DS Γ X (.Break pos) mBrk := ⟨fun W tk => ps_imp ps_break fun D σ H ⟨B, ρ, R, h⟩ => h σ H R⟩
theorem ds_continue {pos : Pos} : DS Γ X (.Continue pos) mCont := ⟨fun W tk => ps_imp ps_continue fun D σ H ⟨B, ρ, R, h⟩ => h σ H R⟩
def mExpr (m : M) : MS := fun ρ => (m ρ).st ρ fun _ => .next ρ
theorem ds_expr {e : Expr} {m : M} {pos : Pos} (he : DE Γ X e m) (hs : swapsWith e none pos.line X.env = pure false := by rfl) : DS Γ X (.Expr e pos) (mExpr m) :=
  ⟨fun W tk => ps_imp (ps_expr (he.run W tk) hs) fun E σ H ⟨B, ρ, ⟨G, R⟩, h⟩ => PostS.bind R h fun d v G' H' R' r q => q σ H' ⟨G', R'⟩⟩
def mRet (m : M) : MS := fun ρ => (m ρ).st ρ fun d => .ret d
theorem ds_ret {e : Expr} {m : M} {pos : Pos} (he : DE Γ X e m) : DS Γ X (.Return (some e) pos) (mRet m) :=
  ⟨fun W tk => ps_imp (ps_ret (he.run W tk)) fun E σ H ⟨B, ρ, ⟨G, R⟩, h⟩ => PostS.bind R h fun d v G' H' R' r q => q v G' H' R'.x r⟩
def mRetO (m : M) : MS := fun ρ => (m ρ).st ρ fun d => .reto d
theorem ds_reto {e : Expr} {m : M} {pos : Pos} (he : DO Γ X e m) : DS Γ X (.Return (some e) pos) (mRetO m) :=
  ⟨fun W tk => ps_imp (ps_ret (he.run W tk)) fun E σ H ⟨B, ρ, ⟨G, R⟩, h⟩ => PostS.bindO R h fun d a o G' H' R' n1 n2 ha q k => k a o G' H' R'.x (R.x.h.free n1) n2 ha q⟩
/-- return x, x one's own: as a fresh object -/
def mRetV (i : Nat) : MS := fun ρ => match ρ[i]? with
  | some (some (.own d)) => .reto d
  | _ => .stuck
theorem ds_retv {i : Nat} {x : Str} {pos p2 : Pos} (hN : X.N[i]? = some x) (hv : Vis X.env.scope x) (hd : (x == ("__debug__" : Str)) = false := by decide) (hcd : (x == ("__classdict__" : Str)) = false := by decide) : DS Γ X (.Return (some (.Name x p2)) pos) (mRetV i) :=
  ⟨fun W tk => ps_imp (ps_ret (pe_var hN hv hd hcd)) fun E σ H ⟨B, ρ, ⟨G, R⟩, h⟩ => by
    unfold mRetV at h
    split at h
    · rename_i d e
      obtain ⟨v, h1, a, o, rfl, ha, hg, q⟩ := R.r.at_ i _ e
      exact ⟨.ref a, h1, h a o G H R.x (R.f i d a e h1) hg ha q⟩
    · exact h.elim⟩
/-- return x, x one's own: as a datum -/
def mRetF (i : Nat) : MS := fun ρ => match ρ[i]? with
  | some (some (.own d)) => .ret d
  | _ => .stuck
theorem GExt.hold {B : Hp × Hp} {G H : Hp} {a : Addr} {o : HO} (no : noTbl o) (x : GExt Γ B.1 B.2 G H) (hb : B.2 a = none) (hg : G a = none) (ha : H a = some o) : GExt Γ B.1 B.2 (upd G a o) H := GExt.keep no x hb hg ha
theorem ds_retf {i : Nat} {x : Str} {pos p2 : Pos} (hN : X.N[i]? = some x) (hv : Vis X.env.scope x) (hd : (x == ("__debug__" : Str)) = false := by decide) (hcd : (x == ("__classdict__" : Str)) = false := by decide) : DS Γ X (.Return (some (.Name x p2)) pos) (mRetF i) :=
  ⟨fun W tk => ps_imp (ps_ret (pe_var hN hv hd hcd)) fun E σ H ⟨B, ρ, ⟨G, R⟩, h⟩ => by
    unfold mRetF at h
    split at h
    · rename_i d e
      obtain ⟨v, h1, a, o, rfl, ha, hg, q⟩ := R.r.at_ i _ e
      exact ⟨.ref a, h1, h _ (upd G a o) H (GExt.hold q.nt R.x (R.f i d a e h1) hg ha) (q.rp hg)⟩
    · exact h.elim⟩
theorem ds_retn {pos : Pos} : DS Γ X (.Return none pos) (fun _ => .ret .none) :=
  ⟨fun W tk => ps_imp ps_retN fun E σ H ⟨B, ρ, ⟨G, R⟩, h⟩ => h .non G H R.x .non⟩
def mIfS (t : MT) (m1 m2 : MS) : MS := fun ρ => (t ρ).st ρ fun b => if b = true then m1 ρ else m2 ρ
theorem ds_if {c : Expr} {a b : List Stmt} {t : MT} {m1 m2 : MS} {pos : Pos} (hc : DT Γ X c t) (ha : DSs Γ X a m1) (hb : DSs Γ X b m2) : DS Γ X (.If c a b pos) (mIfS t m1 m2) :=
  ⟨fun W tk => ps_imp (ps_if (hc.run W tk) (ha.run W tk) (hb.run W tk)) fun E σ H ⟨B, ρ, ⟨G, R⟩, h⟩ => PostS.bindT R h fun b G' H' _ R' q => by
    cases b with
    | true => exact ⟨B, ρ, ⟨G', R'⟩, q⟩
    | false => exact ⟨B, ρ, ⟨G', R'⟩, q⟩⟩
/-! ### stores -/
def mSet (i : Nat) (m : M) : MS := fun ρ => (m ρ).st ρ fun d => .next (ρ.set i (some (.dat d)))
theorem ds_set {i : Nat} {x : Str} {e : Expr} {m : M} {pos pos' : Pos} (hN : X.N.Nodup) (hi : X.N[i]? = some x) (hx : Loc X.env.scope x) (he : DE Γ X e m) (hs : swapsWith e (some (.Name x pos')) pos.line X.env = pure false := by rfl)
    (hf : X.fn x = true ∨ X.env.scope.names.lookup x = some .local := by first | exact .inl rfl | exact .inr rfl | assumption) : DS Γ X (.Assign [.Name x pos'] e pos) (mSet i m) :=
  ⟨fun W tk => ps_imp (ps_set hN hi hx (he.run W tk) hs hf) fun E σ H ⟨B, ρ, ⟨G, R⟩, h⟩ => PostS.bind R h fun d v G' H' R' r q => q _ H' ⟨G', R'.setDat i r⟩⟩
def mSetO (i : Nat) (m : M) : MS := fun ρ => (m ρ).st ρ fun d => .next (ρ.set i (some (.own d)))
theorem RelG.fresh {K : PySem.W.Frag} {B : Hp × Hp} {G : Hp} {ρ : Rho} {σ : L2.St} {H : Hp} {a : Addr} (R : RelG Γ K B G ρ σ H) (hn : H a = none) (j : Nat) (e : D) (h : ρ[j]? = some (some (.own e))) : σ[j]? ≠ some (some (.ref a)) := fun z => by
  obtain ⟨o, ha, _⟩ := R.r.own_there h z
  rw [hn] at ha; cases ha
theorem ds_seto {i : Nat} {x : Str} {e : Expr} {m : M} {pos pos' : Pos} (hN : X.N.Nodup) (hi : X.N[i]? = some x) (hx : Loc X.env.scope x) (he : DO Γ X e m) (hs : swapsWith e (some (.Name x pos')) pos.line X.env = pure false := by rfl)
    (hf : X.fn x = true ∨ X.env.scope.names.lookup x = some .local := by first | exact .inl rfl | exact .inr rfl | assumption) : DS Γ X (.Assign [.Name x pos'] e pos) (mSetO i m) :=
  ⟨fun W tk => ps_imp (ps_set hN hi hx (he.run W tk) hs hf) fun E σ H ⟨B, ρ, ⟨G, R⟩, h⟩ => PostS.bindO R h fun d a o G' H' R' n1 n2 ha q k =>
    k _ H' ⟨G', R'.setOwn i ha n2 q (R.x.h.free n1) fun j e _ hj => R.fresh n1 j e hj⟩⟩

/-! ### targets -/
/-- where a value goes: one slot, or several by a tuple's items -/
inductive Tg where
  | nm (i : Nat) | tp (is : List Nat)
def putAll : List Nat → List D → Rho → Option Rho
  | [], [], ρ => some ρ
  | i :: is, d :: ds, ρ => putAll is ds (ρ.set i (some (.dat d)))
  | _, _, _ => none
def Tg.put : Tg → D → Rho → Option Rho
  | .nm i, d, ρ => some (ρ.set i (some (.dat d)))
  | .tp is, .tuple ds, ρ => putAll is ds ρ
  | .tp is, .dict [(.bool true, .list ds)], ρ => putAll is ds ρ
  | .tp _, _, _ => none
def Tg.slots : Tg → List Nat
  | .nm i => [i]
  | .tp is => is
/-- one's own slots stay as they are; only the target's slots change -/
structure Keeps (is : List Nat) (ρ : Rho) (σ : L2.St) (ρ' : Rho) (σ' : L2.St) : Prop where
  own : ∀ (j : Nat) (e : D), ρ'[j]? = some (some (.own e)) → ρ[j]? = some (some (.own e)) ∧ σ'[j]? = σ[j]?
  len : σ'.length = σ.length
  only : ∀ j, j ∉ is → σ'[j]? = σ[j]?
theorem RelG.keeps {K : PySem.W.Frag} {B : Hp × Hp} {G : Hp} {ρ ρ' : Rho} {σ σ' : L2.St} {H : Hp} (R : RelG Γ K B G ρ σ H) (r : RelE Γ K G ρ' σ' H) {is : List Nat} (k : Keeps is ρ σ ρ' σ') : RelG Γ K B G ρ' σ' H :=
  ⟨R.x, r, fun j e a h1 h2 => by obtain ⟨z1, z2⟩ := k.own j e h1; rw [z2] at h2; exact R.f j e a z1 h2⟩
def rdG (Γ : Tbs) (K : PySem.W.Frag) (t : Tg) : TG := fun v σ H Q => ∃ G ρ d ρ', RelE Γ K G ρ σ H ∧ Rp K G v d ∧ t.put d ρ = some ρ' ∧ ∀ σ', RelE Γ K G ρ' σ' H → Keeps t.slots ρ σ ρ' σ' → Q σ' H
structure DG (Γ : Tbs) (X : Cx) (tg : Expr) (t : Tg) : Prop where
  run : PG X tg (rdG Γ X.K t)
theorem pg_imp {X : Cx} {e : Expr} {t t' : TG} (h : PG X e t) (i : ∀ v σ H Q, t' v σ H Q → t v σ H Q) : PG X e t' := ⟨fun pins s σ H v u Q I r q => h.run pins s σ H v u Q I r (i v σ H Q q)⟩
theorem Keeps.set {ρ : Rho} {σ : L2.St} {i : Nat} {d : D} {v : V} : Keeps [i] ρ σ (ρ.set i (some (.dat d))) (σ.set i (some v)) := by
  refine ⟨fun j e h => ?_, by simp, fun j hj => List.getElem?_set_ne fun e => hj (by simp [e])⟩
  rcases get_set h with ⟨rfl, e, hl⟩ | ⟨hj, h⟩
  · cases e
  · exact ⟨h, List.getElem?_set_ne (Ne.symm hj)⟩
theorem Keeps.trans {i : Nat} {is : List Nat} {ρ ρ1 ρ2 : Rho} {σ σ1 σ2 : L2.St} (a : Keeps [i] ρ σ ρ1 σ1) (b : Keeps is ρ1 σ1 ρ2 σ2) : Keeps (i :: is) ρ σ ρ2 σ2 := by
  refine ⟨fun j e h => ?_, b.len.trans a.len, fun j hj => (b.only j fun m => hj (List.mem_cons_of_mem _ m)).trans (a.only j fun m => hj (by simp at m; simp [m]))⟩
  obtain ⟨h1, h2⟩ := b.own j e h
  obtain ⟨h3, h4⟩ := a.own j e h1
  exact ⟨h3, h2.trans h4⟩
theorem dg_name {i : Nat} {x : Str} {pos : Pos} (hN : X.N.Nodup) (hi : X.N[i]? = some x) (hx : Loc X.env.scope x) (hf : X.fn x = true ∨ X.env.scope.names.lookup x = some .local := by first | exact .inl rfl | exact .inr rfl | assumption) : DG Γ X (.Name x pos) (.nm i) :=
  ⟨pg_imp (pg_name hN hi hx hf) fun v σ H Q ⟨G, ρ, d, ρ', R, r, e, k⟩ => by
    cases e
    exact k _ (R.setDat i r) Keeps.set⟩
/-- several names, one after another -/
structure DGs (Γ : Tbs) (X : Cx) (ts : List Expr) (is : List Nat) : Prop where
  run : ∃ g, PGs X ts g ∧ ∀ vs σ H Q G ρ ds ρ', RelE Γ X.K G ρ σ H → RpAll X.K G vs ds → putAll is ds ρ = some ρ' → (∀ σ', RelE Γ X.K G ρ' σ' H → Keeps is ρ σ ρ' σ' → Q σ' H) → g vs σ H Q
theorem dgs_nil : DGs Γ X [] [] := ⟨_, pgs_nil, fun vs σ H Q G ρ ds ρ' R r e k => by
  cases ds with
  | nil =>
    cases r
    cases e
    exact ⟨rfl, k σ R ⟨fun j e h => ⟨h, rfl⟩, rfl, fun _ _ => rfl⟩⟩
  | cons d ds => cases e⟩
theorem dgs_cons {i : Nat} {x : Str} {pos : Pos} {es : List Expr} {is : List Nat} (hN : X.N.Nodup) (hi : X.N[i]? = some x) (hx : Loc X.env.scope x) (h2 : DGs Γ X es is) (hf : X.fn x = true ∨ X.env.scope.names.lookup x = some .local := by first | exact .inl rfl | exact .inr rfl | assumption)
    (hs : (assignEach (.Name x pos :: es) X.env).map (·.2) = assign (.Name x pos) X.env :: (assignEach es X.env).map (·.2) := by rfl) : DGs Γ X (.Name x pos :: es) (i :: is) := by
  obtain ⟨g, hg, hk⟩ := h2.run
  refine ⟨_, pgs_cons (pg_name hN hi hx hf) hg hs, fun vs σ H Q G ρ ds ρ' R r e k => ?_⟩
  cases ds with
  | nil => cases e
  | cons d ds =>
    cases r with
    | cons r1 r2 =>
      exact ⟨_, _, rfl, hk _ _ H Q G _ ds ρ' (R.setDat i r1) r2 e fun σ' R' ks => k σ' R' (Keeps.set.trans ks)⟩
theorem dg_tup {es : List Expr} {is : List Nat} {k : Nat} {pos : Pos} (hc : X.calm = true) (h : DGs Γ X es is) (hn : (assignEach es X.env).length = is.length := by rfl) (hst : (assignEach es X.env).findIdx? (·.1) = none := by rfl) : DG Γ X (.Tuple es k pos) (.tp is) := by
  obtain ⟨g, hg, hk⟩ := h.run
  refine ⟨pg_imp (pg_tup hc hg hn hst) fun v σ H Q ⟨G, ρ, d, ρ', R, r, e, kk⟩ => ?_⟩
  have len : ∀ (is : List Nat) (ds : List D) (ρ : Rho), putAll is ds ρ = some ρ' → is.length = ds.length := by
    intro is
    induction is with
    | nil => intro ds ρ h; cases ds with | nil => rfl | cons _ _ => cases h
    | cons i is ih => intro ds ρ h; cases ds with | nil => cases h | cons d ds => simp [ih ds _ h]
  unfold Tg.put at e
  split at e
  · rename_i t1; cases t1
  · rename_i is' ds t1
    cases t1
    obtain ⟨a, xs, rfl, hs, ra⟩ := r.sqT
    exact ⟨a, xs, rfl, SqT.sm R.s hs, by rw [ra.length, len _ _ _ e], hk xs σ H Q G _ _ ρ' R ra e kk⟩
  · rename_i is' ds t1
    cases t1
    obtain ⟨a, xs, rfl, hs, ra⟩ := r.lse_inv
    exact ⟨a, xs, rfl, SqT.sm R.s hs, by rw [ra.length, len _ _ _ e], hk xs σ H Q G _ _ ρ' R ra e kk⟩
  · cases e
/-- target = e -/
def mAsg (t : Tg) (m : M) : MS := fun ρ => (m ρ).st ρ fun d => match t.put d ρ with
  | some ρ' => .next ρ'
  | none => .stuck
theorem ds_asg {tg e : Expr} {t : Tg} {m : M} {pos : Pos} (hg : DG Γ X tg t) (he : DE Γ X e m) (hs : swapsWithSole [tg] e pos.line X.env = pure false := by rfl) (hw : swappedStores [tg] e X.env = pure none := by rfl)
    (h1 : (assignEach [tg] X.env).map (·.2) = [assign tg X.env] := by rfl) : DS Γ X (.Assign [tg] e pos) (mAsg t m) :=
  ⟨fun W tk => ps_imp (ps_asg (he.run W tk) hg.run hs hw h1) fun E σ H ⟨B, ρ, ⟨G, R⟩, h⟩ => PostS.bind R h fun d v G' H' R' r q => by
    split at q
    · rename_i ρ' e
      exact ⟨G', ρ, d, ρ', R'.r, r, e, fun σ' R2 ks => q σ' H' ⟨G', R'.keeps R2 ks⟩⟩
    · exact q.elim⟩
end
end De
end

section
set_option Elab.async false
set_option linter.all false
set_option maxRecDepth 100000
/-! De3: calls of defs, a def by its body, while, what is walked, for, list comprehensions. -/
namespace De
open PySem PySem.Spec PyProof.Rows L2

/-! ### a def's promise -/
def PostR (Γ : Tbs) (K : PySem.W.Frag) (mg : Str → Option Value) (G H : Hp) (Q : VK) (E : XK) : Res D → Prop
  | .ok d => ∀ v G' H', GExt Γ G H G' H' → Rp K G' v d → Q v H'
  | .exc c => ∃ C, mg c = some (.ref C) ∧ ∀ H', SameN Γ H H' → E (.ref C) none H'
  | .stuck => False
def PostRO (Γ : Tbs) (K : PySem.W.Frag) (mg : Str → Option Value) (G H : Hp) (Q : VK) (E : XK) : Res D → Prop
  | .ok d => ∀ a o G' H', GExt Γ G H G' H' → H a = none → G' a = none → H' a = some o → OwnO K G' o d → Q (.ref a) H'
  | .exc c => ∃ C, mg c = some (.ref C) ∧ ∀ H', SameN Γ H H' → E (.ref C) none H'
  | .stuck => False
/-- the ground, the tables -/
def Gd (Γ : Tbs) (G H : Hp) : Prop := Same G H ∧ (NT G ∧ LamX.Tabs Γ H)
/-- called with data it answers as f says -/
def spD (Γ : Tbs) (K : PySem.W.Frag) (mg : Str → Option Value) (n : Nat) (f : List D → Res D) : Sp := fun vs H Q E => vs.length = n ∧ ∃ G ds, Gd Γ G H ∧ RpAll K G vs ds ∧ PostR Γ K mg G H Q E (f ds)
/-- .. a fresh object -/
def spO (Γ : Tbs) (K : PySem.W.Frag) (mg : Str → Option Value) (n : Nat) (f : List D → Res D) : Sp := fun vs H Q E => vs.length = n ∧ ∃ G ds, Gd Γ G H ∧ RpAll K G vs ds ∧ PostRO Γ K mg G H Q E (f ds)
structure FnP (P : Program) (w : World) (K : PySem.W.Frag) (mg : Str → Option Value) (base : Heap) (k : Nat) (x : Str) (sp : Sp) : Prop where
  ex : ∃ a fd ps, FnOk P w K mg base (L2.CX P w) k a fd ps sp ∧ mg x = some (.ref a) ∧ PySem.W.keepIn K (.ref a) = true ∧ Binds K fd ps []
def FnD (Γ : Tbs) (P : Program) (w : World) (K : PySem.W.Frag) (mg : Str → Option Value) (base : Heap) (k : Nat) (x : Str) (n : Nat) (f : List D → Res D) : Prop := FnP P w K mg base k x (spD Γ K mg n f)
def FnO (Γ : Tbs) (P : Program) (w : World) (K : PySem.W.Frag) (mg : Str → Option Value) (base : Heap) (k : Nat) (x : Str) (n : Nat) (f : List D → Res D) : Prop := FnP P w K mg base k x (spO Γ K mg n f)
section
variable {X : Cx}
def mCall (n : Nat) (f : List D → Res D) (m : MA) : M := fun ρ => (m ρ).bind fun ds => if ds.length = n then f ds else .stuck
theorem Post.ofR {K : PySem.W.Frag} {mg : Str → Option Value} {W : WX} {G : Hp} {σ : L2.St} {H : Hp} {Q : VK} {r : Res D} (h : Post Γ K mg W G σ H Q r) : PostR Γ K mg G H Q (WE W σ) r := by
  cases r with
  | ok d => exact h
  | exc c => exact h
  | stuck => exact h
theorem PostO.ofR {K : PySem.W.Frag} {mg : Str → Option Value} {W : WX} {G : Hp} {σ : L2.St} {H : Hp} {Q : VK} {r : Res D} (h : PostO Γ K mg W G σ H Q r) : PostRO Γ K mg G H Q (WE W σ) r := by
  cases r with
  | ok d => exact h
  | exc c => exact h
  | stuck => exact h
theorem de_call {k n : Nat} {x : Str} {f : List D → Res D} {e : Expr} {es : List Expr} {m : MA} {p pos : Pos} (F : FnD Γ X.prog X.w X.K X.mg X.base k x n f) (hr : Room k X.A) (hg : Gl X x) (ha : DA Γ X (e :: es) m)
    (hdb : (x == ("__debug__" : Str)) = false := by decide) (he : starEach (e :: es) X.env = (false, eval e X.env) :: starEach es X.env := by rfl) (hpl : (backTo pos (starEach es X.env)).any (·.1) = false := by rfl) : DE Γ X (.Call (.Name x p) (e :: es) [] pos) (mCall n f m) := by
  obtain ⟨a, fd, ps, F, hm, hk, hb⟩ := F.ex
  refine ⟨fun W tk => pe_imp (pe_callS F hr hg hm hk hb (fun σ => passAt tk σ) (ha.run W tk) hdb he hpl) fun σ H Q ⟨G, ρ, R, h⟩ => ⟨G, ρ, R, Post.bindA h fun ds vs G' H' _ x r q => ?_⟩⟩
  split at q
  · rename_i hl
    exact ⟨by rw [r.length]; exact hl, G', ds, ⟨x.s, x.d R.d⟩, r, q.ofR⟩
  · exact q.elim
theorem do_call {k n : Nat} {x : Str} {f : List D → Res D} {e : Expr} {es : List Expr} {m : MA} {p pos : Pos} (F : FnO Γ X.prog X.w X.K X.mg X.base k x n f) (hr : Room k X.A) (hg : Gl X x) (ha : DA Γ X (e :: es) m)
    (hdb : (x == ("__debug__" : Str)) = false := by decide) (he : starEach (e :: es) X.env = (false, eval e X.env) :: starEach es X.env := by rfl) (hpl : (backTo pos (starEach es X.env)).any (·.1) = false := by rfl) : DO Γ X (.Call (.Name x p) (e :: es) [] pos) (mCall n f m) := by
  obtain ⟨a, fd, ps, F, hm, hk, hb⟩ := F.ex
  refine ⟨fun W tk => pe_imp (pe_callS F hr hg hm hk hb (fun σ => passAt tk σ) (ha.run W tk) hdb he hpl) fun σ H Q ⟨G, ρ, R, h⟩ => ⟨G, ρ, R, PostO.bindA h fun ds vs G' H' _ x r q => ?_⟩⟩
  split at q
  · rename_i hl
    exact ⟨by rw [r.length]; exact hl, G', ds, ⟨x.s, x.d R.d⟩, r, q.ofR⟩
  · exact q.elim
end

/-! ### a def by its body -/
def startR (N : List Str) (ds : List D) : Rho := ds.map (fun d => some (.dat d)) ++ List.replicate (N.length - ds.length) none
def runD : RSt → Res D
  | .next _ => .ok .none
  | .ret d => .ok d
  | .exc c _ => .exc c
  | _ => .stuck
def runO : RSt → Res D
  | .reto d => .ok d
  | .exc c _ => .exc c
  | _ => .stuck
theorem rel_start {K : PySem.W.Frag} {G H : Hp} {N : List Str} {vs : List V} {ds : List D} (s : Gd Γ G H) (r : RpAll K G vs ds) : RelG Γ K (G, H) G (startR N ds) (L2.start N vs) H := by
  have own : ∀ (i : Nat) (x : Sl), (startR N ds)[i]? = some (some x) → ∃ d, x = .dat d ∧ ds[i]? = some d := fun i x h => by
    unfold startR at h
    by_cases hi : i < ds.length
    · rw [List.getElem?_append_left (by simpa using hi), List.getElem?_map] at h
      cases e : ds[i]? with
      | none => rw [e] at h; cases h
      | some d => rw [e] at h; cases h; exact ⟨d, rfl, rfl⟩
    · rw [List.getElem?_append_right (by simpa using hi), List.getElem?_replicate] at h
      split at h <;> cases h
  refine ⟨GExt.refl s.1, ⟨s.1, s.2, by simp [startR, L2.start, r.length], fun i x h => ?_, fun i j d e v _ h => ?_⟩, fun i d a h => ?_⟩
  · obtain ⟨d, rfl, hd⟩ := own i x h
    obtain ⟨v, hv, q⟩ := r.get hd
    refine ⟨v, ?_, q⟩
    have hl := (List.getElem?_eq_some_iff.mp hv).1
    unfold L2.start
    rw [List.getElem?_append_left (by simpa using hl), List.getElem?_map, hv]
    rfl
  · obtain ⟨d', e', _⟩ := own i _ h
    cases e'
  · obtain ⟨d', e', _⟩ := own i _ h
    cases e'
section
variable {P : Program} {w : World} {K : PySem.W.Frag} {mg : Str → Option Value} {base : Heap} {x qual : Str} {st : Stmt} {f : Addr} {fd : FuncData} {N ps : List Str} {k : Nat} {m : MS}
theorem takesOf {cdv : Value} {A : Around} {outer : List Env} {s : Shared} {H : Hp} {E : XK} : Takes (cxOf (L2.CX P w) P w K mg base N qual (defScope st) f cdv A outer s H E) (fun cls d _ H => E cls d H) := takes_of rfl rfl rfl rfl
theorem fnD_of (F : Fun K x qual st f fd) (hx : mg x = some (.ref f)) (S : FnScope N ps (defScope st)) (hb : Binds K fd ps [])
    (body : ∀ (cdv : Value) (A : Around) (outer : List Env) (s : Shared) (H : Hp) (E : XK), Room k (A.deeper (envOfC qual (defScope st) s.heap.objs.size f cdv)) → DSs Γ (cxOf (L2.CX P w) P w K mg base N qual (defScope st) f cdv A outer s H E) (defBody st) m) :
    FnD Γ P w K mg base (k + 1) x ps.length (fun ds => runD (m (startR N ds))) := by
  refine ⟨f, fd, ps, F.okX S (fun vs H Q E h => h.1) (fun cdv A outer s H vs Q E hr h => ?_), hx, F.kp, hb⟩
  obtain ⟨hl, G, ds, sm, r, q⟩ := h
  dsimp only at q
  refine ⟨_, (body cdv A outer s H E hr).run _ takesOf, (G, H), startR N ds, ⟨G, rel_start sm r⟩, ?_⟩
  show PostS Γ K mg _ _ _ (m (startR N ds))
  cases e : m (startR N ds) with
  | next ρ => rw [e] at q; exact fun σ' H' ⟨G', R⟩ => q .non G' H' R.x .non
  | ret d => rw [e] at q; exact fun v G' H' x r => q v G' H' x r
  | reto d => rw [e] at q; exact q.elim
  | brk d => rw [e] at q; exact q.elim
  | cont d => rw [e] at q; exact q.elim
  | exc c d => rw [e] at q; obtain ⟨C, a, b⟩ := q; exact ⟨C, a, fun σ' H' ⟨G', R⟩ => b H' R.x.h⟩
  | stuck => rw [e] at q; exact q.elim
theorem fnO_of (F : Fun K x qual st f fd) (hx : mg x = some (.ref f)) (S : FnScope N ps (defScope st)) (hb : Binds K fd ps [])
    (body : ∀ (cdv : Value) (A : Around) (outer : List Env) (s : Shared) (H : Hp) (E : XK), Room k (A.deeper (envOfC qual (defScope st) s.heap.objs.size f cdv)) → DSs Γ (cxOf (L2.CX P w) P w K mg base N qual (defScope st) f cdv A outer s H E) (defBody st) m) :
    FnO Γ P w K mg base (k + 1) x ps.length (fun ds => runO (m (startR N ds))) := by
  refine ⟨f, fd, ps, F.okX S (fun vs H Q E h => h.1) (fun cdv A outer s H vs Q E hr h => ?_), hx, F.kp, hb⟩
  obtain ⟨hl, G, ds, sm, r, q⟩ := h
  dsimp only at q
  refine ⟨_, (body cdv A outer s H E hr).run _ takesOf, (G, H), startR N ds, ⟨G, rel_start sm r⟩, ?_⟩
  show PostS Γ K mg _ _ _ (m (startR N ds))
  cases e : m (startR N ds) with
  | next ρ => rw [e] at q; exact q.elim
  | ret d => rw [e] at q; exact q.elim
  | reto d => rw [e] at q; exact fun a o G' H' x h1 h2 h3 r => q a o G' H' x h1 h2 h3 r
  | brk d => rw [e] at q; exact q.elim
  | cont d => rw [e] at q; exact q.elim
  | exc c d => rw [e] at q; obtain ⟨C, a, b⟩ := q; exact ⟨C, a, fun σ' H' ⟨G', R⟩ => b H' R.x.h⟩
  | stuck => rw [e] at q; exact q.elim
/-- the same promise by another name of the mirror -/
theorem FnP.spec {sp sp' : Sp} (F : FnP P w K mg base k x sp) (h : ∀ vs H Q E, sp' vs H Q E → sp vs H Q E) : FnP P w K mg base k x sp' := by
  obtain ⟨a, fd, ps, F, r⟩ := F.ex
  exact ⟨a, fd, ps, F.imp h, r⟩
theorem FnP.mono {sp : Sp} {j : Nat} (F : FnP P w K mg base j x sp) (h : j ≤ k) : FnP P w K mg base k x sp := by
  obtain ⟨a, fd, ps, F, r⟩ := F.ex
  exact ⟨a, fd, ps, F.mono h, r⟩
end

/-! ### while -/
section
variable {X : Cx}
def whileN (t : MT) (b : MS) : Nat → MS
  | 0, _ => .stuck
  | n + 1, ρ => (t ρ).st ρ fun c => if c = true then match b ρ with
      | .next ρ' => whileN t b n ρ'
      | .cont ρ' => whileN t b n ρ'
      | .brk ρ' => .next ρ'
      | r => r
    else .next ρ
theorem ds_while {c : Expr} {body : List Stmt} {t : MT} {b : MS} {pos : Pos} (n : Nat) (hp : PassesOwn (model X.prog X.w) X.A X.env X.xe) (hc : DT Γ X c t) (hb : DSs Γ X body b) : DS Γ X (.While c body [] pos) (whileN t b n) := by
  refine ⟨fun W tk => ps_imp (ps_while hp (hc.run W tk) (hb.run W tk)) fun E σ H ⟨B, ρ, R, h⟩ => ?_⟩
  refine ⟨fun m σ H => ∃ ρ, RelS Γ X.K B ρ σ H ∧ PostS Γ X.K X.mg W B E (whileN t b m ρ), ⟨n, ρ, R, h⟩, fun m σ H ⟨ρ, ⟨G, R⟩, h⟩ => ?_⟩
  cases m with
  | zero => exact h.elim
  | succ m =>
    refine PostS.bindT R (by unfold whileN at h; exact h) fun c G' H' _ R' q => ?_
    cases c with
    | false => exact q σ H' ⟨G', R'⟩
    | true =>
      simp only [if_true] at q ⊢
      refine ⟨fun σ' H' => ∃ ρ, RelS Γ X.K B ρ σ' H' ∧ PostS Γ X.K X.mg W B E (whileN t b m ρ), fun σ' H' h' => ⟨m, Nat.lt_succ_self _, h'⟩, B, ρ, ⟨G', R'⟩, ?_⟩
      cases e : b ρ with
      | next ρ' => rw [e] at q; exact fun σ' H' R2 => ⟨ρ', R2, q⟩
      | cont ρ' => rw [e] at q; exact fun σ' H' R2 => ⟨ρ', R2, q⟩
      | brk ρ' => rw [e] at q; exact fun σ' H' R2 => q σ' H' R2
      | ret d => rw [e] at q; exact q
      | reto d => rw [e] at q; exact q
      | exc c d => rw [e] at q; exact q
      | stuck => rw [e] at q; exact q

/-! ### what is walked -/
/-- the iterator J yields the data ds, while the ground G stands -/
structure ItOk (Γ : Tbs) (K : PySem.W.Frag) (J : It) (G : Hp) (ds : List D) : Prop where
  len : ds.length ≤ sizeLine
  stop : ∀ i H, Same G H → ds.length ≤ i → J.stop i H
  go : ∀ i H, Same G H → i < ds.length → J.go i H
  yld : ∀ i G2 H x H' d, Same G G2 → Same G2 H → ds[i]? = some d → J.yld i H x H' → ∃ G', GExt Γ G2 H G' H' ∧ Rp K G' x d
def PostI (Γ : Tbs) (K : PySem.W.Frag) (mg : Str → Option Value) (W : WX) (G : Hp) (σ : L2.St) (H : Hp) (Q : It → Hp → Prop) : Res (List D) → Prop
  | .ok ds => ∀ J G' H', GExt Γ G H G' H' → ItOk Γ K J G' ds → Q J H'
  | .exc c => ∃ C, mg c = some (.ref C) ∧ ∀ H', SameN Γ H H' → W (.ref C) none σ H'
  | .stuck => False
abbrev MI := Rho → Res (List D)
def rdI (Γ : Tbs) (K : PySem.W.Frag) (mg : Str → Option Value) (W : WX) (m : MI) : TI := fun σ H Q => ∃ G ρ, RelE Γ K G ρ σ H ∧ PostI Γ K mg W G σ H Q (m ρ)
structure DI (Γ : Tbs) (X : Cx) (tg iter : Expr) (m : MI) : Prop where
  run : ∀ W, Takes X W → PI X tg iter (rdI Γ X.K X.mg W m)
theorem pi_imp {tg e : Expr} {t t' : TI} (h : PI X tg e t) (i : ∀ σ H Q, t' σ H Q → t σ H Q) : PI X tg e t' := ⟨fun pins s σ H Q I q => h.run pins s σ H Q I (i σ H Q q)⟩
theorem PostI.ext {K : PySem.W.Frag} {mg : Str → Option Value} {W : WX} {G G1 : Hp} {σ : L2.St} {H H1 : Hp} {Q : It → Hp → Prop} (x : GExt Γ G H G1 H1) : ∀ {r : Res (List D)}, PostI Γ K mg W G σ H Q r → PostI Γ K mg W G1 σ H1 Q r
  | .ok b, h => fun vs G' H' y => h vs G' H' (x.trans y)
  | .exc c, ⟨C, a, b⟩ => ⟨C, a, fun H' s => b H' (x.h.trans s)⟩
  | .stuck, h => h
theorem PostI.bind {K : PySem.W.Frag} {mg : Str → Option Value} {W : WX} {G : Hp} {σ : L2.St} {H : Hp} {Q : It → Hp → Prop} {Q' : VK} {r : Res D} {f : D → Res (List D)} (h : PostI Γ K mg W G σ H Q (r.bind f))
    (k : ∀ d v G' H', r = .ok d → GExt Γ G H G' H' → Rp K G' v d → PostI Γ K mg W G' σ H' Q (f d) → Q' v H') : Post Γ K mg W G σ H Q' r := by
  cases r with
  | ok d => exact fun v G' H' x q => k d v G' H' rfl x q (PostI.ext x h)
  | exc c => exact h
  | stuck => exact h
theorem PostI.bindA {K : PySem.W.Frag} {mg : Str → Option Value} {W : WX} {G : Hp} {σ : L2.St} {H : Hp} {Q : It → Hp → Prop} {Q' : List V → Hp → Prop} {r : Res (List D)} {f : List D → Res (List D)} (h : PostI Γ K mg W G σ H Q (r.bind f))
    (k : ∀ ds vs G' H', r = .ok ds → GExt Γ G H G' H' → RpAll K G' vs ds → PostI Γ K mg W G' σ H' Q (f ds) → Q' vs H') : PostA Γ K mg W G σ H Q' r := by
  cases r with
  | ok d => exact fun v G' H' x q => k d v G' H' rfl x q (PostI.ext x h)
  | exc c => exact h
  | stuck => exact h
theorem PostI.ite {K : PySem.W.Frag} {mg : Str → Option Value} {W : WX} {G : Hp} {σ : L2.St} {H : Hp} {Q : It → Hp → Prop} {c : Prop} [Decidable c] {ds : List D} (h : PostI Γ K mg W G σ H Q (if c then .ok ds else .stuck)) :
    c ∧ ∀ J G' H', GExt Γ G H G' H' → ItOk Γ K J G' ds → Q J H' := by
  by_cases e : c
  · rw [if_pos e] at h; exact ⟨e, h⟩
  · rw [if_neg e] at h; exact h.elim
/-- the items of a list or a tuple -/
def asSeq : D → Res (List D)
  | .list ds => if ds.length ≤ sizeLine then .ok ds else .stuck
  | .tuple ds => if ds.length ≤ sizeLine then .ok ds else .stuck
  | _ => .stuck
def mSeqI (m : M) : MI := fun ρ => (m ρ).bind asSeq
theorem itOk_tup {K : PySem.W.Frag} {G : Hp} {a : Addr} {xs : List V} {ds : List D} (h : SqT K G a xs) (r : RpAll K G xs ds) (hl : ds.length ≤ sizeLine) : ItOk Γ K (Itt K a) G ds := by
  refine ⟨hl, fun i H s hi => ⟨xs, SqT.sm s h, by rw [r.length]; exact hi⟩, fun i H s hi => ?_, fun i G2 H x H' d s1 s2 hd y => ?_⟩
  · have hi' : i < xs.length := by rw [r.length]; exact hi
    exact ⟨xs, xs[i], SqT.sm s h, by simp [hi']⟩
  · obtain ⟨e, y⟩ := y
    subst e
    obtain ⟨v, hv, q⟩ := r.get hd
    have z := y xs (SqT.sm (s1.trans s2) h)
    rw [hv] at z
    cases z
    exact ⟨G2, GExt.refl s2, q.sm s1⟩
/-- a list or a tuple is walked -/
def iSq (K : PySem.W.Frag) (tl : TE) : TI := fun σ H R => tl σ H fun x H1 => ∃ a, x = .ref a ∧ (((∃ xs, SqL K H1 a xs) ∧ R (Itl K a) H1) ∨ ((∃ xs, SqT K H1 a xs) ∧ R (Itt K a) H1))
theorem pi_sq {tg l : Expr} {tl : TE} (hl : PE X l tl) : PI X tg l (iSq X.K tl) := by
  refine ⟨fun pins s σ H R I h => ?_⟩
  refine thn (hl.run pins s σ H _ I h) fun v s1 ⟨x, H1, I1, r1, q1⟩ => ?_
  obtain ⟨a, e, ⟨⟨xs, hq⟩, q⟩ | ⟨⟨xs, hq⟩, q⟩⟩ := q1
  · subst e
    cases r1
    obtain ⟨its, rv, p, hz⟩ := I1.list hq
    refine wpAny_pyIter_list p.isList ?_
    refine ⟨s1.heap.objs.size, [s1.heap.objs.size], _, _, H1, rfl, I1.kept (t' := s1.toks) fun b o e => Heap.get?_push_of_some _ e, turn_list a _, ⟨_, Heap.get?_push_size _ rfl, rfl, rfl⟩, fun b hb => ?_, q⟩
    have e : b = s1.heap.objs.size := by simpa using hb
    subst e
    exact I1.fpOk (Nat.le_refl _) (I1.hok.fresh (Nat.le_refl _))
  · subst e
    cases r1
    obtain ⟨its, rv, p, hz⟩ := I1.tuple hq
    refine wpAny_pyIter_tuple (show s1.heap.IsTuple a its.toArray from p) ?_
    refine ⟨s1.heap.objs.size, [s1.heap.objs.size], _, _, H1, rfl, I1.kept (t' := s1.toks) fun b o e => Heap.get?_push_of_some _ e, turn_tuple a _, ⟨_, Heap.get?_push_size _ rfl, rfl, rfl⟩, fun b hb => ?_, q⟩
    have e : b = s1.heap.objs.size := by simpa using hb
    subst e
    exact I1.fpOk (Nat.le_refl _) (I1.hok.fresh (Nat.le_refl _))
theorem itOk_list' {K : PySem.W.Frag} {G : Hp} {a : Addr} {xs : List V} {ds : List D} (h : SqL K G a xs) (r : RpAll K G xs ds) (hl : ds.length ≤ sizeLine) : ItOk Γ K (Itl K a) G ds := by
  refine ⟨hl, fun i H s hi => ⟨xs, SqL.sm s h, by rw [r.length]; exact hi⟩, fun i H s hi => ?_, fun i G2 H x H' d s1 s2 hd y => ?_⟩
  · have hi' : i < xs.length := by rw [r.length]; exact hi
    exact ⟨xs, xs[i], SqL.sm s h, by simp [hi']⟩
  · obtain ⟨e, y⟩ := y
    subst e
    obtain ⟨v, hv, q⟩ := r.get hd
    have z := y xs (SqL.sm (s1.trans s2) h)
    rw [hv] at z
    cases z
    exact ⟨G2, GExt.refl s2, q.sm s1⟩
theorem di_seq {tg l : Expr} {m : M} (hl : DE Γ X l m) : DI Γ X tg l (mSeqI m) :=
  ⟨fun W tk => pi_imp (pi_sq (hl.run W tk)) fun σ H Q ⟨G, ρ, R, h⟩ => ⟨G, ρ, R, PostI.bind h fun d v G' H' _ x r q => by
    cases d with
    | list ds =>
      cases r with
      | @lst a xs _ hs ra => exact ⟨a, rfl, .inl ⟨⟨xs, SqL.sm x.s (.of hs)⟩, (PostI.ite q).2 _ G' H' (GExt.refl x.s) (itOk_list' (.of hs) ra (PostI.ite q).1)⟩⟩
    | tuple ds =>
      obtain ⟨a, xs, rfl, hs, ra⟩ := r.sqT
      exact ⟨a, rfl, .inr ⟨⟨xs, SqT.sm x.s hs⟩, (PostI.ite q).2 _ G' H' (GExt.refl x.s) (itOk_tup hs ra (PostI.ite q).1)⟩⟩
    | _ => exact False.elim q⟩⟩
/-- a text, sign by sign -/
def signs (x : Str) : List D := x.cps.toList.map fun c => .str ⟨#[c]⟩
def asTxt : D → Res (List D)
  | .str x => if x.cps.size ≤ sizeLine then .ok (signs x) else .stuck
  | _ => .stuck
def mStrI (m : M) : MI := fun ρ => (m ρ).bind asTxt
theorem itOk_str {K : PySem.W.Frag} {G : Hp} {x : Str} (hz : x.cps.size ≤ sizeLine) : ItOk Γ K (Its x) G (signs x) := by
  have hl : (signs x).length = x.cps.size := by simp [signs]
  refine ⟨by rw [hl]; exact hz, fun i H s hi => by rw [hl] at hi; exact hi, fun i H s hi => by rw [hl] at hi; exact hi, fun i G2 H v H' d s1 s2 hd y => ?_⟩
  obtain ⟨e, c, hc, rfl⟩ := y
  subst e
  have hc' : x.cps.toList[i]? = some c := by simpa using hc
  unfold signs at hd
  rw [List.getElem?_map, hc'] at hd
  cases hd
  exact ⟨G2, GExt.refl s2, .str _⟩
theorem di_str {tg l : Expr} {m : M} (hl : DE Γ X l m) : DI Γ X tg l (mStrI m) :=
  ⟨fun W tk => pi_imp (pi_str (hl.run W tk)) fun σ H Q ⟨G, ρ, R, h⟩ => ⟨G, ρ, R, PostI.bind h fun d v G' H' _ x r q => by
    cases r with
    | str y => exact ⟨y, rfl, (PostI.ite q).2 _ G' H' (GExt.refl x.s) (itOk_str (PostI.ite q).1)⟩
    | _ => exact False.elim q⟩⟩
/-- range(n), range(a, b) -/
def rng (lo : Int) (n : Nat) : List D := (List.range n).map fun (i : Nat) => .int (lo + (i : Int))
def asRng1 : List D → Res (List D)
  | [.int j] => if j ≤ 1000000 ∧ -1000000 ≤ j then .ok (rng 0 j.toNat) else .stuck
  | _ => .stuck
def asRng2 : List D → Res (List D)
  | [.int i, .int j] => if j ≤ 1000000 ∧ -1000000 ≤ j ∧ i ≤ 1000000 ∧ -1000000 ≤ i then .ok (rng i (j - i).toNat) else .stuck
  | _ => .stuck
theorem itOk_rng {K : PySem.W.Frag} {G : Hp} {lo : Int} {n : Nat} (hn : n ≤ sizeLine) : ItOk Γ K (Itr lo n) G (rng lo n) := by
  have hl : (rng lo n).length = n := by simp [rng]
  refine ⟨by rw [hl]; exact hn, fun i H s hi => by rw [hl] at hi; exact hi, fun i H s hi => by rw [hl] at hi; exact hi, fun i G2 H v H' d s1 s2 hd y => ?_⟩
  obtain ⟨e, rfl⟩ := y
  subst e
  unfold rng at hd
  rw [List.getElem?_map] at hd
  have hi : i < n := by
    have : (rng lo n)[i]? = some d := by unfold rng; rw [List.getElem?_map]; exact hd
    have := (List.getElem?_eq_some_iff.mp this).1
    rwa [hl] at this
  rw [List.getElem?_range hi] at hd
  cases hd
  exact ⟨G2, GExt.refl s2, .int _⟩
theorem rng_len (lo : Int) (n : Nat) : (rng lo n).length = n := by simp [rng]
theorem RpAll.one {K : PySem.W.Frag} {G : Hp} {vs : List V} {j : Int} (h : RpAll K G vs [.int j]) : vs = [.int j] := by
  cases h with
  | cons a b => cases a; cases b; rfl
theorem RpAll.two {K : PySem.W.Frag} {G : Hp} {vs : List V} {i j : Int} (h : RpAll K G vs [.int i, .int j]) : vs = [.int i, .int j] := by
  cases h with
  | cons a b =>
    cases a
    rw [RpAll.one b]
theorem di_range1 {tg a : Expr} {m : MA} {p pos : Pos} (hg : Gl X "range") (hm : X.mg "range" = none) (ha : DA Γ X [a] m) (hs : starEach [a] X.env = [(false, eval a X.env)] := by rfl) : DI Γ X tg (.Call (.Name "range" p) [a] [] pos) (fun ρ => (m ρ).bind asRng1) :=
  ⟨fun W tk => pi_imp (pi_range1 hg hm (ha.run W tk) hs) fun σ H Q ⟨G, ρ, R, h⟩ => ⟨G, ρ, R, PostI.bindA h fun ds vs G' H' _ x r q => by
    unfold asRng1 at q
    split at q
    · rename_i j _
      obtain ⟨hj, q⟩ := PostI.ite q
      exact ⟨j, r.one, Int.le_trans (by decide) hj.2, Int.lt_of_le_of_lt hj.1 (by decide), q _ G' H' (GExt.refl x.s) (itOk_rng (by rw [sizeLine_eq]; omega))⟩
    · exact q.elim⟩⟩
theorem di_range2 {tg a b : Expr} {m : MA} {p pos : Pos} (hg : Gl X "range") (hm : X.mg "range" = none) (ha : DA Γ X [a, b] m) (hs : starEach [a, b] X.env = [(false, eval a X.env), (false, eval b X.env)] := by rfl) (hs2 : starEach [b] X.env = [(false, eval b X.env)] := by rfl) :
    DI Γ X tg (.Call (.Name "range" p) [a, b] [] pos) (fun ρ => (m ρ).bind asRng2) :=
  ⟨fun W tk => pi_imp (pi_range2 hg hm (ha.run W tk) hs hs2) fun σ H Q ⟨G, ρ, R, h⟩ => ⟨G, ρ, R, PostI.bindA h fun ds vs G' H' _ x r q => by
    unfold asRng2 at q
    split at q
    · rename_i i j _
      obtain ⟨hj, q⟩ := PostI.ite q
      exact ⟨i, j, r.two, ⟨Int.le_trans (by decide) hj.2.2.2, Int.lt_of_le_of_lt hj.2.2.1 (by decide), Int.le_trans (by decide) hj.2.1, Int.lt_of_le_of_lt hj.1 (by decide)⟩, q _ G' H' (GExt.refl x.s) (itOk_rng (by rw [sizeLine_eq]; omega))⟩
    · exact q.elim⟩⟩

/-! ### for -/
def forGo (t : Tg) (b : MS) : List D → MS
  | [], ρ => .next ρ
  | d :: ds, ρ => match t.put d ρ with
    | none => .stuck
    | some ρ1 => match b ρ1 with
      | .next ρ' => forGo t b ds ρ'
      | .cont ρ' => forGo t b ds ρ'
      | .brk ρ' => .next ρ'
      | r => r
def mFor (mi : MI) (t : Tg) (b : MS) : MS := fun ρ => (mi ρ).st ρ fun ds => forGo t b ds ρ
/-- the base within a loop: the ground at the loop's start is kept too -/
def baseL (B : Hp × Hp) (G : Hp) : Hp × Hp := (G, fun a => match B.2 a with | some o => some o | none => G a)
theorem baseL_none {B : Hp × Hp} {G : Hp} {a : Addr} : (baseL B G).2 a = none ↔ B.2 a = none ∧ G a = none := by
  unfold baseL
  cases e : B.2 a <;> simp [e]
theorem RelG.loop {K : PySem.W.Frag} {B : Hp × Hp} {G : Hp} {ρ : Rho} {σ : L2.St} {H : Hp} (R : RelG Γ K B G ρ σ H) : RelG Γ K (baseL B G) G ρ σ H := by
  refine ⟨⟨⟨fun a o h no => ?_, fun a h => baseL_none.mpr ⟨R.x.h.f a h, R.r.s.free h⟩, fun a ps h => ?_, fun _ => R.r.d.2⟩, Same.refl _, R.r.s, fun a o h => .inl h⟩, R.r, fun i d a h1 h2 => ?_⟩
  · unfold baseL at h
    simp only at h
    split at h
    · rename_i e; rw [← h]; exact R.x.h.k _ _ e (by cases h; exact no)
    · exact R.r.s _ _ h
  · unfold baseL at h
    simp only at h
    split at h
    · rename_i e; cases h; exact R.x.h.b _ _ e
    · exact absurd rfl (R.r.d.1 a _ h ps)
  · obtain ⟨o, ha, hg, q⟩ := R.r.own_there h1 h2
    exact baseL_none.mpr ⟨R.f i d a h1 h2, hg⟩
theorem GExt.unloop {B : Hp × Hp} {G H G' H' : Hp} (x : GExt Γ B.1 B.2 G H) (y : GExt Γ (baseL B G).1 (baseL B G).2 G' H') : GExt Γ B.1 B.2 G' H' := by
  have up : ∀ a o, B.2 a = some o → (baseL B G).2 a = some o := fun a o h => by unfold baseL; simp only [h]
  refine ⟨⟨fun a o h no => y.h.k a o (up a o h) no, fun a h => (baseL_none.mp (y.h.f a h)).1, fun a ps h => y.h.b a ps (up a _ h), fun t => y.h.t (t.ext up)⟩, fun a o h => y.g a o (x.g a o h), y.s, fun a o h => ?_⟩
  rcases y.n a o h with k | ⟨no, k | k⟩
  · exact x.n a o k
  · exact .inr ⟨no, .inl (baseL_none.mp k).1⟩
  · exact .inr ⟨no, .inr k⟩
theorem RelS.unloop {K : PySem.W.Frag} {B : Hp × Hp} {G H : Hp} {ρ : Rho} {σ : L2.St} {H' : Hp} (x : GExt Γ B.1 B.2 G H) (h : RelS Γ K (baseL B G) ρ σ H') : RelS Γ K B ρ σ H' := by
  obtain ⟨G', R⟩ := h
  exact ⟨G', x.unloop R.x, R.r, fun i d a h1 h2 => (baseL_none.mp (R.f i d a h1 h2)).1⟩
theorem PostS.loop {K : PySem.W.Frag} {mg : Str → Option Value} {W : WX} {B : Hp × Hp} {G H : Hp} {E : Ends} (x : GExt Γ B.1 B.2 G H) : ∀ {r : RSt}, PostS Γ K mg W B E r → PostS Γ K mg W (baseL B G) E r
  | .next ρ, h => fun σ H' R => h σ H' (R.unloop x)
  | .brk ρ, h => fun σ H' R => h σ H' (R.unloop x)
  | .cont ρ, h => fun σ H' R => h σ H' (R.unloop x)
  | .ret d, h => fun v G' H' y r => h v G' H' (x.unloop y) r
  | .reto d, h => fun a o G' H' y n1 n2 ha q => h a o G' H' (x.unloop y) (baseL_none.mp n1).1 n2 ha q
  | .exc c ρ, h => by obtain ⟨C, a, b⟩ := h; exact ⟨C, a, fun σ H' R => b σ H' (R.unloop x)⟩
  | .stuck, h => h
theorem ds_for {tg iter : Expr} {body : List Stmt} {mi : MI} {t : Tg} {b : MS} {pos : Pos} (hp : PassesOwn (model X.prog X.w) X.A X.env X.xe) (hc : X.calm = true) (hi : DI Γ X tg iter mi) (hg : DG Γ X tg t) (hb : DSs Γ X body b)
    (hs : ∀ x, foldedSetIterable iter X.env x = pure x := by intro _; rfl) : DS Γ X (.For tg iter body [] pos) (mFor mi t b) := by
  refine ⟨fun W tk => ps_imp (ps_for hp hc (hi.run W tk) hg.run (hb.run W tk) hs) fun E σ H ⟨B, ρ, ⟨G, R⟩, h⟩ => ?_⟩
  refine ⟨G, ρ, R.r, ?_⟩
  unfold mFor at h
  cases e : mi ρ with
  | stuck => rw [e] at h; exact h
  | exc c =>
    rw [e] at h
    obtain ⟨C, a, b⟩ := h
    exact ⟨C, a, fun H' s => b σ H' ⟨G, R.ext (GExt.heapN R.r.s R.r.d.1 s)⟩⟩
  | ok ds =>
    rw [e] at h
    intro J G1 H1 x1 ok
    have R1 := R.ext x1
    refine ⟨fun i m σ H => m = ds.length - i ∧ ∃ ρ, RelS Γ X.K (baseL B G1) ρ σ H ∧ PostS Γ X.K X.mg W (baseL B G1) E (forGo t b (ds.drop i) ρ), ⟨_, rfl, ρ, ⟨G1, R1.loop⟩, PostS.loop R1.x h⟩, ?_⟩
    rintro i m σ2 H2 ⟨rfl, ρ2, ⟨G2, R2⟩, h2⟩
    have sG : Same G1 G2 := R2.x.g
    by_cases hi : i < ds.length
    · refine .inr ⟨ok.go i H2 (sG.trans R2.r.s) hi, ?_⟩
      rw [List.drop_eq_getElem_cons hi] at h2
      unfold forGo at h2
      have hd : ds[i]? = some ds[i] := by simp [hi]
      cases e1 : t.put ds[i] ρ2 with
      | none => rw [e1] at h2; exact h2.elim
      | some ρ3 =>
        rw [e1] at h2
        simp only at h2
        refine ⟨fun σ' H' => ∃ ρ, RelS Γ X.K (baseL B G1) ρ σ' H' ∧ PostS Γ X.K X.mg W (baseL B G1) E (forGo t b (ds.drop (i + 1)) ρ), fun σ' H' q => ⟨_, by omega, rfl, q⟩, fun x H' y => ?_⟩
        obtain ⟨G3, x3, r3⟩ := ok.yld i G2 H2 x H' _ sG R2.r.s hd y
        have R3 := R2.ext x3
        refine ⟨G3, ρ2, ds[i], ρ3, R3.r, r3, e1, fun σ4 R4 k4 => ⟨baseL B G1, ρ3, ⟨G3, R3.keeps R4 k4⟩, ?_⟩⟩
        cases e5 : b ρ3 with
        | next ρ' => rw [e5] at h2; exact fun σ' H' R' => ⟨ρ', R', h2⟩
        | cont ρ' => rw [e5] at h2; exact fun σ' H' R' => ⟨ρ', R', h2⟩
        | brk ρ' => rw [e5] at h2; exact fun σ' H' R' => h2 σ' H' R'
        | ret d => rw [e5] at h2; exact h2
        | reto d => rw [e5] at h2; exact h2
        | exc c d => rw [e5] at h2; exact h2
        | stuck => rw [e5] at h2; exact h2
    · refine .inl ⟨ok.stop i H2 (sG.trans R2.r.s) (by omega), ?_⟩
      rw [List.drop_eq_nil_of_le (by omega)] at h2
      exact h2 σ2 H2 ⟨G2, R2⟩

/-! ### list comprehensions -/
theorem RelG.hold {K : PySem.W.Frag} {B : Hp × Hp} {G : Hp} {ρ : Rho} {σ : L2.St} {H : Hp} {a : Addr} {o : HO} (R : RelG Γ K B G ρ σ H) (no : noTbl o) (hb : B.2 a = none) (hg : G a = none) (ha : H a = some o)
    (hne : ∀ (j : Nat) (e : D), ρ[j]? = some (some (.own e)) → σ[j]? ≠ some (some (.ref a))) : RelG Γ K B (upd G a o) ρ σ H := by
  have sm : Same G (upd G a o) := fun b u q => by rw [upd_ne (ne_of_none q hg)]; exact q
  have x := GExt.hold no R.x hb hg ha
  have nt2 : NT (upd G a o) := fun b u e => by
    by_cases z : b = a
    · subst z; rw [upd_same] at e; cases e; exact no
    · rw [upd_ne z] at e; exact R.r.d.1 b u e
  refine ⟨x, ⟨x.s, ⟨nt2, R.r.d.2⟩, R.r.len, fun i y h => ?_, R.r.apart⟩, R.f⟩
  obtain ⟨v, h1, h2⟩ := R.r.at_ i y h
  refine ⟨v, h1, ?_⟩
  cases y with
  | dat d => exact Rp.sm sm h2
  | own d =>
    obtain ⟨b, u, e, hb2, hg2, q⟩ := h2
    refine ⟨b, u, e, hb2, ?_, q.sm sm⟩
    subst e
    rw [upd_ne fun z => hne i d h (by rw [h1, z])]
    exact hg2
  | raw u => exact h2
  | lck d =>
    obtain ⟨b, z, u, e, hb2, q⟩ := h2
    exact ⟨b, z, u, e, sm _ _ hb2, q.sm sm⟩
def wipeR (ρ : Rho) : List Nat → Rho
  | [] => ρ
  | v :: vs => (wipeR ρ vs).set v none
theorem RelE.setNone {K : PySem.W.Frag} {G : Hp} {ρ : Rho} {σ : L2.St} {H : Hp} (R : RelE Γ K G ρ σ H) (i : Nat) : RelE Γ K G (ρ.set i none) (σ.set i none) H := by
  refine ⟨R.s, R.d, by simpa using R.len, fun j x h => ?_, fun j k d' e' v' hjk h1 h2 h3 => ?_⟩
  · rcases get_set h with ⟨rfl, e, hl⟩ | ⟨hj, h⟩
    · cases e
    · obtain ⟨w, a, b⟩ := R.at_ j x h
      exact ⟨w, by rw [List.getElem?_set_ne (Ne.symm hj)]; exact a, b⟩
  · rcases get_set h1 with ⟨rfl, e, hl⟩ | ⟨hj, h1⟩
    · cases e
    · rcases get_set h2 with ⟨rfl, e, hl⟩ | ⟨hk, h2⟩
      · cases e
      · rw [List.getElem?_set_ne (Ne.symm hj)] at h3
        rw [List.getElem?_set_ne (Ne.symm hk)]
        exact R.apart j k d' e' v' hjk h1 h2 h3
theorem RelE.wipe {K : PySem.W.Frag} {G : Hp} {ρ : Rho} {σ : L2.St} {H : Hp} (R : RelE Γ K G ρ σ H) : ∀ vs : List Nat, RelE Γ K G (wipeR ρ vs) (L2.wipe σ vs) H
  | [] => R
  | v :: vs => (RelE.wipe R vs).setNone v
theorem wipe_at {σ : L2.St} {i : Nat} : ∀ {vs : List Nat}, i ∈ vs → i < σ.length → (L2.wipe σ vs)[i]? = some none
  | v :: vs, h, hl => by
    unfold L2.wipe
    by_cases e : v = i
    · subst e
      rw [List.getElem?_set_self (by rw [wipe_length]; exact hl)]
    · rw [List.getElem?_set_ne e]
      exact wipe_at ((List.mem_cons.mp h).resolve_left fun z => e z.symm) hl
theorem wipe_keeps {σ σ' : L2.St} {vs is : List Nat} (hl : σ'.length = σ.length) (ho : ∀ j, j ∉ is → σ'[j]? = (L2.wipe σ vs)[j]?) (hs : ∀ j ∈ is, j ∈ vs) : L2.wipe σ' vs = L2.wipe σ vs := by
  apply List.ext_getElem?
  intro j
  by_cases hj : j ∈ vs
  · by_cases hlt : j < σ.length
    · rw [wipe_at hj hlt, wipe_at hj (by rw [hl]; exact hlt)]
    · rw [List.getElem?_eq_none (by rw [wipe_length, hl]; omega), List.getElem?_eq_none (by rw [wipe_length]; omega)]
  · rw [wipe_out hj, ho j fun m => hj (hs j m)]
/-- one turn: the item kept, or none -/
def mStep (t : Tg) (vs : List Nat) (mt : MT) (me : M) (ρ : Rho) (d : D) : Res (Option D) := match t.put d (wipeR ρ vs) with
  | none => .stuck
  | some ρ1 => (mt ρ1).bind fun b => if b = true then (me ρ1).bind fun y => .ok (some y) else .ok none
def compGo (step : D → Res (Option D)) : List D → Res (List D)
  | [] => .ok []
  | d :: ds => (step d).plain.bind fun o => (compGo step ds).bind fun r => .ok (match o with | some y => y :: r | none => r)
theorem compGo_plain {step : D → Res (Option D)} : ∀ ds : List D, ∀ c, compGo step ds ≠ .exc c
  | [], c => by simp [compGo]
  | d :: ds, c => by
    unfold compGo
    cases e : step d with
    | ok o =>
      simp only [Res.plain, Res.bind]
      cases e2 : compGo step ds with
      | ok r => simp
      | exc c' => exact absurd e2 (compGo_plain ds c')
      | stuck => simp
    | exc c' => simp [Res.plain]
    | stuck => simp [Res.plain]
def mLc (mi : MI) (t : Tg) (vs : List Nat) (mt : MT) (me : M) : M := fun ρ => (mi ρ).bind fun ds => (compGo (mStep t vs mt me ρ) ds).bind fun r => .ok (.list r)
theorem tLc_of {K : PySem.W.Frag} {mg : Str → Option Value} {W W0 : WX} {mi : MI} {t : Tg} {vs : List Nat} {mt : MT} {me : M} {σ : L2.St} {H : Hp} {Q : VK} (h0 : ∀ c d σ H, ¬ W0 c d σ H) (hs : ∀ j ∈ t.slots, j ∈ vs)
    (h : rdO Γ K mg W (mLc mi t vs mt me) σ H Q) : tLc (rdI Γ K mg W mi) (rdG Γ K t) (rdT Γ K mg W0 mt) (rdE Γ K mg W0 me) vs σ H Q := by
  obtain ⟨G, ρ, R, h⟩ := h
  refine ⟨G, ρ, R, ?_⟩
  unfold mLc at h
  cases e : mi ρ with
  | stuck => rw [e] at h; exact h
  | exc c => rw [e] at h; exact h
  | ok ds =>
    rw [e] at h
    intro J G1 H1 x1 ok D hD
    simp only [Res.bind] at h
    have hgD : G1 D = none := x1.s.free hD
    -- the turns
    refine ⟨fun i m H2 => m = ds.length - i ∧ ∃ G2 acc dacc, GExt Γ G H G2 H2 ∧ Same G1 G2 ∧ H2 D = some (.lst acc) ∧ G2 D = none ∧ RpAll K G2 acc dacc ∧ acc.length ≤ i ∧
        PostO Γ K mg W G σ H Q ((compGo (mStep t vs mt me ρ) (ds.drop i)).bind fun r => .ok (.list (dacc ++ r))), ⟨_, rfl, G1, [], [], ?_, Same.refl _, upd_same, hgD, .nil, Nat.le_refl _, ?_⟩, ?_⟩
    · refine x1.trans (GExt.heap x1.s fun b u q => ?_)
      rw [upd_ne (ne_of_none q hD)]; exact q
    · simpa using h
    · rintro i m H2 ⟨rfl, G2, acc, dacc, x2, sG, hD2, hg2, r2, hl, p2⟩
      by_cases hi : i < ds.length
      · refine .inr ⟨ok.go i H2 (sG.trans x2.s) hi, ?_⟩
        rw [List.drop_eq_getElem_cons hi] at p2
        unfold compGo at p2
        have hd : ds[i]? = some ds[i] := by simp [hi]
        cases es : mStep t vs mt me ρ ds[i] with
        | stuck => rw [es] at p2; exact p2.elim
        | exc c => rw [es] at p2; exact p2.elim
        | ok o =>
          rw [es] at p2
          simp only [Res.plain, Res.bind] at p2
          refine ⟨fun H3 => ∃ G3 acc dacc, GExt Γ G H G3 H3 ∧ Same G1 G3 ∧ H3 D = some (.lst acc) ∧ G3 D = none ∧ RpAll K G3 acc dacc ∧ acc.length ≤ i + 1 ∧
            PostO Γ K mg W G σ H Q ((compGo (mStep t vs mt me ρ) (ds.drop (i + 1))).bind fun r => .ok (.list (dacc ++ r))), fun H' q => ⟨_, by omega, rfl, q⟩, fun x H' y => ?_⟩
          obtain ⟨G3, x3, r3⟩ := ok.yld i G2 H2 x H' _ sG x2.s hd y
          unfold mStep at es
          cases e1 : t.put ds[i] (wipeR ρ vs) with
          | none => rw [e1] at es; cases es
          | some ρ3 =>
            rw [e1] at es
            simp only at es
            have RW := ((R.ext (x2.trans x3)).wipe vs)
            refine ⟨G3, wipeR ρ vs, ds[i], ρ3, RW, r3, e1, fun σ4 R4 k4 => ⟨wipe_keeps (by rw [k4.len, wipe_length]) k4.only hs, G3, ρ3, R4, ?_⟩⟩
            cases et : mt ρ3 with
            | stuck => rw [et] at es; cases es
            | exc c => rw [et] at es; cases es
            | ok b =>
              rw [et] at es
              simp only [Res.bind] at es
              intro G4 H4 x4
              have keep : ∀ {G5 H5 : Hp}, GExt Γ G3 H' G5 H5 → H5 D = some (.lst acc) ∧ G5 D = none := fun {G5 H5} x5 =>
                ⟨(x3.trans x5).h.k _ _ hD2 (fun ps z => by cases z), (x3.trans x5).kept (K := K) (d := .list dacc) hD2 hg2 (.inl ⟨acc, dacc, rfl, rfl, r2⟩)⟩
              cases b with
              | false =>
                simp only [Bool.false_eq_true, if_false] at es ⊢
                cases es
                obtain ⟨q1, q2⟩ := keep x4
                refine ⟨G4, acc, dacc, (x2.trans x3).trans x4, sG.trans (x3.g.trans x4.g), q1, q2, r2.sm (x3.g.trans x4.g), by omega, ?_⟩
                cases ec : compGo (mStep t vs mt me ρ) (ds.drop (i + 1)) with
                | stuck => rw [ec] at p2; exact p2.elim
                | exc c => exact absurd ec (compGo_plain _ c)
                | ok r =>
                  rw [ec] at p2
                  exact p2
              | true =>
                simp only [if_true] at es ⊢
                refine ⟨G4, ρ3, R4.ext x4, ?_⟩
                cases ee : me ρ3 with
                | stuck => rw [ee] at es; cases es
                | exc c => rw [ee] at es; cases es
                | ok yv =>
                  rw [ee] at es
                  cases es
                  intro yy G5 H5 x5 r5
                  obtain ⟨q1, q2⟩ := keep (x4.trans x5)
                  refine ⟨acc, q1, Nat.lt_of_lt_of_le (Nat.lt_of_le_of_lt hl hi) ok.len, G5, acc ++ [yy], dacc ++ [yv], ?_, sG.trans (x3.g.trans (x4.g.trans x5.g)), upd_same, q2, (r2.sm (x3.g.trans (x4.g.trans x5.g))).append (.cons r5 .nil), by simp; omega, ?_⟩
                  · have x6 := ((x2.trans x3).trans x4).trans x5
                    have hHD : H D = none := x1.h.free hD
                    refine ⟨x6.h.updO hHD q1 plain_lst, x6.g, fun b u q => ?_, x6.n⟩
                    · rw [upd_ne (ne_of_none q q2)]; exact x6.s _ _ q
                  · cases ec : compGo (mStep t vs mt me ρ) (ds.drop (i + 1)) with
                    | stuck => rw [ec] at p2; exact p2.elim
                    | exc c => exact absurd ec (compGo_plain _ c)
                    | ok r =>
                      rw [ec] at p2
                      simp only [Res.bind, List.append_assoc, List.cons_append, List.nil_append] at p2 ⊢
                      exact p2
      · refine .inl ⟨ok.stop i H2 (sG.trans x2.s) (by omega), ?_⟩
        rw [List.drop_eq_nil_of_le (by omega)] at p2
        simp only [compGo, Res.bind, List.append_nil] at p2
        exact p2 D _ G2 H2 x2 (x1.h.free hD) hg2 hD2 (.inl ⟨acc, dacc, rfl, rfl, r2⟩)
/-- a clause's tests -/
structure DTs (Γ : Tbs) (X : Cx) (ifs : List Expr) (m : MT) : Prop where
  run : ∀ W, Takes X W → PTs X ifs (rdT Γ X.K X.mg W m)
theorem pts_imp {X : Cx} {e : List Expr} {t t' : TT} (h : PTs X e t) (i : ∀ σ H Q, t' σ H Q → t σ H Q) : PTs X e t' := ⟨fun pins s σ H Q I q => h.run pins s σ H Q I (i σ H Q q)⟩
def mYes : MT := fun _ => .ok true
theorem dts_nil : DTs Γ X [] mYes := ⟨fun W tk => pts_imp pts_nil fun σ H Q ⟨G, ρ, R, h⟩ => h G H (GExt.refl R.s)⟩
theorem dts_one {c : Expr} {m : MT} (h : DT Γ X c m) : DTs Γ X [c] m := ⟨fun W tk => pts_one (h.run W tk)⟩
abbrev W0 : WX := fun _ _ _ _ => False
theorem do_lc {elt tg iter : Expr} {ifs : List Expr} {scope : Scope} {own : List (Str × Nat)} {pos : Pos} {mi : MI} {t : Tg} {mt : MT} {me : M} (hc : X.calm = true) (hN : X.N.Nodup) (hi : DI Γ X tg iter mi) (ok : blkC X.N X.env.scope scope own = true) (hs : ∀ j ∈ t.slots, j ∈ own.map (·.2))
    (hg : ∀ (s : Shared) (H : Hp) (C : Addr) (cl : List (Str × Addr)) (fp : List Addr), DG Γ (X.blk s H scope (compEnvC scope cl C X.env) fp) tg t) (ht : ∀ (s : Shared) (H : Hp) (C : Addr) (cl : List (Str × Addr)) (fp : List Addr), DTs Γ (X.blk s H scope (compEnvC scope cl C X.env) fp) ifs mt)
    (he : ∀ (s : Shared) (H : Hp) (C : Addr) (cl : List (Str × Addr)) (fp : List Addr), DE Γ (X.blk s H scope (compEnvC scope cl C X.env) fp) elt me) (hf : ∀ x, foldedSetIterable iter X.env x = pure x := by intro _; rfl) :
    DO Γ X (.ListComp elt [⟨tg, iter, ifs, 0⟩] scope pos) (mLc mi t (own.map (·.2)) mt me) :=
  ⟨fun W tk => pe_imp (pe_lc hc hN (hi.run W tk) (blkOk_by ok) (fun s H C cl fp => (hg s H C cl fp).run) (fun s H C cl fp => (ht s H C cl fp).run W0 takes0) (fun s H C cl fp => (he s H C cl fp).run W0 takes0) hf) fun σ H Q h => tLc_of (fun _ _ _ _ z => z) hs h⟩
theorem ds_setLc {i : Nat} {y : Str} {py : Pos} {elt tg iter : Expr} {ifs : List Expr} {scope : Scope} {own : List (Str × Nat)} {pos spos : Pos} {mi : MI} {t : Tg} {mt : MT} {me : M} (hc : X.calm = true) (hN : X.N.Nodup) (hy : X.N[i]? = some y) (hyl : X.env.scope.names.lookup y = some .local)
    (hsw : swapsWith (.ListComp elt [⟨tg, iter, ifs, 0⟩] scope pos) (some (.Name y py)) spos.line X.env = pure true) (hi : DI Γ X tg iter mi) (ok : blkC X.N X.env.scope scope own = true) (hs : ∀ j ∈ t.slots, j ∈ own.map (·.2))
    (hg : ∀ (s : Shared) (H : Hp) (C : Addr) (cl : List (Str × Addr)) (fp : List Addr), DG Γ (X.blk s H scope (compEnvC scope cl C X.env) fp) tg t) (ht : ∀ (s : Shared) (H : Hp) (C : Addr) (cl : List (Str × Addr)) (fp : List Addr), DTs Γ (X.blk s H scope (compEnvC scope cl C X.env) fp) ifs mt)
    (he : ∀ (s : Shared) (H : Hp) (C : Addr) (cl : List (Str × Addr)) (fp : List Addr), DE Γ (X.blk s H scope (compEnvC scope cl C X.env) fp) elt me) (hf : ∀ x, foldedSetIterable iter X.env x = pure x := by intro _; rfl) :
    DS Γ X (.Assign [.Name y py] (.ListComp elt [⟨tg, iter, ifs, 0⟩] scope pos) spos) (mSet i (mLc mi t (own.map (·.2)) mt me)) :=
  ⟨fun W tk => ps_imp (ps_setLc hc hN hy hyl hsw (hi.run W tk) (blkOk_by ok) (fun s H C cl fp => (hg s H C cl fp).run) (fun s H C cl fp => (ht s H C cl fp).run W0 takes0) (fun s H C cl fp => (he s H C cl fp).run W0 takes0) hf) fun E σ H ⟨B, ρ, ⟨G, R⟩, h⟩ =>
    tLc_of (fun _ _ _ _ z => z) hs (PostS.bindO R h fun d a o G' H' R' n1 n2 ha q k => k _ H' ⟨upd G' a o, (R'.hold q.nt (R.x.h.free n1) n2 ha fun j e hj => R.fresh n1 j e hj).setDat i (q.rp n2)⟩)⟩
theorem ds_setLcO {i : Nat} {y : Str} {py : Pos} {elt tg iter : Expr} {ifs : List Expr} {scope : Scope} {own : List (Str × Nat)} {pos spos : Pos} {mi : MI} {t : Tg} {mt : MT} {me : M} (hc : X.calm = true) (hN : X.N.Nodup) (hy : X.N[i]? = some y) (hyl : X.env.scope.names.lookup y = some .local)
    (hsw : swapsWith (.ListComp elt [⟨tg, iter, ifs, 0⟩] scope pos) (some (.Name y py)) spos.line X.env = pure true) (hi : DI Γ X tg iter mi) (ok : blkC X.N X.env.scope scope own = true) (hs : ∀ j ∈ t.slots, j ∈ own.map (·.2))
    (hg : ∀ (s : Shared) (H : Hp) (C : Addr) (cl : List (Str × Addr)) (fp : List Addr), DG Γ (X.blk s H scope (compEnvC scope cl C X.env) fp) tg t) (ht : ∀ (s : Shared) (H : Hp) (C : Addr) (cl : List (Str × Addr)) (fp : List Addr), DTs Γ (X.blk s H scope (compEnvC scope cl C X.env) fp) ifs mt)
    (he : ∀ (s : Shared) (H : Hp) (C : Addr) (cl : List (Str × Addr)) (fp : List Addr), DE Γ (X.blk s H scope (compEnvC scope cl C X.env) fp) elt me) (hf : ∀ x, foldedSetIterable iter X.env x = pure x := by intro _; rfl) :
    DS Γ X (.Assign [.Name y py] (.ListComp elt [⟨tg, iter, ifs, 0⟩] scope pos) spos) (mSetO i (mLc mi t (own.map (·.2)) mt me)) :=
  ⟨fun W tk => ps_imp (ps_setLc hc hN hy hyl hsw (hi.run W tk) (blkOk_by ok) (fun s H C cl fp => (hg s H C cl fp).run) (fun s H C cl fp => (ht s H C cl fp).run W0 takes0) (fun s H C cl fp => (he s H C cl fp).run W0 takes0) hf) fun E σ H ⟨B, ρ, ⟨G, R⟩, h⟩ =>
    tLc_of (fun _ _ _ _ z => z) hs (PostS.bindO R h fun d a o G' H' R' n1 n2 ha q k => k _ H' ⟨G', R'.setOwn i ha n2 q (R.x.h.free n1) fun j e _ hj => R.fresh n1 j e hj⟩)⟩
end
end De
end

section
set_option Elab.async false
set_option linter.all false
set_option maxRecDepth 100000
/-! De4: operators and built-ins on data. -/
namespace De
open PySem PySem.Spec PyProof.Rows L2

mutual
theorem Rp.dp {K : PySem.W.Frag} {G : Hp} : ∀ (d : D) (v : V), d.canLay0 = true → Rp K G v d → Dp K G v d
  | .none, _, _, h => by cases h; exact .non
  | .bool b, _, _, h => by cases h; exact .bl b
  | .int i, _, _, h => by cases h; exact .int i
  | .str x, _, _, h => by cases h; exact .str x
  | .list ds, _, c, h => by
    cases h with
    | lst h a => exact .lst (.of h) (RpAll.dp ds _ (by simpa [PyData.canLay0] using c) a)
  | .tuple ds, _, c, h => by
    obtain ⟨a, xs, rfl, hs, ra⟩ := h.sqT
    exact .tup hs (RpAll.dp ds _ (by simpa [PyData.canLay0] using c) ra)
  | .dict kvs, _, c, _ => by simp [PyData.canLay0] at c
theorem RpAll.dp {K : PySem.W.Frag} {G : Hp} : ∀ (ds : List D) (vs : List V), PyData.canLayAll0 ds = true → RpAll K G vs ds → DpAll K G vs ds
  | [], _, _, h => by cases h; exact .nil
  | d :: ds, _, c, h => by
    have c' : d.canLay0 = true ∧ PyData.canLayAll0 ds = true := by simpa [PyData.canLayAll0] using c
    cases h with
    | cons h1 h2 => exact .cons (Rp.dp d _ c'.1 h1) (RpAll.dp ds _ c'.2 h2)
end
theorem Rp.dpH {K : PySem.W.Frag} {G H : Hp} {d : D} {v : V} (r : Rp K G v d) (s : Same G H) (c : SeqAt.shaped d = true) : Dp K H v d := Rp.dp d v (SeqAt.canLay_of_shaped c) (r.sm s)

/-- a value now -/
theorem PostV.now {K : PySem.W.Frag} {G H : Hp} {Q : VK} {d : D} {v : V} (h : PostV Γ K G H Q (.ok d)) (s : Same G H) (r : Rp K G v d) : Q v H := h v G H (GExt.refl s) r
theorem PostV.ite {K : PySem.W.Frag} {G H : Hp} {Q : VK} {c : Prop} [Decidable c] {r : Res D} (h : PostV Γ K G H Q (if c then r else .stuck)) : c ∧ PostV Γ K G H Q r := by
  by_cases e : c
  · rw [if_pos e] at h; exact ⟨e, h⟩
  · rw [if_neg e] at h; exact h.elim

section
variable {X : Cx}
/-! ### ints, texts, tuples -/
/-- t + u -/
def rCatK (K : PySem.W.Frag) : R2 := fun x y H Q => ∃ a b xs ys, x = .ref a ∧ y = .ref b ∧ SqT K H a xs ∧ SqT K H b ys ∧ xs.length + ys.length ≤ sizeLine ∧
  (xs = [] → Q (.ref b) H) ∧ (xs ≠ [] → ys = [] → Q (.ref a) H) ∧ (xs ≠ [] → ys ≠ [] → ∃ k, ∀ p o, H p = none → PlainO o → Q (.ref p) (upd H p (mkT k o (xs ++ ys))))
theorem op_catK : OpR X (binaryOp .Add) (rCatK X.K) := by
  intro pins s σ H x y v u Q I rx ry h
  obtain ⟨a, b, xs, ys, rfl, rfl, ha, hb, hz, q0, q1, q2⟩ := h
  cases rx
  cases ry
  obtain ⟨its, r1, p1, _⟩ := I.tuple ha
  obtain ⟨its2, r2, p2, _⟩ := I.tuple hb
  by_cases hx : xs = []
  · subst hx
    cases r1
    exact cat_tup0 p1 p2 ⟨.ref b, H, I, rfl, q0 rfl⟩
  · refine HT.cat_tup p1 p2 (fun z => hx (r1.nil_iff.mp z)) (fun z => ⟨.ref a, H, I, rfl, q1 hx (r2.nil_iff.mp z)⟩) (fun z => ?_) (by rw [← r1.length, ← r2.length]; exact hz)
    obtain ⟨k, q2⟩ := q2 hx (fun w => z (r2.nil_iff.mpr w))
    exact ⟨.ref s.heap.objs.size, _, laidT I k (r1.append r2) (by rw [List.length_append]; exact hz), rfl, q2 _ _ (I.hok.fresh (Nat.le_refl _)) (plain_new _)⟩
def fAdd : D → D → Res D
  | .int i, .int j => .ok (.int (i + j))
  | .int i, .bool k => .ok (.int (i + b2i k))
  | .str x, .str y => if x.length + y.length ≤ sizeLine then .ok (.str (x ++ y)) else .stuck
  | .tuple xs, .tuple ys => if xs.length + ys.length ≤ sizeLine then .ok (.tuple (xs ++ ys)) else .stuck
  | _, _ => .stuck
theorem op_fAdd : OpD Γ X (binaryOp .Add) fAdd := by
  intro pins s σ H x y v u Q I rx ry ⟨G, a, b, sm, ra, rb, q⟩
  cases a <;> cases b <;> first | exact False.elim q | skip
  · cases ra; cases rb
    exact op_add_ib pins s σ H _ _ v u Q I rx ry ⟨_, _, rfl, rfl, q.now sm (.int _)⟩
  · cases ra; cases rb
    exact op_add pins s σ H _ _ v u Q I rx ry ⟨_, _, rfl, rfl, q.now sm (.int _)⟩
  · cases ra; cases rb
    obtain ⟨hl, q⟩ := PostV.ite q
    exact op_add_str pins s σ H _ _ v u Q I rx ry ⟨_, _, rfl, rfl, hl, q.now sm (.str _)⟩
  · rename_i ds es
    obtain ⟨hl, q⟩ := PostV.ite q
    obtain ⟨a, xs, rfl, hs, r1⟩ := ra.sqT
    obtain ⟨b, ys, rfl, hs2, r2⟩ := rb.sqT
    refine op_catK pins s σ H _ _ v u Q I rx ry ⟨a, b, xs, ys, rfl, rfl, SqT.sm sm hs, SqT.sm sm hs2, by rw [r1.length, r2.length]; exact hl, fun e => ?_, fun h1 e => ?_, fun h1 h2 => ⟨keyish (ds ++ es), fun p o hp po => ?_⟩⟩
    · subst e
      cases r1
      exact q.now sm (by simpa using rb)
    · subst e
      cases r2
      exact q.now sm (by simpa using ra)
    · obtain ⟨x1, x2⟩ := new_tup sm (r1.append r2) hp po
      exact q _ _ _ x1 x2
def fSub : D → D → Res D
  | .int i, .int j => .ok (.int (i - j))
  | _, _ => .stuck
theorem op_fSub : OpD Γ X (binaryOp .Sub) fSub := by
  intro pins s σ H x y v u Q I rx ry ⟨G, a, b, sm, ra, rb, q⟩
  cases a <;> cases b <;> first | exact False.elim q | skip
  cases ra; cases rb
  exact op_sub pins s σ H _ _ v u Q I rx ry ⟨_, _, rfl, rfl, q.now sm (.int _)⟩
/-- t * k, 2 ≤ k; '..' * k -/
def repS (x : Str) (n : Nat) : Str := ⟨(List.replicate n x.cps).foldl (· ++ ·) #[]⟩
theorem repS_size (a : Array Nat) : ∀ (n : Nat) (b : Array Nat), ((List.replicate n a).foldl (· ++ ·) b).size = b.size + n * a.size
  | 0, b => by simp
  | n + 1, b => by
    rw [List.replicate_succ, List.foldl_cons, repS_size a n, Array.size_append, Nat.succ_mul]
    omega
def fMul : D → D → Res D
  | .int i, .int j => if (i.natAbs < 4611686018427387904 ∨ j.natAbs < 4611686018427387904) then .ok (.int (i * j)) else .stuck
  | .tuple xs, .int k => if (keyish (List.replicate k.toNat xs).flatten = true ∧ xs ≠ [] ∧ 2 ≤ k ∧ k ≤ 1000 ∧ xs.length ≤ 1000) then .ok (.tuple (List.replicate k.toNat xs).flatten) else .stuck
  | .str x, .int k => if (1 ≤ k ∧ k ≤ 1000 ∧ x.length ≤ 1000) then .ok (.str (if k = 1 ∨ x.length = 0 then x else repS x k.toNat)) else .stuck
  | _, _ => .stuck
theorem RpAll.rep {K : PySem.W.Frag} {G : Hp} {vs : List V} {ds : List D} (r : RpAll K G vs ds) : ∀ n : Nat, RpAll K G (List.replicate n vs).flatten (List.replicate n ds).flatten
  | 0 => .nil
  | n + 1 => by
    rw [List.replicate_succ, List.replicate_succ, List.flatten_cons, List.flatten_cons]
    exact r.append (RpAll.rep r n)
theorem bits_short {x : Int} (h : x.natAbs < 4611686018427387904) : Builtin.Int.intBits x ≤ 64 := by
  have hl : x.natAbs.log2 < 62 := by
    by_cases e : x.natAbs = 0
    · rw [e]; decide
    · exact (Nat.log2_lt e).mpr h
  unfold Builtin.Int.intBits
  split <;> omega
theorem op_mulK : OpR X (binaryOp .Mult) (rI (fun i j => i.natAbs < 4611686018427387904 ∨ j.natAbs < 4611686018427387904) fun i j => .int (i * j)) := opI fun _ _ _ _ _ _ _ hc q =>
  PyProof.Rows.mul_int q (hc.elim (fun h => IntMulOk.of_left (bits_short h)) fun h => IntMulOk.of_right (bits_short h))
theorem op_fMul : OpD Γ X (binaryOp .Mult) fMul := by
  intro pins s σ H x y v u Q I rx ry ⟨G, a, b, sm, ra, rb, q⟩
  cases a <;> cases b <;> first | exact False.elim q | skip
  · cases ra; cases rb
    obtain ⟨hl, q⟩ := PostV.ite q
    exact op_mulK pins s σ H _ _ v u Q I rx ry ⟨_, _, rfl, rfl, hl, q.now sm (.int _)⟩
  · cases ra; cases rb
    rename_i x k
    obtain ⟨⟨h1, h2, h3⟩, q⟩ := PostV.ite q
    obtain ⟨t, rfl⟩ := rx
    obtain ⟨t', rfl⟩ := ry
    refine PySem.P.mul_str ?_ (fun _ _ => ?_) (fun _ _ => ?_) ?_
    · have e1 : ¬ k < -(2 ^ 63 : Int) := Int.not_lt.mpr (Int.le_trans (by decide) h1)
      have e2 : ¬ k ≥ 2 ^ 63 := fun z => absurd (Int.le_trans z h2) (by decide)
      rw [decide_eq_false e1, decide_eq_false e2]
      rfl
    · intro z
      have hk : (1001 : Int) ≤ (2 ^ 63 - 1) / k := (Int.le_ediv_iff_mul_le (by omega)).mpr (Int.le_trans (Int.mul_le_mul_of_nonneg_left h2 (by decide)) (by decide))
      have h4 : (x.length : Int) ≤ 1000 := by omega
      exact absurd (Int.lt_of_le_of_lt hk (Int.lt_of_lt_of_le z h4)) (by decide)
    · have : x.length * k.toNat ≤ 1000 * 1000 := Nat.mul_le_mul h3 (by omega)
      unfold Builtin.Str.tooLong
      exact decide_eq_false (by rw [sizeLine_eq]; omega)
    · rw [if_neg (by omega)]
      by_cases e : k = 1 ∨ x.length = 0
      · rw [if_pos (by simpa using e)]
        rw [if_pos e] at q
        exact ⟨.str x, H, I, ⟨t, rfl⟩, q.now sm (.str _)⟩
      · rw [if_neg (by simpa using e)]
        rw [if_neg e] at q
        refine ⟨?_, .str (repS x k.toNat), H, I.tok _, ⟨_, rfl⟩, q.now sm (.str _)⟩
        have hz : ((List.replicate k.toNat x.cps).foldl (· ++ ·) #[]).size = 0 + k.toNat * x.cps.size := repS_size _ _ _
        have h5 : k.toNat * x.cps.size ≤ 1000 * 1000 := Nat.mul_le_mul (by omega) h3
        show ((List.replicate k.toNat x.cps).foldl (· ++ ·) #[]).size ≤ sizeLine
        rw [hz, sizeLine_eq]
        omega
  · cases rb
    rename_i ds k
    obtain ⟨⟨h0, h1, h2, h3, h4⟩, q⟩ := PostV.ite q
    obtain ⟨a, xs, rfl, hs, r1⟩ := ra.sqT
    exact op_repT pins s σ H _ _ v u Q I rx ry ⟨a, k, xs, rfl, rfl, SqT.sm sm hs, fun e => h1 (by subst e; cases r1; rfl), h2, h3, by rw [r1.length]; exact h4, fun p hp =>
      by
        obtain ⟨x1, x2⟩ := new_tup (p := p) (o := { cls := .type "tuple", data := .seq #[] }) sm (r1.rep k.toNat) hp (plain_new _)
        have e : mkT (keyish (List.replicate k.toNat ds).flatten) { cls := .type "tuple", data := .seq #[] } (List.replicate k.toNat xs).flatten = .tup (List.replicate k.toNat xs).flatten := by
          rw [h0]; rfl
        rw [e] at x1 x2
        exact q _ _ _ x1 x2⟩
def fDiv : D → D → Res D
  | .int i, .int j => if (0 < j ∧ j.natAbs.log2 < 9000) then .ok (.int (i / j)) else .stuck
  | _, _ => .stuck
theorem op_fDiv : OpD Γ X (binaryOp .FloorDiv) fDiv := by
  intro pins s σ H x y v u Q I rx ry ⟨G, a, b, sm, ra, rb, q⟩
  cases a <;> cases b <;> first | exact False.elim q | skip
  cases ra; cases rb
  obtain ⟨hl, q⟩ := PostV.ite q
  exact op_fdivW pins s σ H _ _ v u Q I rx ry ⟨_, _, rfl, rfl, hl, q.now sm (.int _)⟩
def fMod : D → D → Res D
  | .int i, .int j => if 0 < j then .ok (.int (i % j)) else .stuck
  | _, _ => .stuck
theorem op_fMod : OpD Γ X (binaryOp .Mod) fMod := by
  intro pins s σ H x y v u Q I rx ry ⟨G, a, b, sm, ra, rb, q⟩
  cases a <;> cases b <;> first | exact False.elim q | skip
  cases ra; cases rb
  obtain ⟨hl, q⟩ := PostV.ite q
  exact op_mod pins s σ H _ _ v u Q I rx ry ⟨_, _, rfl, rfl, hl, q.now sm (.int _)⟩
def fPow : D → D → Res D
  | .int i, .int j => if (0 ≤ j ∧ j ≤ 100 ∧ i.natAbs < 1000) then .ok (.int (i ^ j.toNat)) else .stuck
  | _, _ => .stuck
theorem op_fPow : OpD Γ X (binaryOp .Pow) fPow := by
  intro pins s σ H x y v u Q I rx ry ⟨G, a, b, sm, ra, rb, q⟩
  cases a <;> cases b <;> first | exact False.elim q | skip
  cases ra; cases rb
  obtain ⟨⟨h1, h2, h3⟩, q⟩ := PostV.ite q
  exact op_pow pins s σ H _ _ v u Q I rx ry ⟨_, _, rfl, rfl, ⟨h1, Int.le_trans h2 (by decide), Nat.lt_trans h3 (by decide)⟩, q.now sm (.int _)⟩

/-! ### comparisons -/
/-- the script's items, if the datum is the script -/
def scr? : D → Option (List D)
  | .dict [(.none, .list ns)] => some ns
  | _ => none
def fEq (a b : D) : Res D := if (SeqAt.shaped a && SeqAt.shaped b) = true then .ok (.bool (PyData.eqv a b)) else .stuck
def fNe (a b : D) : Res D := match scr? a, b with
  | some ns, .list [] => .ok (.bool (!ns.isEmpty))
  | _, _ => if (SeqAt.shaped a && SeqAt.shaped b) = true then .ok (.bool (!PyData.eqv a b)) else .stuck
theorem op_fEq (hu : X.A.units + 66 < cLine) : OpD Γ X (compareOp .Eq) fEq := by
  intro pins s σ H x y v u Q I rx ry ⟨G, a, b, sm, ra, rb, q⟩
  obtain ⟨hc, q⟩ := PostV.ite q
  obtain ⟨h1, h2⟩ := Bool.and_eq_true_iff.mp hc
  exact op_eqD (by omega) pins s σ H x y v u Q I rx ry ⟨a, b, ra.dpH sm h1, rb.dpH sm h2, h1, h2, q.now sm (.bl _)⟩
theorem rpK_none {K : PySem.W.Frag} {G : Hp} : ∀ {kvs : List (Key × V)} {ds : List (D × D)}, RpK K G kvs ds → ∀ d r, ds ≠ (.none, d) :: r
  | _, _, .nil, _, _, e => by cases e
  | _, _, @RpK.cons _ _ k _ _ _ _ _ _, _, _, e => by
    injection e with e1 _
    injection e1 with e2 _
    cases k <;> cases e2
theorem dp_ints {K : PySem.W.Frag} {H : Hp} : ∀ is : List Int, DpAll K H (is.map V.int) (is.map PyData.int)
  | [] => .nil
  | i :: is => .cons (.int i) (dp_ints is)
theorem scr_rp {K : PySem.W.Frag} {G : Hp} {v : V} {a : D} {ns : List D} (h : scr? a = some ns) (r : Rp K G v a) : ∃ p is, v = .ref p ∧ ns = is.map PyData.int ∧ a = scrD is ∧ SqL K G p (is.map V.int) := by
  unfold scr? at h
  split at h
  · rename_i ms
    cases h
    cases r with
    | scr hs => exact ⟨_, _, rfl, rfl, rfl, hs⟩
    | dct _ r => cases r
    | dck _ _ r => exact absurd rfl (rpK_none r _ _)
  · cases h
theorem op_fNe (hu : X.A.units + 66 < cLine) : OpD Γ X (compareOp .NotEq) fNe := by
  intro pins s σ H x y v u Q I rx ry ⟨G, a, b, sm, ra, rb, q⟩
  unfold fNe at q
  split at q
  · rename_i ns e
    obtain ⟨p, is, rfl, rfl, rfl, hs⟩ := scr_rp e ra
    cases rb with
    | @lst b' _ _ hb r0 =>
      cases r0
      have e1 : Dp X.K H (.ref p) (.list (is.map PyData.int)) := by
        exact .lst (SqL.sm sm hs) (dp_ints is)
      have e2 : Dp X.K H (.ref b') (.list []) := .lst (.of (sm _ _ hb)) .nil
      have c1 : SeqAt.shaped (.list (is.map PyData.int)) = true := by
        have : ∀ l : List Int, PyData.canLayAll0 (l.map PyData.int) = true ∧ PyData.depthAll (l.map PyData.int) ≤ 1 := by
          intro l
          induction l with
          | nil => exact ⟨rfl, by simp [PyData.depthAll]⟩
          | cons i l ih => exact ⟨by simp [PyData.canLayAll0, PyData.canLay0, ih.1], by simp only [List.map_cons, PyData.depthAll, PyData.depth]; have := ih.2; omega⟩
        obtain ⟨t1, t2⟩ := this is
        unfold SeqAt.shaped
        rw [Bool.and_eq_true]
        exact ⟨by simpa [PyData.canLay0] using t1, decide_eq_true (by simp only [PyData.depth]; omega)⟩
      refine op_neD (by omega) pins s σ H _ _ v u Q I rx ry ⟨_, _, e1, e2, c1, by decide, ?_⟩
      have : (!PyData.eqv (.list (is.map PyData.int)) (.list [])) = !(is.map PyData.int).isEmpty := by
        cases is <;> simp [PyData.eqv, PyData.eqvAll]
      rw [this]
      exact q.now sm (.bl _)
  · obtain ⟨hc, q⟩ := PostV.ite q
    obtain ⟨h1, h2⟩ := Bool.and_eq_true_iff.mp hc
    exact op_neD (by omega) pins s σ H x y v u Q I rx ry ⟨_, _, ra.dpH sm h1, rb.dpH sm h2, h1, h2, q.now sm (.bl _)⟩
def fLe : D → D → Res D
  | .int i, .int j => .ok (.bool (decide (i ≤ j)))
  | _, _ => .stuck
def fGt : D → D → Res D
  | .int i, .int j => .ok (.bool (decide (j < i)))
  | _, _ => .stuck
def fGe : D → D → Res D
  | .int i, .int j => .ok (.bool (decide (j ≤ i)))
  | _, _ => .stuck
theorem op_fLe : OpD Γ X (compareOp .LtE) fLe := by
  intro pins s σ H x y v u Q I rx ry ⟨G, a, b, sm, ra, rb, q⟩
  cases a <;> cases b <;> first | exact False.elim q | skip
  cases ra; cases rb
  exact op_le pins s σ H _ _ v u Q I rx ry ⟨_, _, rfl, rfl, q.now sm (.bl _)⟩
theorem op_fGt : OpD Γ X (compareOp .Gt) fGt := by
  intro pins s σ H x y v u Q I rx ry ⟨G, a, b, sm, ra, rb, q⟩
  cases a <;> cases b <;> first | exact False.elim q | skip
  cases ra; cases rb
  exact op_gt pins s σ H _ _ v u Q I rx ry ⟨_, _, rfl, rfl, q.now sm (.bl _)⟩
theorem op_fGe : OpD Γ X (compareOp .GtE) fGe := by
  intro pins s σ H x y v u Q I rx ry ⟨G, a, b, sm, ra, rb, q⟩
  cases a <;> cases b <;> first | exact False.elim q | skip
  cases ra; cases rb
  exact op_ge pins s σ H _ _ v u Q I rx ry ⟨_, _, rfl, rfl, q.now sm (.bl _)⟩
end
end De
end

section
set_option Elab.async false
set_option linter.all false
set_option maxRecDepth 100000
/-! De5: in, is, isinstance, subscripts, slices, built-ins and methods on data. -/
namespace De
open PySem PySem.Spec PyProof.Rows L2
section
variable {X : Cx}
/-! ### in, not in -/
def inD (d c : D) : Res Bool := match c with
  | .str z => match d with
    | .str x => match x.cps.toList with
      | [s] => .ok (decide (s ∈ z.cps.toList))
      | _ => .stuck
    | _ => .stuck
  | .list ds => if (SeqAt.shaped d && SeqAt.shaped (.list ds)) = true then .ok (ds.any fun z => PyData.eqv z d) else .stuck
  | .tuple ds => if (SeqAt.shaped d && SeqAt.shaped (.tuple ds)) = true then .ok (ds.any fun z => PyData.eqv z d) else .stuck
  | .dict kvs => match d with
    | .tuple ks => if keyOk ks = true ∧ (kvs.all fun kv => isTup kv.1) = true then .ok (kvs.any fun kv => isKey kv.1 (.tuple ks)) else .stuck
    | .str x => if (kvs ≠ [] ∧ (kvs.all fun kv => isStr kv.1) = true) then .ok (kvs.any fun kv => isKey kv.1 (.str x)) else .stuck
    | _ => .stuck
  | _ => .stuck
where
  /-- a flat key: texts alone, not a tuple of the top -/
  keyOk : List D → Bool
    | [] => false
    | [.str x] => !wrName x
    | ks => ks.all fun k => match k with | .str _ => true | _ => false
  isTup : D → Bool
    | .tuple _ => true
    | _ => false
  isStr : D → Bool
    | .str _ => true
    | _ => false
  isKey : D → D → Bool
    | .str x, .str y => decide (x = y)
    | .tuple xs, .tuple ys => sameKs xs ys
    | _, _ => false
  sameKs : List D → List D → Bool
    | [], [] => true
    | .str x :: xs, .str y :: ys => decide (x = y) && sameKs xs ys
    | _, _ => false
def fIn (d c : D) : Res D := (inD d c).bind fun b => .ok (.bool b)
def fNotIn (d c : D) : Res D := (inD d c).bind fun b => .ok (.bool (!b))
/-! ### is -/
def isNon : D → Bool
  | .none => true
  | _ => false
def fIs (a b : D) : Res D := match b with
  | .none => .ok (.bool (isNon a))
  | .bool k => match a with
    | .bool j => .ok (.bool (decide (j = k)))
    | _ => .stuck
  | _ => .stuck
def fIsNot (a b : D) : Res D := match b with
  | .none => .ok (.bool (!isNon a))
  | .bool k => match a with
    | .bool j => .ok (.bool (!decide (j = k)))
    | _ => .stuck
  | _ => .stuck
theorem rp_non {K : PySem.W.Frag} {G : Hp} {v : V} {a : D} (r : Rp K G v a) : decide (v = .non) = isNon a := by
  cases r <;> rfl
theorem op_fIs : OpD Γ X (compareOp .Is) fIs := by
  intro pins s σ H x y v u Q I rx ry ⟨G, a, b, sm, ra, rb, q⟩
  cases b <;> first | exact False.elim q | skip
  · cases rb
    exact op_isN pins s σ H x _ v u Q I rx ry ⟨rfl, by rw [rp_non ra]; exact q.now sm (.bl _)⟩
  · cases a <;> first | exact False.elim q | skip
    cases ra; cases rb
    exact op_isBl pins s σ H _ _ v u Q I rx ry ⟨_, _, rfl, rfl, q.now sm (.bl _)⟩
theorem op_fIsNot : OpD Γ X (compareOp .IsNot) fIsNot := by
  intro pins s σ H x y v u Q I rx ry ⟨G, a, b, sm, ra, rb, q⟩
  cases b <;> first | exact False.elim q | skip
  · cases rb
    exact op_notN pins s σ H x _ v u Q I rx ry ⟨rfl, by rw [rp_non ra]; exact q.now sm (.bl _)⟩
  · cases a <;> first | exact False.elim q | skip
    cases ra; cases rb
    exact op_notBl pins s σ H _ _ v u Q I rx ry ⟨_, _, rfl, rfl, q.now sm (.bl _)⟩

/-! ### in -/
theorem str_of_one {x : Str} {s : Nat} (h : x.cps.toList = [s]) : x = ⟨#[s]⟩ := by
  cases x with
  | mk c =>
    have : c = #[s] := by
      apply Array.toList_inj.mp
      simpa using h
    rw [this]
theorem keyish_str : ∀ {xs : List Str}, xs ≠ [] → keyish (xs.map PyData.str) = true
  | [], h => absurd rfl h
  | x :: xs, _ => by
    simp [keyish]
theorem keyStr : ∀ {ks : List D}, inD.keyOk ks = true → ∃ xs : List Str, ks = xs.map PyData.str ∧ xs ≠ [] ∧ ∀ x, xs = [x] → wrName x = false := by
  intro ks h
  have g : ∀ ks : List D, (ks.all fun k => match k with | .str _ => true | _ => false) = true → ∃ xs : List Str, ks = xs.map PyData.str := by
    intro ks
    induction ks with
    | nil => exact fun _ => ⟨[], rfl⟩
    | cons k ks ih =>
      intro h
      rw [List.all_cons, Bool.and_eq_true] at h
      obtain ⟨xs, rfl⟩ := ih h.2
      cases k <;> first | exact absurd h.1 Bool.false_ne_true | skip
      exact ⟨_ :: xs, rfl⟩
  unfold inD.keyOk at h
  split at h
  · cases h
  · rename_i x
    refine ⟨[x], rfl, by simp, fun y e => ?_⟩
    cases e
    simpa using h
  · rename_i n0 ne
    obtain ⟨xs, rfl⟩ := g _ h
    refine ⟨xs, rfl, fun e => ?_, fun x e => ?_⟩
    · subst e
      exact absurd rfl n0
    · subst e
      exact absurd rfl (ne x)
theorem sameKs_iff : ∀ (xs ys : List Str), inD.sameKs (xs.map PyData.str) (ys.map PyData.str) = decide (xs = ys)
  | [], [] => rfl
  | [], _ :: _ => rfl
  | _ :: _, [] => rfl
  | x :: xs, y :: ys => by
    rw [List.map_cons, List.map_cons, inD.sameKs, sameKs_iff xs ys]
    by_cases e : x = y <;> by_cases e2 : xs = ys <;> simp [e, e2]
/-- a tuple of texts that is a key stands tracked -/
theorem key_tup {K : PySem.W.Frag} {G : Hp} {v : V} {ks : List D} (r : Rp K G v (.tuple ks)) (h : inD.keyOk ks = true) : ∃ (b : Addr) (xs : List Str), v = .ref b ∧ ks = xs.map PyData.str ∧ G b = some (.tup ((xs.map Sum.inr : List Key).map kV)) := by
  obtain ⟨xs, rfl, hx0, hw⟩ := keyStr h
  have hki := keyish_str hx0
  generalize hk : xs.map PyData.str = ks at r
  cases r with
  | tup hb po ra =>
    rename_i b ob vs
    rw [← hk, hki] at hb
    refine ⟨b, xs, rfl, hk.symm, ?_⟩
    have : vs = (xs.map Sum.inr : List Key).map kV := by
      subst hk
      clear hb hw h hki hx0
      induction xs generalizing vs with
      | nil => cases ra; rfl
      | cons x xs ih =>
        cases ra with
        | cons h1 h2 =>
          cases h1
          rw [ih h2]
          rfl
    rw [← this]
    exact hb
  | wtup hb hx =>
    rename_i x
    cases xs with
    | nil => cases hk
    | cons y ys =>
      cases ys with
      | nil =>
        cases hk
        rw [hw x rfl] at hx
        cases hx
      | cons _ _ => cases hk
theorem keysT_any {K : PySem.W.Frag} {G : Hp} (xs : List Str) : ∀ {kvs : List (List Key × V)} {ds : List (D × D)}, RpT K G kvs ds → (ds.any fun kv => inD.isKey kv.1 (.tuple (xs.map PyData.str))) = (valV kvs (xs.map Sum.inr)).isSome
  | _, _, .nil => rfl
  | _, _, @RpT.cons _ _ k v kvs d ds r rr => by
    rw [List.any_cons, keysT_any xs rr]
    have e : inD.isKey (.tuple (k.map kD)) (.tuple (xs.map PyData.str)) = decide (k = xs.map Sum.inr) := by
      show inD.sameKs (k.map kD) (xs.map PyData.str) = _
      clear r rr
      induction k generalizing xs with
      | nil => cases xs <;> rfl
      | cons a k ih =>
        cases xs with
        | nil => rcases a with a | a <;> rfl
        | cons y ys =>
          rcases a with a | a
          · show false = _
            exact (decide_eq_false fun z => by cases z).symm
          · show (decide (a = y) && inD.sameKs (k.map kD) (ys.map PyData.str)) = _
            rw [ih ys]
            by_cases e : a = y <;> by_cases e2 : k = ys.map Sum.inr <;> simp [e, e2]
    rw [e]
    by_cases h : k = xs.map Sum.inr
    · rw [valV_pos (p := (k, v)) h]; simp [h]
    · rw [valV_neg (p := (k, v)) h]; simp [h]
theorem keysK_any {K : PySem.W.Frag} {G : Hp} (x : Str) : ∀ {kvs : List (Key × V)} {ds : List (D × D)}, RpK K G kvs ds → (ds.any fun kv => inD.isKey kv.1 (.str x)) = (valV kvs (Sum.inr x)).isSome
  | _, _, .nil => rfl
  | _, _, @RpK.cons _ _ k v kvs d ds r rr => by
    rw [List.any_cons, keysK_any x rr]
    have e : inD.isKey (kD k) (.str x) = decide (k = Sum.inr x) := by
      rcases k with a | a
      · exact (decide_eq_false fun z => by cases z).symm
      · show decide (a = x) = _
        by_cases e : a = x
        · simp [e]
        · rw [decide_eq_false e]; exact (decide_eq_false fun z => e (Sum.inr.inj z)).symm
    rw [e]
    by_cases h : k = Sum.inr x
    · rw [valV_pos (p := (k, v)) h]; simp [h]
    · rw [valV_neg (p := (k, v)) h]; simp [h]
theorem keysT_str {K : PySem.W.Frag} {G : Hp} (x : Str) : ∀ {kvs : List (List Key × V)} {ds : List (D × D)}, RpT K G kvs ds → ds ≠ [] → (ds.any fun kv => inD.isKey kv.1 (.str x)) = false
  | _, _, .nil, h => absurd rfl h
  | _, _, @RpT.cons _ _ k v kvs d ds r rr, _ => by
    rw [List.any_cons]
    by_cases e : ds = []
    · subst e; rfl
    · rw [keysT_str x rr e]; rfl
/-- one rule for in, by an answer that both op and its not use -/
theorem in_core {neg : Bool} {opn : CmpOp} (hop : opn = if neg then .NotIn else .In) (hu : X.A.units + 66 < cLine) : OpD Γ X (compareOp opn) (fun d c => (inD d c).bind fun b => .ok (.bool (if neg then !b else b))) := by
  intro pins s σ H x y v u Q I rx ry ⟨G, a, b, sm, ra, rb, q⟩
  subst hop
  cases b with
  | str z =>
    cases rb
    cases a <;> first | exact False.elim q | skip
    rename_i w
    cases ra
    unfold inD at q
    simp only at q
    split at q
    · rename_i c e
      rw [str_of_one e] at rx
      cases neg
      · exact op_in_sign pins s σ H _ _ v u Q I rx ry ⟨c, z, rfl, rfl, q.now sm (.bl _)⟩
      · exact op_notIn_sign pins s σ H _ _ v u Q I rx ry ⟨c, z, rfl, rfl, q.now sm (.bl _)⟩
    · exact False.elim q
  | list ds =>
    unfold inD at q
    by_cases hc : (SeqAt.shaped a && SeqAt.shaped (.list ds)) = true
    · simp only [if_pos hc] at q
      obtain ⟨h1, h2⟩ := Bool.and_eq_true_iff.mp hc
      cases neg
      · exact op_inD (by omega) pins s σ H x y v u Q I rx ry ⟨a, ds, ra.dpH sm h1, rb.dpH sm h2, h1, h2, PostV.now q sm (.bl _)⟩
      · exact op_notInD (by omega) pins s σ H x y v u Q I rx ry ⟨a, ds, ra.dpH sm h1, rb.dpH sm h2, h1, h2, PostV.now q sm (.bl _)⟩
    · simp only [if_neg hc] at q
      exact False.elim q
  | tuple ds =>
    unfold inD at q
    by_cases hc : (SeqAt.shaped a && SeqAt.shaped (.tuple ds)) = true
    · simp only [if_pos hc] at q
      obtain ⟨h1, h2⟩ := Bool.and_eq_true_iff.mp hc
      obtain ⟨as, r1⟩ := Dp.reads I a x v (ra.dpH sm h1) rx
      obtain ⟨bs, r2⟩ := Dp.reads I (.tuple ds) y u (rb.dpH sm h2) ry
      have room : X.A.units + 1 + min (PyData.depthAll ds) a.depth < cLine := by
        have := SeqAt.depth_of_shaped h1
        omega
      cases neg
      · exact SeqAt.in_tuple_reads r2 r1 (SeqAt.canLay_of_shaped h2) (SeqAt.canLay_of_shaped h1) room ⟨.bl _, H, I, rfl, PostV.now q sm (.bl _)⟩
      · exact SeqAt.notIn_tuple_reads r2 r1 (SeqAt.canLay_of_shaped h2) (SeqAt.canLay_of_shaped h1) room ⟨.bl _, H, I, rfl, PostV.now q sm (.bl _)⟩
    · simp only [if_neg hc] at q
      exact False.elim q
  | dict kvs =>
    have fin : ∀ (p : Addr) (o : Option V), y = .ref p → DGet H p x o → PostV Γ X.K G H Q (.ok (.bool (if neg then !o.isSome else o.isSome))) → wpAny (model X.prog X.w) X.A (compareOp (if neg then CmpOp.NotIn else CmpOp.In) v u) (EP X pins σ Q) X.xe s := by
      rintro p o rfl g q
      cases ry
      cases neg
      · exact d_in (by omega) I g rx fun s' I' => ⟨.bl _, H, I', rfl, PostV.now q sm (.bl _)⟩
      · exact d_notIn (by omega) I g rx fun s' I' => ⟨.bl _, H, I', rfl, PostV.now q sm (.bl _)⟩
    cases a <;> first | exact False.elim q | skip
    · rename_i w
      cases ra
      unfold inD at q
      by_cases hk : (kvs ≠ [] ∧ (kvs.all fun kv => inD.isStr kv.1) = true)
      · simp only [if_pos hk] at q
        cases rb with
        | scr hs => exact absurd hk.2 (by simp [inD.isStr])
        | lse _ _ => exact absurd hk.2 (by simp [inD.isStr])
        | dct hd rr =>
          cases rr with
          | nil => exact absurd rfl hk.1
          | cons r1 r2 => exact absurd hk.2 (by simp [inD.isStr])
        | dck hd _ rr => exact fin _ _ rfl (.inl ⟨_, Sum.inr w, Rd.sm sm hd, rfl, rfl⟩) (by rw [← keysK_any w rr]; exact q)
      · simp only [if_neg hk] at q
        exact False.elim q
    · rename_i ks
      unfold inD at q
      by_cases hk : inD.keyOk ks = true ∧ (kvs.all fun kv => inD.isTup kv.1) = true
      · simp only [if_pos hk] at q
        obtain ⟨b, xs, rfl, rfl, hb⟩ := key_tup ra hk.1
        cases rb with
        | scr hs => exact absurd hk.2 (by simp [inD.isTup])
        | lse _ _ => exact absurd hk.2 (by simp [inD.isTup])
        | dct hd rr => exact fin _ _ rfl (.inr ⟨_, _, _, Rd.sm sm hd, rfl, sm _ _ hb, rfl⟩) (by rw [← keysT_any xs rr]; exact q)
        | dck hd hz rr =>
          cases rr with
          | nil => exact absurd rfl hz
          | @cons k _ _ _ _ r1 r2 => exact absurd hk.2 (by rcases k with k | k <;> simp [inD.isTup, kD])
      · simp only [if_neg hk] at q
        exact False.elim q
  | _ => exact False.elim q
theorem op_fIn (hu : X.A.units + 66 < cLine) : OpD Γ X (compareOp .In) fIn := in_core (neg := false) rfl hu
theorem op_fNotIn (hu : X.A.units + 66 < cLine) : OpD Γ X (compareOp .NotIn) fNotIn := in_core (neg := true) rfl hu
end
end De
end

section
set_option Elab.async false
set_option linter.all false
set_option maxRecDepth 100000
/-! De6: what is one's own read as a datum (lock, freeze), changed in place; subscripts, slices. -/
namespace De
open PySem PySem.Spec PyProof.Rows L2

/-! ### lock, freeze -/
mutual
/-- no list, no dict within -/
def flat : D → Bool
  | .list _ | .dict _ => false
  | .tuple ds => flatAll ds
  | _ => true
def flatAll : List D → Bool
  | [] => true
  | d :: ds => flat d && flatAll ds
end
mutual
theorem Rp.strip {K : PySem.W.Frag} {G G' : Hp} (k : ∀ b o, tupO o → G b = some o → G' b = some o) : ∀ (d : D) (v : V), flat d = true → Rp K G v d → Rp K G' v d
  | .none, _, _, h => by cases h; exact .non
  | .bool b, _, _, h => by cases h; exact .bl b
  | .int i, _, _, h => by cases h; exact .int i
  | .str x, _, _, h => by cases h; exact .str x
  | .list ds, _, f, _ => by simp [flat] at f
  | .dict ds, _, f, _ => by simp [flat] at f
  | .tuple ds, _, f, h => by
    have f' : flatAll ds = true := by simpa [flat] using f
    generalize e : PyData.tuple ds = d at h
    cases h with
    | tup hb p a => cases e; exact .tup (k _ _ (mkT_tupO _ _ _) hb) p (RpAll.strip k ds _ f' a)
    | wtup hb hx => cases e; exact .wtup hb hx
    | _ => cases e
theorem RpAll.strip {K : PySem.W.Frag} {G G' : Hp} (k : ∀ b o, tupO o → G b = some o → G' b = some o) : ∀ (ds : List D) (vs : List V), flatAll ds = true → RpAll K G vs ds → RpAll K G' vs ds
  | [], _, _, h => by cases h; exact .nil
  | d :: ds, _, f, h => by
    have f' : flat d = true ∧ flatAll ds = true := by simpa [flatAll] using f
    cases h with
    | cons h1 h2 => exact .cons (Rp.strip k d _ f'.1 h1) (RpAll.strip k ds _ f'.2 h2)
end
theorem RpT.strip {K : PySem.W.Frag} {G G' : Hp} (k : ∀ b o, tupO o → G b = some o → G' b = some o) : ∀ (ds : List (D × D)) (kvs : List (List Key × V)), flatAll (ds.map (·.2)) = true → RpT K G kvs ds → RpT K G' kvs ds
  | [], _, _, h => by cases h; exact .nil
  | (a, d) :: ds, _, f, h => by
    have f2 : flat d = true ∧ flatAll (ds.map (·.2)) = true := by simpa [flatAll] using f
    cases h with
    | cons r1 r2 => exact .cons (Rp.strip k _ _ f2.1 r1) (RpT.strip k ds _ f2.2 r2)
theorem RpK.strip {K : PySem.W.Frag} {G G' : Hp} (k : ∀ b o, tupO o → G b = some o → G' b = some o) : ∀ (ds : List (D × D)) (kvs : List (Key × V)), flatAll (ds.map (·.2)) = true → RpK K G kvs ds → RpK K G' kvs ds
  | [], _, _, h => by cases h; exact .nil
  | (a, d) :: ds, _, f, h => by
    have f2 : flat d = true ∧ flatAll (ds.map (·.2)) = true := by simpa [flatAll] using f
    cases h with
    | cons r1 r2 => exact .cons (Rp.strip k _ _ f2.1 r1) (RpK.strip k ds _ f2.2 r2)
/-- what one's own holds: all flat -/
def flatO : D → Bool
  | .list ds => flatAll ds
  | .dict kvs => flatAll (kvs.map (·.2))
  | _ => false
theorem OwnO.strip {K : PySem.W.Frag} {G G' : Hp} (k : ∀ b o, tupO o → G b = some o → G' b = some o) {o : HO} {d : D} (f : flatO d = true) (h : OwnO K G o d) : OwnO K G' o d := by
  rcases h with ⟨xs, ds, rfl, rfl, r⟩ | ⟨kvs, ds, rfl, rfl, r⟩ | ⟨kvs, ds, rfl, rfl, z, r⟩
  · exact .inl ⟨_, _, rfl, rfl, RpAll.strip k _ _ f r⟩
  · exact .inr (.inl ⟨_, _, rfl, rfl, RpT.strip k _ _ f r⟩)
  · exact .inr (.inr ⟨_, _, rfl, rfl, z, RpK.strip k _ _ f r⟩)
def unG (G : Hp) (a : Addr) : Hp := fun b => if b = a then none else G b
theorem unG_same {G : Hp} {a : Addr} : unG G a a = none := by simp [unG]
theorem unG_ne {G : Hp} {a b : Addr} (h : b ≠ a) : unG G a b = G b := by simp [unG, h]
/-- one's own slot i seen as a datum -/
def viewR (i : Nat) (d : D) (ρ : Rho) : Rho := ρ.set i (some (.dat d))
theorem RelE.view {K : PySem.W.Frag} {G : Hp} {ρ : Rho} {σ : L2.St} {H : Hp} {i : Nat} {d : D} (R : RelE Γ K G ρ σ H) (h : ρ[i]? = some (some (.own d))) :
    ∃ a o, σ[i]? = some (some (.ref a)) ∧ H a = some o ∧ G a = none ∧ OwnO K G o d ∧ RelE Γ K (upd G a o) (viewR i d ρ) σ H := by
  obtain ⟨v, h1, a, o, rfl, ha, hg, q⟩ := R.at_ i _ h
  refine ⟨a, o, h1, ha, hg, q, ?_⟩
  have sm : Same G (upd G a o) := fun b u z => by rw [upd_ne (ne_of_none z hg)]; exact z
  have hi : i < ρ.length := (List.getElem?_eq_some_iff.mp h).1
  refine ⟨fun b u z => ?_, ⟨R.d.1.updO q.nt, R.d.2⟩, by simp [viewR, R.len], fun j x hj => ?_, fun j k e e' v' hjk h2 h3 h4 => ?_⟩
  · by_cases e : b = a
    · subst e; rw [upd_same] at z; cases z; exact ha
    · rw [upd_ne e] at z; exact R.s _ _ z
  · rcases get_set hj with ⟨rfl, e, hl⟩ | ⟨hne, hj⟩
    · cases e; exact ⟨.ref a, h1, q.rp hg⟩
    · obtain ⟨w, w1, w2⟩ := R.at_ j x hj
      refine ⟨w, w1, ?_⟩
      cases x with
      | dat e => exact Rp.sm sm w2
      | own e =>
        obtain ⟨b, u, rfl, hb, hgb, qb⟩ := w2
        refine ⟨b, u, rfl, hb, ?_, qb.sm sm⟩
        rw [upd_ne fun z => R.apart j i e d (.ref a) hne hj h (by rw [w1, z]) h1]
        exact hgb
      | raw u => exact w2
      | lck e =>
        obtain ⟨b, z, u, e1, hg1, q1⟩ := w2
        exact ⟨b, z, u, e1, sm _ _ hg1, q1.sm sm⟩
  · rcases get_set h2 with ⟨rfl, e, hl⟩ | ⟨hn1, h2⟩
    · cases e
    · rcases get_set h3 with ⟨rfl, e, hl⟩ | ⟨hn2, h3⟩
      · cases e
      · exact R.apart j k e e' v' hjk h2 h3 h4
theorem GExt.unview {G H G' H' : Hp} {a : Addr} {o : HO} (hg : G a = none) (x : GExt Γ (upd G a o) H G' H') : GExt Γ G H (unG G' a) H' := by
  refine ⟨x.h, fun b u z => ?_, fun b u z => ?_, fun b u z => ?_⟩
  · have e : b ≠ a := ne_of_none z hg
    rw [unG_ne e]
    exact x.g b u (by rw [upd_ne e]; exact z)
  · by_cases e : b = a
    · subst e; rw [unG_same] at z; cases z
    · rw [unG_ne e] at z; exact x.s _ _ z
  · by_cases e : b = a
    · subst e; rw [unG_same] at z; cases z
    · rw [unG_ne e] at z
      rcases x.n b u z with k | k
      · rw [upd_ne e] at k; exact .inl k
      · exact .inr k
theorem un_tup {K : PySem.W.Frag} {G G' H H' : Hp} {a : Addr} {o : HO} {d : D} (q : OwnO K G o d) (x : GExt Γ (upd G a o) H G' H') : ∀ b u, tupO u → G' b = some u → unG G' a b = some u := fun b u hu z => by
  have e : b ≠ a := fun e => by
    subst e
    have := x.g b o upd_same
    rw [z] at this
    cases this
    rcases q with ⟨_, _, h, _⟩ | ⟨_, _, h, _⟩ | ⟨_, _, h, _⟩ <;> subst h <;> rcases hu with ⟨_, hu⟩ | ⟨_, _, hu⟩ <;> cases hu
  rw [unG_ne e]; exact z
def lockR {α : Type} (i : Nat) (f : Rho → Res α) (ok : α → Bool) : Rho → Res α := fun ρ => match ρ[i]? with
  | some (some (.own d)) => (f (viewR i d ρ)).bind fun r => if ok r = true then .ok r else .stuck
  | _ => .stuck
section
variable {X : Cx}
theorem de_lock (i : Nat) {e : Expr} {m : M} (h : DE Γ X e m) : DE Γ X e (lockR i m flat) :=
  ⟨fun W tk => pe_imp (h.run W tk) fun σ H Q ⟨G, ρ, R, h⟩ => by
    unfold lockR at h
    split at h
    · rename_i d e
      obtain ⟨a, o, h1, ha, hg, q, RV⟩ := R.view e
      refine ⟨_, _, RV, ?_⟩
      cases em : m (viewR i d ρ) with
      | stuck => rw [em] at h; exact h
      | exc c => rw [em] at h; exact h
      | ok r =>
        rw [em] at h
        intro v G' H' x rp
        simp only [Res.bind] at h
        by_cases hf : flat r = true
        · rw [if_pos hf] at h
          exact h v _ H' (x.unview hg) (Rp.strip (un_tup q x) r v hf rp)
        · rw [if_neg hf] at h; exact h.elim
    · exact h.elim⟩
theorem do_lock (i : Nat) {e : Expr} {m : M} (h : DO Γ X e m) : DO Γ X e (lockR i m flatO) :=
  ⟨fun W tk => pe_imp (h.run W tk) fun σ H Q ⟨G, ρ, R, h⟩ => by
    unfold lockR at h
    split at h
    · rename_i d e
      obtain ⟨a, o, h1, ha, hg, q, RV⟩ := R.view e
      refine ⟨_, _, RV, ?_⟩
      cases em : m (viewR i d ρ) with
      | stuck => rw [em] at h; exact h
      | exc c => rw [em] at h; exact h
      | ok r =>
        rw [em] at h
        intro b u G' H' x n1 n2 hb qo
        simp only [Res.bind] at h
        by_cases hf : flatO r = true
        · rw [if_pos hf] at h
          refine h b u _ H' (x.unview hg) n1 ?_ hb (qo.strip (un_tup q x) hf)
          by_cases z : b = a
          · subst z; exact unG_same
          · rw [unG_ne z]; exact n2
        · rw [if_neg hf] at h; exact h.elim
    · exact h.elim⟩
theorem dt_lock (i : Nat) {e : Expr} {m : MT} (h : DT Γ X e m) : DT Γ X e (lockR i m fun _ => true) :=
  ⟨fun W tk => pt_imp (h.run W tk) fun σ H Q ⟨G, ρ, R, h⟩ => by
    unfold lockR at h
    split at h
    · rename_i d e
      obtain ⟨a, o, h1, ha, hg, q, RV⟩ := R.view e
      refine ⟨_, _, RV, ?_⟩
      cases em : m (viewR i d ρ) with
      | stuck => rw [em] at h; exact h
      | exc c => rw [em] at h; exact h
      | ok r =>
        rw [em] at h
        exact fun G' H' x => h _ H' (x.unview hg)
    · exact h.elim⟩
/-- from here on slot i is a datum -/
def frzR (i : Nat) (ρ : Rho) : Rho := match ρ[i]? with
  | some (some (.own d)) => viewR i d ρ
  | _ => ρ
theorem RelS.frz {K : PySem.W.Frag} {B : Hp × Hp} {ρ : Rho} {σ : L2.St} {H : Hp} (i : Nat) (R : RelS Γ K B ρ σ H) : RelS Γ K B (frzR i ρ) σ H := by
  obtain ⟨G, R⟩ := R
  unfold frzR
  split
  · rename_i d e
    obtain ⟨a, o, h1, ha, hg, q, RV⟩ := R.r.view e
    refine ⟨_, GExt.hold q.nt R.x (R.f i d a e h1) hg ha, RV, fun j e2 b h2 h3 => ?_⟩
    rcases get_set h2 with ⟨rfl, e, hl⟩ | ⟨hn1, h2⟩
    · cases e
    · exact R.f j e2 b h2 h3
  · exact ⟨G, R⟩
theorem dss_frz (i : Nat) {sts : List Stmt} {m : MS} (h : DSs Γ X sts m) : DSs Γ X sts (fun ρ => m (frzR i ρ)) :=
  ⟨fun W tk => pss_imp (h.run W tk) fun D σ H ⟨B, ρ, R, h⟩ => ⟨B, _, R.frz i, h⟩⟩
theorem ds_frz (i : Nat) {st : Stmt} {m : MS} (h : DS Γ X st m) : DS Γ X st (fun ρ => m (frzR i ρ)) :=
  ⟨fun W tk => ps_imp (h.run W tk) fun D σ H ⟨B, ρ, R, h⟩ => ⟨B, _, R.frz i, h⟩⟩

/-! ### one's own changed in place -/
theorem RelG.mutate {K : PySem.W.Frag} {B : Hp × Hp} {G : Hp} {ρ : Rho} {σ : L2.St} {H : Hp} {i : Nat} {d d' : D} {a : Addr} {o' : HO} (R : RelG Γ K B G ρ σ H) (h : ρ[i]? = some (some (.own d))) (h1 : σ[i]? = some (some (.ref a))) (q : OwnO K G o' d') :
    RelG Γ K B G (ρ.set i (some (.own d'))) σ (upd H a o') := by
  obtain ⟨o, ha, hg, q0⟩ := R.r.own_there h h1
  have hb := R.f i d a h h1
  have hi : i < ρ.length := (List.getElem?_eq_some_iff.mp h).1
  have sG : Same G (upd H a o') := fun b u z => by rw [upd_ne (ne_of_none z hg)]; exact R.r.s _ _ z
  refine ⟨⟨R.x.h.updO hb ha q0.pl, R.x.g, sG, R.x.n⟩, ⟨sG, ⟨R.r.d.1, tabs_upd R.r.d.2 ha q0.pl⟩, by simp [R.r.len], fun j x hj => ?_, fun j k e e' v' hjk h2 h3 h4 => ?_⟩, fun j e b h2 h3 => ?_⟩
  · rcases get_set hj with ⟨rfl, e, hl⟩ | ⟨hne, hj⟩
    · cases e; exact ⟨.ref a, h1, a, o', rfl, upd_same, hg, q⟩
    · obtain ⟨w, w1, w2⟩ := R.r.at_ j x hj
      refine ⟨w, w1, ?_⟩
      cases x with
      | dat e => exact w2
      | own e =>
        obtain ⟨b, u, rfl, hb, hgb, qb⟩ := w2
        refine ⟨b, u, rfl, ?_, hgb, qb⟩
        rw [upd_ne fun z => R.r.apart j i e d (.ref a) hne hj h (by rw [w1, z]) h1]
        exact hb
      | raw u => exact w2
      | lck e => exact w2
  · rcases get_set h2 with ⟨e1, _, _⟩ | ⟨hn1, h2'⟩
    · rcases get_set h3 with ⟨e2, _, _⟩ | ⟨hn2, h3'⟩
      · exact absurd (e1.trans e2.symm) hjk
      · exact R.r.apart j k d e' v' hjk (by rw [e1]; exact h) h3' h4
    · rcases get_set h3 with ⟨e2, _, _⟩ | ⟨hn2, h3'⟩
      · exact R.r.apart j k _ d v' hjk h2' (by rw [e2]; exact h) h4
      · exact R.r.apart j k _ _ v' hjk h2' h3' h4
  · rcases get_set h2 with ⟨rfl, e, hl⟩ | ⟨hn1, h2⟩
    · rw [h1] at h3; cases h3; exact hb
    · exact R.f j e b h2 h3
theorem RelE.ownL {K : PySem.W.Frag} {G : Hp} {ρ : Rho} {σ : L2.St} {H : Hp} {i : Nat} {ds : List D} (R : RelE Γ K G ρ σ H) (h : ρ[i]? = some (some (.own (.list ds)))) : ∃ a xs, σ[i]? = some (some (.ref a)) ∧ H a = some (.lst xs) ∧ G a = none ∧ RpAll K G xs ds := by
  obtain ⟨v, h1, a, o, rfl, ha, hg, q⟩ := R.at_ i _ h
  rcases q with ⟨xs, es, rfl, e, r⟩ | ⟨_, _, _, e, _⟩ | ⟨_, _, _, e, _⟩
  · cases e; exact ⟨a, xs, h1, ha, hg, r⟩
  · cases e
  · cases e
def mAppend (i : Nat) (m : M) : MS := fun ρ => match ρ[i]? with
  | some (some (.own (.list ds))) => (m ρ).st ρ fun d => if ds.length < sizeLine then .next (ρ.set i (some (.own (.list (ds ++ [d]))))) else .stuck
  | _ => .stuck
theorem PostS.ite {K : PySem.W.Frag} {mg : Str → Option Value} {W : WX} {B : Hp × Hp} {E : Ends} {c : Prop} [Decidable c] {r : RSt} (h : PostS Γ K mg W B E (if c then r else .stuck)) : c ∧ PostS Γ K mg W B E r := by
  by_cases e : c
  · rw [if_pos e] at h; exact ⟨e, h⟩
  · rw [if_neg e] at h; exact h.elim
/-- x.append(e), x one's own; hcall: pe_bm .. mt_append (pv i) (pa_cons e pa_nil) -/
theorem ds_append {i : Nat} {e : Expr} {m : M} {pos : Pos} (hcall : ∀ W, Takes X W → PE X e (tBM X.K "list" rAppend (tVar i) (tCons (rdE Γ X.K X.mg W m) tNil))) (hs : swapsWith e none pos.line X.env = pure false := by rfl) : DS Γ X (.Expr e pos) (mAppend i m) := by
  refine ⟨fun W tk => ps_imp (ps_expr (hcall W tk) hs) fun E σ H ⟨B, ρ, ⟨G, R⟩, h⟩ => ?_⟩
  unfold mAppend at h
  split at h
  · rename_i ds e
    obtain ⟨a, xs, h1, ha, hg, r⟩ := R.r.ownL e
    refine ⟨.ref a, h1, .inl ⟨rfl, xs, .of ha⟩, PostS.bind R h fun d v G' H' R' rp q => ?_⟩
    obtain ⟨hl, q⟩ := PostS.ite q
    obtain ⟨a', xs', h1', ha', hg', r'⟩ := R'.r.ownL e
    rw [h1] at h1'
    cases h1'
    exact ⟨a, xs', v, rfl, rfl, ha', by rw [r'.length]; exact hl, q σ _ ⟨G', R'.mutate e h1 (.inl ⟨_, _, rfl, rfl, r'.append (.cons rp .nil)⟩)⟩⟩
  · exact h.elim
def mExtend (i : Nat) (m : M) : MS := fun ρ => match ρ[i]? with
  | some (some (.own (.list ds))) => (m ρ).st ρ fun d => match d with
    | .list es => if ds.length + es.length ≤ sizeLine then .next (ρ.set i (some (.own (.list (ds ++ es))))) else .stuck
    | _ => .stuck
  | _ => .stuck
theorem ds_extend {i : Nat} {e : Expr} {m : M} {pos : Pos} (hcall : ∀ W, Takes X W → PE X e (tBM X.K "list" rExtend (tVar i) (tCons (rdE Γ X.K X.mg W m) tNil))) (hs : swapsWith e none pos.line X.env = pure false := by rfl) : DS Γ X (.Expr e pos) (mExtend i m) := by
  refine ⟨fun W tk => ps_imp (ps_expr (hcall W tk) hs) fun E σ H ⟨B, ρ, ⟨G, R⟩, h⟩ => ?_⟩
  unfold mExtend at h
  split at h
  · rename_i ds e
    obtain ⟨a, xs, h1, ha, hg, r⟩ := R.r.ownL e
    refine ⟨.ref a, h1, .inl ⟨rfl, xs, .of ha⟩, PostS.bind R h fun d v G' H' R' rp q => ?_⟩
    cases d with
    | list es =>
      obtain ⟨hl, q⟩ := PostS.ite q
      obtain ⟨a', xs', h1', ha', hg', r'⟩ := R'.r.ownL e
      rw [h1] at h1'
      cases h1'
      cases rp with
      | lst hb rb =>
        exact ⟨a, _, xs', _, rfl, rfl, ha', R'.r.s _ _ hb, by rw [r'.length, rb.length]; exact hl, q σ _ ⟨G', R'.mutate e h1 (.inl ⟨_, _, rfl, rfl, r'.append rb⟩)⟩⟩
    | _ => exact q.elim
  · exact h.elim
end
end De
end

section
set_option Elab.async false
set_option linter.all false
set_option maxRecDepth 100000
/-! De7: subscripts, slices, built-in functions and methods on data. -/
namespace De
open PySem PySem.Spec PyProof.Rows L2
theorem RpAll.atI {K : PySem.W.Frag} {G : Hp} {vs : List V} {ds : List D} {i : Int} {d : D} (r : RpAll K G vs ds) (h : L2.atI ds i = some d) : ∃ v, L2.atI vs i = some v ∧ Rp K G v d := by
  unfold L2.atI at h ⊢
  rw [r.length]
  cases e : ixN ds.length i with
  | none => rw [e] at h; cases h
  | some j =>
    rw [e] at h
    exact r.get h
section
variable {X : Cx}
/-! ### a[b] -/
def fIdx (d i : D) : Res D := match i with
  | .int i => match d with
    | .tuple xs => match L2.atI xs i with | some x => .ok x | none => .stuck
    | .list xs => match L2.atI xs i with | some x => .ok x | none => .stuck
    | .str z => if z.length ≤ sizeLine then (match L2.atI z.cps.toList i with | some c => .ok (.str ⟨#[c]⟩) | none => .stuck) else .stuck
    | .dict [(.none, .list ns)] => match L2.atI ns i with | some x => .ok x | none => .stuck
    | _ => .stuck
  | _ => .stuck
def IxD (Γ : Tbs) (X : Cx) (f : D → D → Res D) : Prop := IxR X (rD2 Γ X.K f)
theorem ix_fIdx : IxD Γ X fIdx := by
  intro value slice pins s σ H x y v u Q I rx ry ⟨G, a, b, sm, ra, rb, q⟩ hs
  cases b <;> first | exact False.elim q | skip
  rename_i i
  cases rb
  cases a with
  | tuple xs =>
    simp only [fIdx] at q
    split at q
    · rename_i z e
      obtain ⟨p, vs, rfl, h1, r⟩ := ra.sqT
      obtain ⟨w, hw, rw'⟩ := r.atI e
      exact ix_tup value slice pins s σ H _ _ v u Q I rx ry ⟨p, vs, i, w, rfl, rfl, SqT.sm sm h1, hw, q.now sm rw'⟩ hs
    · exact q.elim
  | list xs =>
    simp only [fIdx] at q
    split at q
    · rename_i z e
      cases ra with
      | lst h1 r =>
        obtain ⟨w, hw, rw'⟩ := r.atI e
        exact ix_list value slice pins s σ H _ _ v u Q I rx ry ⟨_, _, i, w, rfl, rfl, .of (sm _ _ h1), hw, q.now sm rw'⟩ hs
    · exact q.elim
  | str z =>
    cases ra
    obtain ⟨hz, q⟩ := PostV.ite q
    split at q
    · rename_i c e
      exact ix_str value slice pins s σ H _ _ v u Q I rx ry ⟨z, i, c, rfl, rfl, hz, e, q.now sm (.str _)⟩ hs
    · exact q.elim
  | dict kvs =>
    unfold fIdx at q
    simp only at q
    split at q
    · cases ‹PyData.dict kvs = _›
    · cases ‹PyData.dict kvs = _›
    · cases ‹PyData.dict kvs = _›
    · rename_i ns e
      cases e
      split at q
      · rename_i z e
        obtain ⟨p, is, rfl, hn, _, h1⟩ := scr_rp (a := .dict [(.none, .list ns)]) (ns := ns) rfl ra
        subst hn
        have hz : ∃ j, L2.atI is i = some j ∧ z = .int j := by
          unfold L2.atI at e ⊢
          rw [List.length_map] at e
          cases e2 : ixN is.length i with
          | none => rw [e2] at e; cases e
          | some k =>
            rw [e2] at e
            simp only [Option.bind_some, List.getElem?_map] at e ⊢
            cases e3 : is[k]? with
            | none => rw [e3] at e; cases e
            | some j => rw [e3] at e; cases e; exact ⟨j, rfl, rfl⟩
        obtain ⟨j, hj, rfl⟩ := hz
        have hv : L2.atI (is.map V.int) i = some (V.int j) := by
          unfold L2.atI at hj ⊢
          rw [List.length_map]
          cases e2 : ixN is.length i with
          | none => rw [e2] at hj; cases hj
          | some k =>
            rw [e2] at hj
            simp only [Option.bind_some, List.getElem?_map] at hj ⊢
            rw [hj]; rfl
        exact ix_list value slice pins s σ H _ _ v u Q I rx ry ⟨p, _, i, .int j, rfl, rfl, SqL.sm sm h1, hv, q.now sm (.int _)⟩ hs
      · exact q.elim
    · exact q.elim
  | _ => exact False.elim q
theorem de_ix {a b : Expr} {m1 m2 : M} {pos : Pos} {f : D → D → Res D} (ho : IxD Γ X f) (ha : DE Γ X a m1) (hb : DE Γ X b m2) (hs : PlainIx b) : DE Γ X (.Subscript a b pos) (mOp f m1 m2) :=
  ⟨fun W tk => pe_imp (pe_ix ho (ha.run W tk) (hb.run W tk) hs) fun _ _ _ => rd2⟩

/-! ### slices -/
abbrev MP := Rho → Res (Option Int)
def PostP (Γ : Tbs) (K : PySem.W.Frag) (mg : Str → Option Value) (W : WX) (G : Hp) (σ : L2.St) (H : Hp) (Q : Option Int → Hp → Prop) : Res (Option Int) → Prop
  | .ok b => ∀ G' H', GExt Γ G H G' H' → Q b H'
  | .exc c => ∃ C, mg c = some (.ref C) ∧ ∀ H', SameN Γ H H' → W (.ref C) none σ H'
  | .stuck => False
def rdP (Γ : Tbs) (K : PySem.W.Frag) (mg : Str → Option Value) (W : WX) (m : MP) : TO := fun σ H Q => ∃ G ρ, RelE Γ K G ρ σ H ∧ PostP Γ K mg W G σ H Q (m ρ)
structure DP (Γ : Tbs) (X : Cx) (e : Option Expr) (m : MP) : Prop where
  run : ∀ W, Takes X W → PO X e (rdP Γ X.K X.mg W m)
theorem po_imp {X : Cx} {e : Option Expr} {t t' : TO} (h : PO X e t) (i : ∀ σ H Q, t' σ H Q → t σ H Q) : PO X e t' := ⟨fun pins s σ H Q I q => h.run pins s σ H Q I (i σ H Q q)⟩
def mNo : MP := fun _ => .ok none
def asI : D → Res (Option Int)
  | .int i => .ok (some i)
  | _ => .stuck
def mPart (m : M) : MP := fun ρ => (m ρ).bind asI
theorem dp_none : DP Γ X none mNo := ⟨fun W tk => po_imp po_none fun σ H Q ⟨G, ρ, R, h⟩ => h G H (GExt.refl R.s)⟩
theorem dp_some {e : Expr} {m : M} (h : DE Γ X e m) : DP Γ X (some e) (mPart m) :=
  ⟨fun W tk => po_imp (po_some (h.run W tk)) fun σ H Q ⟨G, ρ, R, h⟩ => by
    refine ⟨G, ρ, R, ?_⟩
    unfold mPart at h
    cases e : m ρ with
    | stuck => rw [e] at h; exact h
    | exc c => rw [e] at h; exact h
    | ok d =>
      rw [e] at h
      intro v G' H' x r
      cases d with
      | int i => cases r; exact ⟨i, rfl, h G' H' x⟩
      | _ => exact h.elim⟩
def cutD {α : Type} (xs : List α) (lo hi : Option Int) : List α := (xs.drop (HT.sIx xs.length 0 lo)).take (HT.sIx xs.length xs.length hi - HT.sIx xs.length 0 lo)
def fSl (d : D) (lo hi : Option Int) : Res D := match d with
  | .tuple xs => .ok (.tuple (cutD xs lo hi))
  | .str z => if z.length ≤ sizeLine then .ok (.str (cutS z lo hi)) else .stuck
  | _ => .stuck
def mSl (f : D → Option Int → Option Int → Res D) (m : M) (l h : MP) : M := fun ρ => (m ρ).bind fun d => (l ρ).bind fun lo => (h ρ).bind fun hi => (f d lo hi).plain
def rSlD (Γ : Tbs) (K : PySem.W.Frag) (f : D → Option Int → Option Int → Res D) : V → Option Int → Option Int → Hp → VK → Prop := fun x lo hi H Q => ∃ G a, Same G H ∧ Rp K G x a ∧ PostV Γ K G H Q (f a lo hi)
theorem RpAll.cut {K : PySem.W.Frag} {G : Hp} {vs : List V} {ds : List D} (r : RpAll K G vs ds) (lo hi : Option Int) : RpAll K G (cutV vs lo hi) (cutD ds lo hi) := by
  unfold cutV cutD
  rw [r.length]
  exact (r.drop _).take _
/-- t[lo:hi]: the whole of it is t itself -/
def rSlK (K : PySem.W.Frag) : V → Option Int → Option Int → Hp → VK → Prop := fun x lo hi H Q => ∃ a xs, x = .ref a ∧ SqT K H a xs ∧
  (HT.sIx xs.length 0 lo = 0 ∧ HT.sIx xs.length xs.length hi = xs.length → Q (.ref a) H) ∧ (¬ (HT.sIx xs.length 0 lo = 0 ∧ HT.sIx xs.length xs.length hi = xs.length) → ∃ k, ∀ p o, H p = none → PlainO o → Q (.ref p) (upd H p (mkT k o (cutV xs lo hi))))
theorem sl_tupK : SlR X (rSlK X.K) := by
  intro pins s σ H x v vl vu lo hi sl Q I rx hs pl pu h
  obtain ⟨a, xs, rfl, hx, q1, q2⟩ := h
  cases rx
  obtain ⟨its, r, ht, hz⟩ := I.tuple hx
  have hlen : its.toArray.size = xs.length := by rw [List.size_toArray]; exact r.length.symm
  refine ⟨"tuple", _, PyProof.Rows.slot_tuple_getitem.lookup, ht.typeIs, ?_⟩
  by_cases hw : HT.sIx xs.length 0 lo = 0 ∧ HT.sIx xs.length xs.length hi = xs.length
  · exact getItem_tuple_whole ht hs pl pu (by rw [hlen]; exact hw) ⟨.ref a, H, I, rfl, q1 hw⟩
  · obtain ⟨k, q⟩ := q2 hw
    refine HT.getItem_tuple_cut ht hs pl pu (by rw [hlen]; exact hw) ?_ (by rw [hlen]; exact hz)
    rw [hlen]
    exact ⟨.ref s.heap.objs.size, _, laidT I k ((r.drop (HT.sIx xs.length 0 lo)).take (HT.sIx xs.length xs.length hi - HT.sIx xs.length 0 lo)) (Nat.le_trans (cutV_length xs lo hi) hz), rfl, q _ _ (I.hok.fresh (Nat.le_refl _)) (plain_new _)⟩
theorem sl_fSl : SlR X (rSlD Γ X.K fSl) := by
  intro pins s σ H x v vl vu lo hi sl Q I rx hs pl pu ⟨G, a, sm, ra, q⟩
  cases a with
  | tuple ds =>
    obtain ⟨p, xs, rfl, h1, r⟩ := ra.sqT
    refine sl_tupK pins s σ H _ v vl vu lo hi sl Q I rx hs pl pu ⟨p, xs, rfl, SqT.sm sm h1, fun e => ?_, fun e => ⟨keyish (cutD ds lo hi), fun b o hb po => ?_⟩⟩
    · have : cutD ds lo hi = ds := by
        unfold cutD
        rw [← r.length, e.1, e.2, List.drop_zero, Nat.sub_zero]
        exact List.take_of_length_le (by rw [r.length]; exact Nat.le_refl _)
      have q' : PostV Γ X.K G H Q (.ok (.tuple (cutD ds lo hi))) := q
      rw [this] at q'
      exact q'.now sm ra
    · obtain ⟨x1, x2⟩ := new_tup sm (r.cut lo hi) hb po
      exact q _ _ _ x1 x2
  | str z =>
    cases ra
    obtain ⟨hz, q⟩ := PostV.ite q
    exact sl_str pins s σ H _ v vl vu lo hi sl Q I rx hs pl pu ⟨z, rfl, hz, q.now sm (.str _)⟩
  | _ => exact False.elim q
theorem Post.bindP {K : PySem.W.Frag} {mg : Str → Option Value} {W : WX} {G : Hp} {σ : L2.St} {H : Hp} {Q : VK} {Q' : Option Int → Hp → Prop} {r : Res (Option Int)} {f : Option Int → Res D} (h : Post Γ K mg W G σ H Q (r.bind f))
    (k : ∀ b G' H', r = .ok b → GExt Γ G H G' H' → Post Γ K mg W G' σ H' Q (f b) → Q' b H') : PostP Γ K mg W G σ H Q' r := by
  cases r with
  | ok d => exact fun G' H' x => k d G' H' rfl x (Post.ext x h)
  | exc c => exact h
  | stuck => exact h
theorem de_sl {a : Expr} {lo hi : Option Expr} {m : M} {l h : MP} {p2 pos : Pos} {f : D → Option Int → Option Int → Res D} (ho : SlR X (rSlD Γ X.K f)) (ha : DE Γ X a m) (hl : DP Γ X lo l) (hh : DP Γ X hi h) : DE Γ X (.Subscript a (.Slice lo hi none p2) pos) (mSl f m l h) :=
  ⟨fun W tk => pe_imp (pe_slice ho (ha.run W tk) (hl.run W tk) (hh.run W tk)) fun σ H Q ⟨G, ρ, R, q⟩ => ⟨G, ρ, R, Post.bind q fun d v G1 H1 _ x1 r1 q1 =>
    ⟨G1, ρ, R.ext x1, Post.bindP q1 fun lo G2 H2 _ x2 q2 => ⟨G2, ρ, (R.ext x1).ext x2, Post.bindP q2 fun hi G3 H3 _ x3 q3 => ⟨G3, d, x3.s, r1.sm (x2.g.trans x3.g), post_plain q3⟩⟩⟩⟩⟩
/-- xs[lo:hi] of a list: a new list -/
def fSlL (d : D) (lo hi : Option Int) : Res D := match d with
  | .list xs => .ok (.list (cutD xs lo hi))
  | _ => .stuck
def PostVO (Γ : Tbs) (K : PySem.W.Frag) (G H : Hp) (Q : VK) : Res D → Prop
  | .ok d => ∀ a o G' H', GExt Γ G H G' H' → H a = none → G' a = none → H' a = some o → OwnO K G' o d → Q (.ref a) H'
  | _ => False
theorem postO_plain {K : PySem.W.Frag} {mg : Str → Option Value} {W : WX} {G : Hp} {σ : L2.St} {H : Hp} {Q : VK} {r : Res D} (h : PostO Γ K mg W G σ H Q r.plain) : PostVO Γ K G H Q r := by
  cases r with
  | ok d => exact h
  | exc c => exact h
  | stuck => exact h
theorem PostVO.now {K : PySem.W.Frag} {G H : Hp} {Q : VK} {d : D} {p : Addr} {o : HO} (h : PostVO Γ K G H Q (.ok d)) (s : Same G H) (hp : H p = none) (q : OwnO K G o d) : Q (.ref p) (upd H p o) := by
  have hs : Same H (upd H p o) := fun b u e => by rw [upd_ne (ne_of_none e hp)]; exact e
  exact h p o G _ (GExt.heap s hs) hp (s.free hp) upd_same q
theorem PostVO.ite {K : PySem.W.Frag} {G H : Hp} {Q : VK} {c : Prop} [Decidable c] {r : Res D} (h : PostVO Γ K G H Q (if c then r else .stuck)) : c ∧ PostVO Γ K G H Q r := by
  by_cases e : c
  · rw [if_pos e] at h; exact ⟨e, h⟩
  · rw [if_neg e] at h; exact h.elim
def rSlO (Γ : Tbs) (K : PySem.W.Frag) (f : D → Option Int → Option Int → Res D) : V → Option Int → Option Int → Hp → VK → Prop := fun x lo hi H Q => ∃ G a, Same G H ∧ Rp K G x a ∧ PostVO Γ K G H Q (f a lo hi)
theorem sl_fSlL : SlR X (rSlO Γ X.K fSlL) := by
  intro pins s σ H x v vl vu lo hi sl Q I rx hs pl pu ⟨G, a, sm, ra, q⟩
  cases a with
  | list ds =>
    cases ra with
    | lst h1 r => exact sl_list pins s σ H _ v vl vu lo hi sl Q I rx hs pl pu ⟨_, _, rfl, .of (sm _ _ h1), fun p hp => PostVO.now q sm hp (.inl ⟨_, _, rfl, rfl, r.cut lo hi⟩)⟩
  | _ => exact False.elim q
theorem PostO.bindP {K : PySem.W.Frag} {mg : Str → Option Value} {W : WX} {G : Hp} {σ : L2.St} {H : Hp} {Q : VK} {Q' : Option Int → Hp → Prop} {r : Res (Option Int)} {f : Option Int → Res D} (h : PostO Γ K mg W G σ H Q (r.bind f))
    (k : ∀ b G' H', r = .ok b → GExt Γ G H G' H' → PostO Γ K mg W G' σ H' Q (f b) → Q' b H') : PostP Γ K mg W G σ H Q' r := by
  cases r with
  | ok d => exact fun G' H' x => k d G' H' rfl x (PostO.ext x h)
  | exc c => exact h
  | stuck => exact h
theorem do_sl {a : Expr} {lo hi : Option Expr} {m : M} {l h : MP} {p2 pos : Pos} {f : D → Option Int → Option Int → Res D} (ho : SlR X (rSlO Γ X.K f)) (ha : DE Γ X a m) (hl : DP Γ X lo l) (hh : DP Γ X hi h) : DO Γ X (.Subscript a (.Slice lo hi none p2) pos) (mSl f m l h) :=
  ⟨fun W tk => pe_imp (pe_slice ho (ha.run W tk) (hl.run W tk) (hh.run W tk)) fun σ H Q ⟨G, ρ, R, q⟩ => ⟨G, ρ, R, PostO.bind q fun d v G1 H1 _ x1 r1 q1 =>
    ⟨G1, ρ, R.ext x1, PostO.bindP q1 fun lo G2 H2 _ x2 q2 => ⟨G2, ρ, (R.ext x1).ext x2, PostO.bindP q2 fun hi G3 H3 _ x3 q3 => ⟨G3, d, x3.s, r1.sm (x2.g.trans x3.g), postO_plain q3⟩⟩⟩⟩⟩

/-! ### list + list -/
def rO2 (Γ : Tbs) (K : PySem.W.Frag) (f : D → D → Res D) : R2 := fun x y H Q => ∃ G a b, Same G H ∧ Rp K G x a ∧ Rp K G y b ∧ PostVO Γ K G H Q (f a b)
def OpO (Γ : Tbs) (X : Cx) (g : Value → Value → Sem Value) (f : D → D → Res D) : Prop := OpR X g (rO2 Γ X.K f)
theorem do_op {op : Operator} {f : D → D → Res D} {a b : Expr} {m1 m2 : M} {pos : Pos} (ho : OpO Γ X (binaryOp op) f) (ha : DE Γ X a m1) (hb : DE Γ X b m2) : DO Γ X (.BinOp a op b pos) (mOp f m1 m2) :=
  ⟨fun W tk => pe_imp (pe_op ho (ha.run W tk) (hb.run W tk)) fun σ H Q ⟨G, ρ, R, h⟩ => ⟨G, ρ, R, PostO.bind h fun a v G1 H1 _ x1 r1 h1 => ⟨G1, ρ, R.ext x1, PostO.bind h1 fun b u G2 H2 _ x2 r2 h2 =>
    ⟨G2, a, b, x2.s, r1.sm x2.g, r2, postO_plain h2⟩⟩⟩⟩
def fCat : D → D → Res D
  | .list xs, .list ys => if xs.length + ys.length ≤ sizeLine then .ok (.list (xs ++ ys)) else .stuck
  | _, _ => .stuck
theorem op_fCat : OpO Γ X (binaryOp .Add) fCat := by
  intro pins s σ H x y v u Q I rx ry ⟨G, a, b, sm, ra, rb, q⟩
  cases a <;> cases b <;> first | exact False.elim q | skip
  cases ra with
  | lst h1 r1 =>
    cases rb with
    | lst h2 r2 =>
      obtain ⟨hl, q⟩ := PostVO.ite q
      exact op_cat pins s σ H _ _ v u Q I rx ry ⟨_, _, _, _, rfl, rfl, sm _ _ h1, sm _ _ h2, by rw [r1.length, r2.length]; exact hl, fun p hp => PostVO.now q sm hp (.inl ⟨_, _, rfl, rfl, r1.append r2⟩)⟩

/-! ### built-ins by name -/
def rDn (Γ : Tbs) (K : PySem.W.Frag) (f : List D → Res D) : List V → Hp → VK → Prop := fun vs H Q => ∃ G ds, Same G H ∧ RpAll K G vs ds ∧ PostV Γ K G H Q (f ds)
def CallD (Γ : Tbs) (X : Cx) (fv : Value) (f : List D → Res D) : Prop := CallR X fv (rDn Γ X.K f)
def rOn (Γ : Tbs) (K : PySem.W.Frag) (f : List D → Res D) : List V → Hp → VK → Prop := fun vs H Q => ∃ G ds, Same G H ∧ RpAll K G vs ds ∧ PostVO Γ K G H Q (f ds)
def CallO (Γ : Tbs) (X : Cx) (fv : Value) (f : List D → Res D) : Prop := CallR X fv (rOn Γ X.K f)
def mCallB (f : List D → Res D) (m : MA) : M := fun ρ => (m ρ).bind fun ds => (f ds).plain
theorem tCB_D {K : PySem.W.Frag} {mg : Str → Option Value} {W : WX} {f : List D → Res D} {m : MA} {σ : L2.St} {H : Hp} {Q : VK} (h : rdE Γ K mg W (mCallB f m) σ H Q) : tCB (rDn Γ K f) (rdA Γ K mg W m) σ H Q := by
  obtain ⟨G, ρ, R, h⟩ := h
  exact ⟨G, ρ, R, Post.bindA h fun ds vs G' H' _ x r q => ⟨G', ds, x.s, r, post_plain q⟩⟩
theorem tCB_O {K : PySem.W.Frag} {mg : Str → Option Value} {W : WX} {f : List D → Res D} {m : MA} {σ : L2.St} {H : Hp} {Q : VK} (h : rdO Γ K mg W (mCallB f m) σ H Q) : tCB (rOn Γ K f) (rdA Γ K mg W m) σ H Q := by
  obtain ⟨G, ρ, R, h⟩ := h
  exact ⟨G, ρ, R, PostO.bindA h fun ds vs G' H' _ x r q => ⟨G', ds, x.s, r, postO_plain q⟩⟩
variable {x : Str} {p pos : Pos} {e : Expr} {es : List Expr} {id T : String} {f : List D → Res D} {m : MA}
theorem de_callB (hc : CallD Γ X (.builtin id) f) (hg : Gl X x) (hm : X.mg x = none) (hv : bootBuiltins x = some (.builtin id)) (ha : DA Γ X (e :: es) m) (hn : x ≠ "__name__" := by decide) (hdb : (x == ("__debug__" : Str)) = false := by decide)
    (he : starEach (e :: es) X.env = (false, eval e X.env) :: starEach es X.env := by rfl) (hpl : (backTo pos (starEach es X.env)).any (·.1) = false := by rfl) : DE Γ X (.Call (.Name x p) (e :: es) [] pos) (mCallB f m) :=
  ⟨fun W tk => pe_imp (pe_callB hc hg hm hv (ha.run W tk) hn hdb he hpl) fun _ _ _ => tCB_D⟩
theorem do_callB (hc : CallO Γ X (.builtin id) f) (hg : Gl X x) (hm : X.mg x = none) (hv : bootBuiltins x = some (.builtin id)) (ha : DA Γ X (e :: es) m) (hn : x ≠ "__name__" := by decide) (hdb : (x == ("__debug__" : Str)) = false := by decide)
    (he : starEach (e :: es) X.env = (false, eval e X.env) :: starEach es X.env := by rfl) (hpl : (backTo pos (starEach es X.env)).any (·.1) = false := by rfl) : DO Γ X (.Call (.Name x p) (e :: es) [] pos) (mCallB f m) :=
  ⟨fun W tk => pe_imp (pe_callB hc hg hm hv (ha.run W tk) hn hdb he hpl) fun _ _ _ => tCB_O⟩
theorem de_callT (hc : CallD Γ X (.type T) f) (hg : Gl X x) (hm : X.mg x = none) (hv : bootBuiltins x = some (.type T)) (ha : DA Γ X (e :: es) m) (hn : x ≠ "__name__" := by decide) (hdb : (x == ("__debug__" : Str)) = false := by decide)
    (he : starEach (e :: es) X.env = (false, eval e X.env) :: starEach es X.env := by rfl) (hpl : (backTo pos (starEach es X.env)).any (·.1) = false := by rfl) : DE Γ X (.Call (.Name x p) (e :: es) [] pos) (mCallB f m) :=
  ⟨fun W tk => pe_imp (pe_callTy hc hg hm hv (ha.run W tk) hn hdb he hpl) fun _ _ _ => tCB_D⟩
theorem do_callT (hc : CallO Γ X (.type T) f) (hg : Gl X x) (hm : X.mg x = none) (hv : bootBuiltins x = some (.type T)) (ha : DA Γ X (e :: es) m) (hn : x ≠ "__name__" := by decide) (hdb : (x == ("__debug__" : Str)) = false := by decide)
    (he : starEach (e :: es) X.env = (false, eval e X.env) :: starEach es X.env := by rfl) (hpl : (backTo pos (starEach es X.env)).any (·.1) = false := by rfl) : DO Γ X (.Call (.Name x p) (e :: es) [] pos) (mCallB f m) :=
  ⟨fun W tk => pe_imp (pe_callTy hc hg hm hv (ha.run W tk) hn hdb he hpl) fun _ _ _ => tCB_O⟩
def fLen : List D → Res D
  | [.str z] => if z.length ≤ sizeLine then .ok (.int z.length) else .stuck
  | [.tuple ds] => .ok (.int ds.length)
  | [.list ds] => .ok (.int ds.length)
  | [.dict [(.none, .list ns)]] => .ok (.int ns.length)
  | _ => .stuck
theorem RpAll.one1 {K : PySem.W.Frag} {G : Hp} {vs : List V} {d : D} (r : RpAll K G vs [d]) : ∃ v, vs = [v] ∧ Rp K G v d := by
  cases r with
  | cons a b => cases b; exact ⟨_, rfl, a⟩
theorem RpAll.two2 {K : PySem.W.Frag} {G : Hp} {vs : List V} {d e : D} (r : RpAll K G vs [d, e]) : ∃ v w, vs = [v, w] ∧ Rp K G v d ∧ Rp K G w e := by
  cases r with
  | cons a b => obtain ⟨w, rfl, q⟩ := b.one1; exact ⟨_, _, rfl, a, q⟩
theorem call_fLen : CallD Γ X (.builtin "len") fLen := by
  intro pins s σ H xs us Q I r ⟨G, ds, sm, ra, q⟩
  unfold fLen at q
  split at q
  · rename_i z
    obtain ⟨v, rfl, rv⟩ := ra.one1
    cases rv
    obtain ⟨hl, q⟩ := PostV.ite q
    exact call_len_str pins s σ H _ us Q I r ⟨z, rfl, hl, q.now sm (.int _)⟩
  · rename_i ds
    obtain ⟨v, rfl, rv⟩ := ra.one1
    obtain ⟨p, vs, rfl, h1, r1⟩ := rv.sqT
    exact call_len_seq pins s σ H _ us Q I r ⟨p, vs, rfl, .inr (SqT.sm sm h1), by rw [r1.length]; exact q.now sm (.int _)⟩
  · rename_i ds
    obtain ⟨v, rfl, rv⟩ := ra.one1
    cases rv with
    | lst h1 r1 => exact call_len_seq pins s σ H _ us Q I r ⟨_, _, rfl, .inl (.of (sm _ _ h1)), by rw [r1.length]; exact q.now sm (.int _)⟩
  · rename_i ns
    obtain ⟨v, rfl, rv⟩ := ra.one1
    obtain ⟨p, is, rfl, hn, _, h1⟩ := scr_rp (a := .dict [(.none, .list ns)]) (ns := ns) rfl rv
    subst hn
    exact call_len_seq pins s σ H _ us Q I r ⟨p, _, rfl, .inl (SqL.sm sm h1), by rw [List.length_map]; rw [List.length_map] at q; exact q.now sm (.int _)⟩
  · exact q.elim
/-- a list of truth values -/
def asBools : List D → Option (List Bool)
  | [] => some []
  | .bool b :: ds => (asBools ds).map (b :: ·)
  | _ :: _ => none
def fAll : List D → Res D
  | [.list ds] => match asBools ds with | some bs => .ok (.bool (bs.all _root_.id)) | none => .stuck
  | _ => .stuck
def fAny : List D → Res D
  | [.list ds] => match asBools ds with | some bs => .ok (.bool (bs.any _root_.id)) | none => .stuck
  | _ => .stuck
theorem asBools_rp {K : PySem.W.Frag} {G : Hp} : ∀ {ds : List D} {vs : List V} {bs : List Bool}, asBools ds = some bs → RpAll K G vs ds → vs = bs.map V.bl
  | [], _, _, h, r => by cases r; cases h; rfl
  | d :: ds, _, bs, h, r => by
    cases r with
    | cons r1 r2 =>
      cases d <;> first | cases h | skip
      cases r1
      unfold asBools at h
      cases e : asBools ds with
      | none => rw [e] at h; cases h
      | some cs =>
        rw [e] at h
        cases h
        rw [asBools_rp e r2]
        rfl
theorem call_fAll (hc : X.calm = true) : CallD Γ X (.builtin "all") fAll := by
  intro pins s σ H xs us Q I r ⟨G, ds, sm, ra, q⟩
  unfold fAll at q
  split at q
  · rename_i ds
    obtain ⟨v, rfl, rv⟩ := ra.one1
    cases rv with
    | lst h1 r1 =>
      split at q
      · rename_i bs e
        have e2 := asBools_rp e r1
        subst e2
        exact cr_all hc pins s σ H _ us Q I r ⟨_, bs, rfl, .of (sm _ _ h1), q.now sm (.bl _)⟩
      · exact q.elim
  · exact q.elim
theorem call_fAny (hc : X.calm = true) : CallD Γ X (.builtin "any") fAny := by
  intro pins s σ H xs us Q I r ⟨G, ds, sm, ra, q⟩
  unfold fAny at q
  split at q
  · rename_i ds
    obtain ⟨v, rfl, rv⟩ := ra.one1
    cases rv with
    | lst h1 r1 =>
      split at q
      · rename_i bs e
        have e2 := asBools_rp e r1
        subst e2
        exact cr_any hc pins s σ H _ us Q I r ⟨_, bs, rfl, .of (sm _ _ h1), q.now sm (.bl _)⟩
      · exact q.elim
  · exact q.elim
def fTuple : List D → Res D
  | [.list ds] => .ok (.tuple ds)
  | [.tuple ds] => .ok (.tuple ds)
  | _ => .stuck
theorem call_tupleK : CallR X (.type "tuple") (fun xs H Q => ∃ p ys, xs = [.ref p] ∧ ((SqL X.K H p ys ∧ ∃ k, ∀ l o, H l = none → PlainO o → Q (.ref l) (upd H l (mkT k o ys))) ∨ (SqT X.K H p ys ∧ Q (.ref p) H))) := by
  intro pins s σ H xs us Q I r h
  obtain ⟨p, ys, rfl, h⟩ := h
  obtain ⟨u, rfl, rx⟩ := vals1 r
  cases rx
  rcases h with ⟨hq, k, q⟩ | ⟨hq, q⟩
  · obtain ⟨its, r', pl, hz⟩ := I.list hq
    have hlen := r'.length
    refine call_tuple_list pl.isList (fun h' kp => ?_) (by simp only [List.size_toArray] <;> omega)
    have I1 : Inv X pins σ H { s with heap := h' } := I.kept (t' := s.toks) kp
    exact ⟨.ref h'.objs.size, _, laidT I1 k r' hz, rfl, q _ _ (I1.hok.fresh (Nat.le_refl _)) (plain_new _)⟩
  · obtain ⟨its, r', pl, hz⟩ := I.tuple hq
    exact call_tuple_same pl ⟨.ref p, H, I, rfl, q⟩
theorem call_fTuple : CallD Γ X (.type "tuple") fTuple := by
  intro pins s σ H xs us Q I r ⟨G, ds, sm, ra, q⟩
  unfold fTuple at q
  split at q
  · obtain ⟨v, rfl, rv⟩ := ra.one1
    cases rv with
    | lst h1 r1 => exact call_tupleK pins s σ H _ us Q I r ⟨_, _, rfl, .inl ⟨.of (sm _ _ h1), keyish _, fun l o hl po => by
        obtain ⟨x1, x2⟩ := new_tup sm r1 hl po
        exact q _ _ _ x1 x2⟩⟩
  · obtain ⟨v, rfl, rv⟩ := ra.one1
    obtain ⟨p, vs, rfl, h1, r1⟩ := rv.sqT
    exact call_tupleK pins s σ H _ us Q I r ⟨p, vs, rfl, .inr ⟨SqT.sm sm h1, q.now sm rv⟩⟩
  · exact q.elim
def fList : List D → Res D
  | [.list ds] => .ok (.list ds)
  | [.tuple ds] => .ok (.list ds)
  | _ => .stuck
theorem call_fList : CallO Γ X (.type "list") fList := by
  intro pins s σ H xs us Q I r ⟨G, ds, sm, ra, q⟩
  unfold fList at q
  split at q
  · obtain ⟨v, rfl, rv⟩ := ra.one1
    cases rv with
    | lst h1 r1 => exact call_list_of pins s σ H _ us Q I r ⟨_, _, rfl, .inl (.of (sm _ _ h1)), fun l hl => PostVO.now q sm hl (.inl ⟨_, _, rfl, rfl, r1⟩)⟩
  · obtain ⟨v, rfl, rv⟩ := ra.one1
    obtain ⟨p, vs, rfl, h1, r1⟩ := rv.sqT
    exact call_list_of pins s σ H _ us Q I r ⟨p, vs, rfl, .inr (SqT.sm sm h1), fun l hl => PostVO.now q sm hl (.inl ⟨_, _, rfl, rfl, r1⟩)⟩
  · exact q.elim
def fMax : List D → Res D
  | [.int i, .int j] => .ok (.int (if j > i then j else i))
  | _ => .stuck
theorem call_fMax (hc : X.calm = true) : CallD Γ X (.builtin "max") fMax := by
  intro pins s σ H xs us Q I r ⟨G, ds, sm, ra, q⟩
  unfold fMax at q
  split at q
  · obtain ⟨v, w, rfl, rv, rw'⟩ := ra.two2
    cases rv; cases rw'
    exact call_max2 hc pins s σ H _ us Q I r ⟨_, _, rfl, q.now sm (.int _)⟩
  · exact q.elim
def fMin : List D → Res D
  | [.int i, .int j] => .ok (.int (if j < i then j else i))
  | _ => .stuck
theorem call_fMin (hc : X.calm = true) : CallD Γ X (.builtin "min") fMin := by
  intro pins s σ H xs us Q I r ⟨G, ds, sm, ra, q⟩
  unfold fMin at q
  split at q
  · obtain ⟨v, w, rfl, rv, rw'⟩ := ra.two2
    cases rv; cases rw'
    exact call_min2 hc pins s σ H _ us Q I r ⟨_, _, rfl, q.now sm (.int _)⟩
  · exact q.elim
def fInt : List D → Res D
  | [.int i] => .ok (.int i)
  | [.bool b] => .ok (.int (if b = true then 1 else 0))
  | _ => .stuck
theorem call_fInt : CallD Γ X (.type "int") fInt := by
  intro pins s σ H xs us Q I r ⟨G, ds, sm, ra, q⟩
  unfold fInt at q
  split at q
  · obtain ⟨v, rfl, rv⟩ := ra.one1
    cases rv
    exact call_int1 pins s σ H _ us Q I r (.inl ⟨_, rfl, q.now sm (.int _)⟩)
  · obtain ⟨v, rfl, rv⟩ := ra.one1
    cases rv
    exact call_int1 pins s σ H _ us Q I r (.inr ⟨_, rfl, q.now sm (.int _)⟩)
  · exact q.elim
end
end De
end

section
set_option Elab.async false
set_option linter.all false
set_option maxRecDepth 100000
/-! De8: dicts with tuple keys as data: new, read, stored, popped, walked under a lock. -/
namespace De
open PySem PySem.Spec PyProof.Rows L2

/-! ### tables of data -/
def dfind (kvs : List (D × D)) (k : D) : Option D := (kvs.find? fun kv => inD.isKey kv.1 k).map (·.2)
def dputK (kvs : List (D × D)) (k v : D) : List (D × D) :=
  if (kvs.any fun kv => inD.isKey kv.1 k) = true then kvs.map (fun kv => if inD.isKey kv.1 k = true then (kv.1, v) else kv) else kvs ++ [(k, v)]
def ddropK (kvs : List (D × D)) (k : D) : List (D × D) := kvs.filter fun kv => !inD.isKey kv.1 k
def allT (kvs : List (D × D)) : Bool := kvs.all fun kv => inD.isTup kv.1
abbrev sK (xs : List Str) : List Key := xs.map Sum.inr
theorem isKey_T (k : List Key) (xs : List Str) : inD.isKey (.tuple (k.map kD)) (.tuple (xs.map PyData.str)) = decide (k = sK xs) := by
  show inD.sameKs (k.map kD) (xs.map PyData.str) = _
  induction k generalizing xs with
  | nil => cases xs <;> rfl
  | cons a k ih =>
    cases xs with
    | nil => rcases a with a | a <;> rfl
    | cons y ys =>
      rcases a with a | a
      · show false = _
        exact (decide_eq_false fun z => by cases z).symm
      · show (decide (a = y) && inD.sameKs (k.map kD) (ys.map PyData.str)) = _
        rw [ih ys]
        by_cases e : a = y <;> by_cases e2 : k = ys.map Sum.inr <;> simp [e, e2, sK]
section
variable {K : PySem.W.Frag} {G : Hp}
theorem RpT.find (xs : List Str) : ∀ {kvs : List (List Key × V)} {ds : List (D × D)}, RpT K G kvs ds → (valV kvs (sK xs) = none ∧ dfind ds (.tuple (xs.map PyData.str)) = none) ∨ ∃ v d, valV kvs (sK xs) = some v ∧ dfind ds (.tuple (xs.map PyData.str)) = some d ∧ Rp K G v d
  | _, _, .nil => .inl ⟨rfl, rfl⟩
  | _, _, @RpT.cons _ _ k v kvs d ds r rr => by
    have e := isKey_T k xs
    unfold dfind
    rw [List.find?_cons]
    by_cases h : k = sK xs
    · refine .inr ⟨v, d, valV_pos (p := (k, v)) h, ?_, r⟩
      simp only [e, decide_eq_true h, Option.map_some]
    · rcases RpT.find xs rr with ⟨h1, h2⟩ | ⟨w, d2, h1, h2, h3⟩
      · refine .inl ⟨by rw [valV_neg (p := (k, v)) h]; exact h1, ?_⟩
        simp only [e, decide_eq_false h]
        exact h2
      · refine .inr ⟨w, d2, by rw [valV_neg (p := (k, v)) h]; exact h1, ?_, h3⟩
        simp only [e, decide_eq_false h]
        exact h2
theorem RpT.repl (xs : List Str) {v : V} {d : D} (r : Rp K G v d) : ∀ {kvs : List (List Key × V)} {ds : List (D × D)}, RpT K G kvs ds →
    RpT K G (kvs.map fun kv => if kv.1 = sK xs then (kv.1, v) else kv) (ds.map fun kv => if inD.isKey kv.1 (.tuple (xs.map PyData.str)) = true then (kv.1, d) else kv)
  | _, _, .nil => .nil
  | _, _, @RpT.cons _ _ k w kvs e ds r1 rr => by
    rw [List.map_cons, List.map_cons]
    have h := isKey_T k xs
    by_cases q : k = sK xs
    · rw [if_pos q, if_pos (by rw [h]; exact decide_eq_true q)]
      exact .cons r (RpT.repl xs r rr)
    · rw [if_neg q, if_neg (by rw [h]; simpa using q)]
      exact .cons r1 (RpT.repl xs r rr)
theorem RpT.snoc : ∀ {kvs : List (List Key × V)} {ds : List (D × D)}, RpT K G kvs ds → ∀ (k : List Key) {v : V} {d : D}, Rp K G v d → RpT K G (kvs ++ [(k, v)]) (ds ++ [(.tuple (k.map kD), d)])
  | _, _, .nil, k, _, _, r => .cons r .nil
  | _, _, .cons r1 rr, k, _, _, r => .cons r1 (RpT.snoc rr k r)
theorem sK_kD (xs : List Str) : (sK xs).map kD = xs.map PyData.str := by
  unfold sK
  rw [List.map_map]
  rfl
theorem RpT.put (xs : List Str) {v : V} {d : D} (r : Rp K G v d) {kvs : List (List Key × V)} {ds : List (D × D)} (t : RpT K G kvs ds) : RpT K G (putK kvs (sK xs) v) (dputK ds (.tuple (xs.map PyData.str)) d) := by
  have e := keysT_any xs t
  have e2 := valV_any (sK xs) kvs
  unfold putK dputK
  by_cases h : (valV kvs (sK xs)).isSome = true
  · rw [if_pos (e2.trans h), if_pos (e.trans h)]
    exact t.repl xs r
  · rw [if_neg (by rw [e2]; exact h), if_neg (by rw [e]; exact h)]
    have := t.snoc (sK xs) r
    rw [sK_kD] at this
    exact this
theorem RpT.drop (xs : List Str) : ∀ {kvs : List (List Key × V)} {ds : List (D × D)}, RpT K G kvs ds → RpT K G (dropK kvs (sK xs)) (ddropK ds (.tuple (xs.map PyData.str)))
  | _, _, .nil => .nil
  | _, _, @RpT.cons _ _ k w kvs e ds r1 rr => by
    have h := isKey_T k xs
    have ih := RpT.drop xs rr
    unfold dropK ddropK at ih ⊢
    by_cases q : k = sK xs
    · rw [List.filter_cons_of_neg (by simp [q]), List.filter_cons_of_neg (by show ¬ (!inD.isKey (.tuple (k.map kD)) _) = true; rw [h, decide_eq_true q]; decide)]
      exact ih
    · rw [List.filter_cons_of_pos (by simp [q]), List.filter_cons_of_pos (by simp [h, q])]
      exact .cons r1 ih
theorem RpT.len : ∀ {kvs : List (List Key × V)} {ds : List (D × D)}, RpT K G kvs ds → kvs.length = ds.length
  | _, _, .nil => rfl
  | _, _, .cons _ a => by simp [RpT.len a]
theorem RpK.len : ∀ {kvs : List (Key × V)} {ds : List (D × D)}, RpK K G kvs ds → kvs.length = ds.length
  | _, _, .nil => rfl
  | _, _, .cons _ a => by simp [RpK.len a]
theorem RpT.at_ : ∀ {kvs : List (List Key × V)} {ds : List (D × D)} {i : Nat} {k : List Key} {v : V}, RpT K G kvs ds → kvs[i]? = some (k, v) → ∃ d, ds[i]? = some (.tuple (k.map kD), d) ∧ Rp K G v d
  | _, _, _, _, _, .nil, h => by simp at h
  | _, _, 0, _, _, .cons h _, e => by simp at e; obtain ⟨rfl, rfl⟩ := e; exact ⟨_, rfl, h⟩
  | _, _, i + 1, k, v, .cons _ a, e => by
    obtain ⟨d, h1, h2⟩ := RpT.at_ (i := i) (k := k) (v := v) a (by simpa using e)
    exact ⟨d, by simpa using h1, h2⟩
theorem RpK.at_ : ∀ {kvs : List (Key × V)} {ds : List (D × D)} {i : Nat} {k : Key} {v : V}, RpK K G kvs ds → kvs[i]? = some (k, v) → ∃ d, ds[i]? = some (kD k, d) ∧ Rp K G v d
  | _, _, _, _, _, .nil, h => by simp at h
  | _, _, 0, _, _, .cons h _, e => by simp at e; obtain ⟨rfl, rfl⟩ := e; exact ⟨_, rfl, h⟩
  | _, _, i + 1, k, v, .cons _ a, e => by
    obtain ⟨d, h1, h2⟩ := RpK.at_ (i := i) (k := k) (v := v) a (by simpa using e)
    exact ⟨d, by simpa using h1, h2⟩
theorem rpK_noT {ks : List (Key × V)} {kvs : List (D × D)} (z : ks ≠ []) (r : RpK K G ks kvs) (h : allT kvs = true) : False := by
  cases r with
  | nil => exact z rfl
  | @cons k _ _ _ _ r1 r2 =>
    unfold allT at h
    rw [List.all_cons] at h
    rcases k with k | k <;> simp [inD.isTup, kD] at h
theorem Rp.dictT {v : V} {kvs : List (D × D)} (r : Rp K G v (.dict kvs)) (h : allT kvs = true) : ∃ a ks, v = .ref a ∧ Rd G a (.dT ks) ∧ RpT K G ks kvs := by
  generalize e : PyData.dict kvs = d at r
  cases r with
  | scr hs => cases e; simp [allT, inD.isTup] at h
  | lse _ _ => cases e; simp [allT, inD.isTup] at h
  | dct hd rr => cases e; exact ⟨_, _, rfl, hd, rr⟩
  | dck hd z rr => cases e; exact (rpK_noT z rr h).elim
  | _ => cases e
theorem OwnO.dictT {o : HO} {kvs : List (D × D)} (r : OwnO K G o (.dict kvs)) (h : allT kvs = true) : ∃ ks, o = .dT ks ∧ RpT K G ks kvs := by
  rcases r with ⟨_, _, _, e, _⟩ | ⟨ks, ds, e1, e, rr⟩ | ⟨ks, ds, e1, e, z, rr⟩
  · cases e
  · cases e; exact ⟨ks, e1, rr⟩
  · cases e; exact (rpK_noT z rr h).elim
end

section
variable {X : Cx}
/-! ### new, read -/
theorem do_dnew {pos : Pos} : DO Γ X (.Dict [] [] pos) (mC (.dict [])) :=
  ⟨fun W tk => pe_imp pe_dnewT fun σ H Q ⟨G, ρ, R, h⟩ p hp => PostO.now R.s h hp (.inr (.inl ⟨[], [], rfl, rfl, .nil⟩))⟩
def dgetK (a k : D) : Res D := match a, k with
  | .dict kvs, .tuple ks => if inD.keyOk ks = true ∧ allT kvs = true then (match dfind kvs (.tuple ks) with | some d => .ok d | none => .stuck) else .stuck
  | _, _ => .stuck
theorem de_dget {a b : Expr} {m1 m2 : M} {pos : Pos} (hu : X.A.units + 66 < cLine) (ha : DE Γ X a m1) (hb : DE Γ X b m2) (hs : NoSl b) : DE Γ X (.Subscript a b pos) (mOp dgetK m1 m2) :=
  ⟨fun W tk => pe_imp (pe_dget (by omega) (ha.run W tk) (hb.run W tk) hs) fun σ H Q ⟨G, ρ, R, h⟩ => ⟨G, ρ, R, Post.bind h fun d v G1 H1 _ x1 r1 q1 => ⟨G1, ρ, R.ext x1, Post.bind q1 fun k u G2 H2 _ x2 r2 q2 => by
    have q3 := post_plain q2
    clear q2
    unfold dgetK at q3
    split at q3
    · rename_i kvs ks
      obtain ⟨⟨h1, h2⟩, q3⟩ := PostV.ite q3
      obtain ⟨b', xs, rfl, rfl, hb'⟩ := key_tup r2 h1
      obtain ⟨p, kk, rfl, hd, rr⟩ := (r1.sm x2.g).dictT h2
      rcases rr.find xs with ⟨_, e2⟩ | ⟨w, d2, e1, e2, r3⟩
      · rw [e2] at q3; exact q3.elim
      · rw [e2] at q3
        exact ⟨p, w, rfl, .inr ⟨kk, sK xs, b', Rd.sm x2.s hd, rfl, x2.s _ _ hb', e1.symm⟩, q3.now x2.s r3⟩
    · exact q3.elim⟩⟩⟩
def dgetD (kvs : List (D × D)) (k d : D) : Res D := match k with
  | .tuple ks => if inD.keyOk ks = true then .ok ((dfind kvs (.tuple ks)).getD d) else .stuck
  | _ => .stuck
def mGet1 (m1 m2 : M) : M := fun ρ => (m1 ρ).bind fun a => match a with
  | .dict kvs => if allT kvs = true then (m2 ρ).bind fun k => (dgetD kvs k .none).plain else .stuck
  | _ => .stuck
def mGet2 (m1 m2 m3 : M) : M := fun ρ => (m1 ρ).bind fun a => match a with
  | .dict kvs => if allT kvs = true then (m2 ρ).bind fun k => (m3 ρ).bind fun d => (dgetD kvs k d).plain else .stuck
  | _ => .stuck
theorem PostV.getD {K : PySem.W.Frag} {G H : Hp} {Q : VK} {kvs : List (D × D)} {k d : D} {p : Addr} {u w : V} {kk : List (List Key × V)} (q : PostV Γ K G H Q (dgetD kvs k d)) (s : Same G H) (hd : Rd G p (.dT kk)) (rr : RpT K G kk kvs) (rk : Rp K G u k) (rw' : Rp K G w d) :
    ∃ o, DGet H p u o ∧ Q (o.getD w) H := by
  unfold dgetD at q
  split at q
  · rename_i ks
    obtain ⟨h1, q⟩ := PostV.ite q
    obtain ⟨b', xs, rfl, rfl, hb'⟩ := key_tup rk h1
    rcases rr.find xs with ⟨e1, e2⟩ | ⟨z, d2, e1, e2, r3⟩
    · rw [e2] at q
      exact ⟨none, .inr ⟨kk, sK xs, b', Rd.sm s hd, rfl, s _ _ hb', e1.symm⟩, q.now s rw'⟩
    · rw [e2] at q
      exact ⟨some z, .inr ⟨kk, sK xs, b', Rd.sm s hd, rfl, s _ _ hb', e1.symm⟩, q.now s r3⟩
  · exact q.elim
theorem Post.ite {K : PySem.W.Frag} {mg : Str → Option Value} {W : WX} {G : Hp} {σ : L2.St} {H : Hp} {Q : VK} {c : Prop} [Decidable c] {r : Res D} (h : Post Γ K mg W G σ H Q (if c then r else .stuck)) : c ∧ Post Γ K mg W G σ H Q r := by
  by_cases e : c
  · rw [if_pos e] at h; exact ⟨e, h⟩
  · rw [if_neg e] at h; exact h.elim
theorem de_get1 {a b : Expr} {m1 m2 : M} {apos cpos : Pos} (hu : X.A.units + 66 < cLine) (ha : DE Γ X a m1) (hb : DE Γ X b m2) (hm : M1 X a "get" apos b cpos) : DE Γ X (.Call (.Attribute a "get" apos) [b] [] cpos) (mGet1 m1 m2) :=
  ⟨fun W tk => pe_imp (pe_dget1 (by omega) (ha.run W tk) (hb.run W tk) hm) fun σ H Q ⟨G, ρ, R, h⟩ => ⟨G, ρ, R, Post.bind h fun d v G1 H1 _ x1 r1 q1 => by
    split at q1
    · rename_i kvs
      obtain ⟨h2, q1⟩ := Post.ite q1
      obtain ⟨p, kk, rfl, hd, rr⟩ := r1.dictT h2
      exact ⟨p, rfl, .inr ⟨kk, Rd.sm x1.s hd⟩, G1, ρ, R.ext x1, Post.bind q1 fun k u G2 H2 _ x2 r2 q2 => PostV.getD (w := .non) (post_plain q2) x2.s (Rd.sm x2.g hd) (rr.sm x2.g) r2 .non⟩
    · exact q1.elim⟩⟩
theorem de_get2 {a b c : Expr} {m1 m2 m3 : M} {apos cpos : Pos} (hu : X.A.units + 66 < cLine) (ha : DE Γ X a m1) (hb : DE Γ X b m2) (hc : DE Γ X c m3) (hm : M2 X a "get" apos b c cpos) : DE Γ X (.Call (.Attribute a "get" apos) [b, c] [] cpos) (mGet2 m1 m2 m3) :=
  ⟨fun W tk => pe_imp (pe_dget2 (by omega) (ha.run W tk) (hb.run W tk) (hc.run W tk) hm) fun σ H Q ⟨G, ρ, R, h⟩ => ⟨G, ρ, R, Post.bind h fun d v G1 H1 _ x1 r1 q1 => by
    split at q1
    · rename_i kvs
      obtain ⟨h2, q1⟩ := Post.ite q1
      obtain ⟨p, kk, rfl, hd, rr⟩ := r1.dictT h2
      exact ⟨p, rfl, .inr ⟨kk, Rd.sm x1.s hd⟩, G1, ρ, R.ext x1, Post.bind q1 fun k u G2 H2 _ x2 r2 q2 => ⟨G2, ρ, (R.ext x1).ext x2, Post.bind q2 fun d w G3 H3 _ x3 r3 q3 =>
        PostV.getD (post_plain q3) x3.s (Rd.sm (x2.g.trans x3.g) hd) (rr.sm (x2.g.trans x3.g)) (r2.sm x3.g) r3⟩⟩
    · exact q1.elim⟩⟩

/-! ### stored -/
theorem RelE.ownT {K : PySem.W.Frag} {G : Hp} {ρ : Rho} {σ : L2.St} {H : Hp} {i : Nat} {ds : List (D × D)} (R : RelE Γ K G ρ σ H) (h : ρ[i]? = some (some (.own (.dict ds)))) (ht : allT ds = true) : ∃ a ks, σ[i]? = some (some (.ref a)) ∧ H a = some (.dT ks) ∧ G a = none ∧ RpT K G ks ds := by
  obtain ⟨v, h1, a, o, rfl, ha, hg, q⟩ := R.at_ i _ h
  obtain ⟨ks, rfl, rr⟩ := q.dictT ht
  exact ⟨a, ks, h1, ha, hg, rr⟩
theorem PostS.bindX {K : PySem.W.Frag} {mg : Str → Option Value} {W : WX} {B : Hp × Hp} {G : Hp} {ρ : Rho} {σ : L2.St} {H : Hp} {E : Ends} {m : M} {f : D → RSt} {Q : VK} (R : RelG Γ K B G ρ σ H) (h : PostS Γ K mg W B E ((m ρ).st ρ f))
    (k : ∀ d v G' H', GExt Γ G H G' H' → RelG Γ K B G' ρ σ H' → Rp K G' v d → PostS Γ K mg W B E (f d) → Q v H') : rdE Γ K mg W m σ H Q := by
  refine ⟨G, ρ, R.r, ?_⟩
  cases e : m ρ with
  | ok d => rw [e] at h; exact fun v G' H' x q => k d v G' H' x (R.ext x) q h
  | exc c =>
    rw [e] at h
    obtain ⟨C, a, b⟩ := h
    exact ⟨C, a, fun H' s => b σ H' ⟨G, R.ext (GExt.heapN R.r.s R.r.d.1 s)⟩⟩
  | stuck => rw [e] at h; exact h
def mDPut (i : Nat) (mk mv : M) : MS := fun ρ => (mv ρ).st ρ fun v => match ρ[i]? with
  | some (some (.own (.dict kvs))) => if allT kvs = true ∧ kvs.length < sizeLine then (mk ρ).st ρ fun k => match k with
      | .tuple ks => if inD.keyOk ks = true then .next (ρ.set i (some (.own (.dict (dputK kvs (.tuple ks) v))))) else .stuck
      | _ => .stuck
    else .stuck
  | _ => .stuck
theorem ds_dput {i : Nat} {x : Str} {b e : Expr} {mk mv : M} {p2 pos' pos : Pos} (hu : X.A.units + 66 < cLine) (hN : X.N[i]? = some x) (hv : Vis X.env.scope x) (hk : DE Γ X b mk) (he : DE Γ X e mv) (hs : swapsWith e (some (.Subscript (.Name x p2) b pos')) pos.line X.env = pure false := by rfl)
    (hd : (x == ("__debug__" : Str)) = false := by decide) (hcd : (x == ("__classdict__" : Str)) = false := by decide) : DS Γ X (.Assign [.Subscript (.Name x p2) b pos'] e pos) (mDPut i mk mv) :=
  ⟨fun W tk => ps_imp (ps_dput (by omega) (pe_var hN hv hd hcd) (hk.run W tk) (he.run W tk) hs) fun E σ H ⟨B, ρ, ⟨G, R⟩, h⟩ => PostS.bind R h fun d v G1 H1 R1 r1 q1 => by
    split at q1
    · rename_i kvs e
      obtain ⟨⟨h1, h2⟩, q1⟩ := PostS.ite q1
      obtain ⟨a, ks, e1, ha, hg, rr⟩ := R1.r.ownT e h1
      refine ⟨.ref a, e1, PostS.bindX R1 q1 fun k u G2 H2 x2 R2 r2 q2 => ?_⟩
      split at q2
      · rename_i xs
        obtain ⟨h3, q2⟩ := PostS.ite q2
        obtain ⟨b', xs, rfl, rfl, hb'⟩ := key_tup r2 h3
        obtain ⟨a', ks', e1', ha', hg', rr'⟩ := R2.r.ownT e h1
        rw [e1] at e1'
        cases e1'
        exact ⟨a, upd H2 a (.dT (putK ks' (sK xs) v)), rfl, .inr ⟨ks', sK xs, b', ha', rfl, R2.r.s _ _ hb', by rw [rr'.len]; exact h2, rfl⟩,
          q2 σ _ ⟨G2, R2.mutate e e1 (.inr (.inl ⟨_, _, rfl, rfl, rr'.put xs (r1.sm x2.g)⟩))⟩⟩
      · exact q2.elim
    · exact q1.elim⟩

/-! ### x[y.pop(e)] = v, x and y one's own -/
def rPopT1 : V → List V → Hp → VK → Prop := fun x xs H Q => ∃ (a : Addr) (kvs : List (List Key × V)) (k : List Key) (b : Addr) (v : V), x = .ref a ∧ xs = [.ref b] ∧ H a = some (.dT kvs) ∧ H b = some (.tup (k.map kV)) ∧ valV kvs k = some v ∧ Q v (upd H a (.dT (dropK kvs k)))
theorem mt_popT1 (hu : X.A.units + 66 < cLine) : MtR X "dict.pop" rPopT1 := by
  intro pins s σ H x xs v us Q I rx rxs h
  obtain ⟨a, kvs, k, b, d, rfl, rfl, ha, hb, hv, q1⟩ := h
  cases rx
  obtain ⟨u1, rfl, r1⟩ := vals1 rxs
  cases r1
  obtain ⟨z, hd, xs', rel, dd⟩ := dt_of I.hok ha
  have hz : xs'.length ≤ sizeLine := by rw [← Paired.length rel]; exact z
  refine call_meetsIn PySem.F.slot_dict_pop dd.typeIs PySem.F.entry_dict_pop (PySem.F.args_dict_pop_2 _ _) (meetsH_dict_pop (tupleKind (mixKind X.prog X.w)) a b hd [] (.inl rfl))
    ⟨tupleKind_room_in1 (by omega), k, xs', key_of I.hok hb, dd, hz, fun p hp h' dd' hs => ?_, fun hn => ?_⟩
  · have r := rel.val k
    rw [hp, hv] at r
    obtain ⟨o, es, ep, hq, h2, h3, h4, _, h5⟩ := dd'
    have I2 : Inv X pins σ (upd H a (.dT (dropK kvs k))) { s with heap := h', toks := s.toks + (tupleKind (mixKind X.prog X.w)).draws k } :=
      d_write I (by rw [ha]; exact True.intro) hs ⟨o, hq⟩ ⟨Nat.le_trans (dropK_le kvs k) z, hd, _, (DX.KT_drop k rel).keeps (fun c ys ec => (by rw [upd_ne (ne_of ec ha (fun z => nomatch z))]; exact ec)), o, es, ep, hq, h2, h3, h4, h5⟩
    show EP X pins σ Q p.2 _
    exact ⟨d, _, I2, r, q1⟩
  · have r := rel.val k
    rw [hn, hv] at r
    exact (show False from r).elim
def mPutPop (i j : Nat) (me mv : M) : MS := fun ρ => (mv ρ).st ρ fun v => match ρ[i]?, ρ[j]? with
  | some (some (.own (.dict kvs))), some (some (.own (.dict ls))) => if allT kvs = true ∧ kvs.length < sizeLine ∧ allT ls = true ∧ i ≠ j then (me ρ).st ρ fun k => match k with
      | .tuple ks => if inD.keyOk ks = true then (match dfind ls (.tuple ks) with
          | some (.tuple zs) => if inD.keyOk zs = true then .next ((ρ.set i (some (.own (.dict (dputK kvs (.tuple zs) v))))).set j (some (.own (.dict (ddropK ls (.tuple ks)))))) else .stuck
          | _ => .stuck) else .stuck
      | _ => .stuck
    else .stuck
  | _, _ => .stuck
theorem ds_putPop {i j : Nat} {x y : Str} {b e : Expr} {me mv : M} {p2 p3 pos' pos apos cpos : Pos} (hu : X.A.units + 66 < cLine) (hN : X.N[i]? = some x) (hv : Vis X.env.scope x) (hNj : X.N[j]? = some y) (hvj : Vis X.env.scope y) (hk : DE Γ X b me) (he : DE Γ X e mv)
    (hcall : ∀ W, Takes X W → PE X (.Call (.Attribute (.Name y p3) "pop" apos) [b] [] cpos) (tBM X.K "dict" rPopT1 (tVar j) (tCons (rdE Γ X.K X.mg W me) tNil)))
    (hs : swapsWith e (some (.Subscript (.Name x p2) (.Call (.Attribute (.Name y p3) "pop" apos) [b] [] cpos) pos')) pos.line X.env = pure false := by rfl)
    (hd : (x == ("__debug__" : Str)) = false := by decide) (hcd : (x == ("__classdict__" : Str)) = false := by decide) : DS Γ X (.Assign [.Subscript (.Name x p2) (.Call (.Attribute (.Name y p3) "pop" apos) [b] [] cpos) pos'] e pos) (mPutPop i j me mv) :=
  ⟨fun W tk => ps_imp (ps_dput (by omega) (pe_var hN hv hd hcd) (hcall W tk) (he.run W tk) hs) fun E σ H ⟨B, ρ, ⟨G, R⟩, h⟩ => PostS.bind R h fun d v G1 H1 R1 r1 q1 => by
    split at q1
    · rename_i kvs ls e ej
      obtain ⟨⟨h1, h2, h3, hij⟩, q1⟩ := PostS.ite q1
      obtain ⟨a, ks, e1, ha, hg, rr⟩ := R1.r.ownT e h1
      obtain ⟨aj, kj, ej1, haj, hgj, rrj⟩ := R1.r.ownT ej h3
      refine ⟨.ref a, e1, .ref aj, ej1, .inr (.inr (.inl ⟨rfl, .inr ⟨_, haj⟩⟩)), PostS.bindX R1 q1 fun k u G2 H2 x2 R2 r2 q2 => ?_⟩
      split at q2
      · rename_i xs
        obtain ⟨h4, q2⟩ := PostS.ite q2
        obtain ⟨b', xs, rfl, rfl, hb'⟩ := key_tup r2 h4
        obtain ⟨a', ks', e1', ha', hg', rr'⟩ := R2.r.ownT e h1
        rw [e1] at e1'
        cases e1'
        obtain ⟨aj', kj', ej1', haj', hgj', rrj'⟩ := R2.r.ownT ej h3
        rw [ej1] at ej1'
        cases ej1'
        rcases rrj'.find xs with ⟨_, e2⟩ | ⟨z, d2, e5, e2, r3⟩
        · rw [e2] at q2; exact q2.elim
        · rw [e2] at q2
          split at q2
          · rename_i zs ez
            cases ez
            obtain ⟨h6, q2⟩ := PostS.ite q2
            obtain ⟨c, zs, rfl, rfl, hc⟩ := key_tup r3 h6
            have hne : a ≠ aj := fun z => R2.r.apart i j _ _ _ hij e ej e1 (by rw [z]; exact ej1)
            have R3 := R2.mutate (o' := .dT (dropK kj' (sK xs))) (d' := .dict (ddropK ls (.tuple (xs.map PyData.str)))) ej ej1 (.inr (.inl ⟨_, _, rfl, rfl, rrj'.drop xs⟩))
            have hi3 : (ρ.set j (some (.own (.dict (ddropK ls (.tuple (xs.map PyData.str)))))))[i]? = some (some (.own (.dict kvs))) := by
              rw [List.getElem?_set_ne (Ne.symm hij)]; exact e
            have R4 := R3.mutate (o' := .dT (putK ks' (sK zs) v)) (d' := .dict (dputK kvs (.tuple (zs.map PyData.str)) d)) hi3 e1 (.inr (.inl ⟨_, _, rfl, rfl, rr'.put zs (r1.sm x2.g)⟩))
            refine ⟨aj, kj', sK xs, b', _, rfl, rfl, haj', R2.r.s _ _ hb', e5, a, _, rfl, .inr ⟨ks', sK zs, c, by rw [upd_ne hne]; exact ha', rfl, by rw [upd_ne (ne_of_none (hc) hgj')]; exact R2.r.s _ _ hc, by rw [rr'.len]; exact h2, rfl⟩, q2 σ _ ⟨G2, ?_⟩⟩
            rw [List.set_comm _ _ hij]
            exact R4
          · exact q2.elim
      · exact q2.elim
    · exact q1.elim⟩
end
end De
end

section
set_option Elab.async false
set_option linter.all false
set_option maxRecDepth 100000
/-! De9: dicts locked while they are walked; keys walked. -/
namespace De
open PySem PySem.Spec PyProof.Rows L2

def isDictO : HO → Prop
  | .dT _ | .dK _ => True
  | _ => False
/-- the same, but for locks of dicts -/
def AltD (G G' : Hp) : Prop := ∀ b o, G b = some o → G' b = some o ∨ ∃ u, isDictO u ∧ (o = u ∨ ∃ z, o = .frz z u) ∧ Rd G' b u
theorem AltD.rd {G G' : Hp} (e : AltD G G') {b : Addr} {u : HO} (hu : ∀ z w, u ≠ .frz z w) (h : Rd G b u) : Rd G' b u := by
  rcases h with h | ⟨o, h⟩
  · rcases e _ _ h with k | ⟨w, _, rfl | ⟨z, rfl⟩, r⟩
    · exact .inl k
    · exact r
    · exact absurd rfl (hu _ _)
  · rcases e _ _ h with k | ⟨w, hw, rfl | ⟨z, k⟩, r⟩
    · exact .inr ⟨o, k⟩
    · exact hw.elim
    · cases k; exact r
theorem AltD.seqL {K : PySem.W.Frag} {G G' : Hp} (e : AltD G G') {a : Addr} {xs : List V} (h : SqL K G a xs) : SqL K G' a xs := by
  rcases h with h | h
  · exact .inl (e.rd (fun _ _ z => nomatch z) h)
  · exact .inr h
theorem AltD.seqT {K : PySem.W.Frag} {G G' : Hp} (e : AltD G G') {a : Addr} {xs : List V} (h : SqT K G a xs) : SqT K G' a xs := by
  rcases h with h | h
  · exact .inl (e.rd (fun _ _ z => by cases z) h)
  · exact .inr h
theorem AltD.lst {G G' : Hp} (e : AltD G G') {b : Addr} {xs : List V} (h : G b = some (.lst xs)) : G' b = some (.lst xs) := by
  rcases e _ _ h with k | ⟨u, hu, rfl | ⟨z, k⟩, _⟩
  · exact k
  · exact hu.elim
  · cases k
theorem AltD.tup {G G' : Hp} (e : AltD G G') {b : Addr} {o : HO} (ho : tupO o) (h : G b = some o) : G' b = some o := by
  rcases e _ _ h with k | ⟨u, hu, rfl | ⟨z, rfl⟩, _⟩
  · exact k
  · rcases ho with ⟨_, rfl⟩ | ⟨_, _, rfl⟩ <;> exact hu.elim
  · rcases ho with ⟨_, ho⟩ | ⟨_, _, ho⟩
    · cases ho
    · cases ho; exact hu.elim
theorem AltD.dT {G G' : Hp} (e : AltD G G') {b : Addr} {kvs : List (List Key × V)} (h : Rd G b (.dT kvs)) : Rd G' b (.dT kvs) := e.rd (fun _ _ z => by cases z) h
theorem AltD.dK {G G' : Hp} (e : AltD G G') {b : Addr} {kvs : List (Key × V)} (h : Rd G b (.dK kvs)) : Rd G' b (.dK kvs) := e.rd (fun _ _ z => by cases z) h
mutual
theorem Rp.alt {K : PySem.W.Frag} {G G' : Hp} (e : AltD G G') : ∀ {v : V} {d : D}, Rp K G v d → Rp K G' v d
  | _, _, .non => .non
  | _, _, .bl b => .bl b
  | _, _, .int i => .int i
  | _, _, .str x => .str x
  | _, _, .lst h a => .lst (e.lst h) (RpAll.alt e a)
  | _, _, .scr h => .scr (e.seqL h)
  | _, _, .tup h p a => .tup (e.tup (mkT_tupO _ _ _) h) p (RpAll.alt e a)
  | _, _, .wtup h a => .wtup h a
  | _, _, .dct h a => .dct (e.dT h) (RpT.alt e a)
  | _, _, .dck h z a => .dck (e.dK h) z (RpK.alt e a)
  | _, _, .lse h a => .lse (e.seqT h) (RpAll.alt e a)
theorem RpAll.alt {K : PySem.W.Frag} {G G' : Hp} (e : AltD G G') : ∀ {vs : List V} {ds : List D}, RpAll K G vs ds → RpAll K G' vs ds
  | _, _, .nil => .nil
  | _, _, .cons h a => .cons (Rp.alt e h) (RpAll.alt e a)
theorem RpT.alt {K : PySem.W.Frag} {G G' : Hp} (e : AltD G G') : ∀ {vs : List (List Key × V)} {ds : List (D × D)}, RpT K G vs ds → RpT K G' vs ds
  | _, _, .nil => .nil
  | _, _, .cons h a => .cons (Rp.alt e h) (RpT.alt e a)
theorem RpK.alt {K : PySem.W.Frag} {G G' : Hp} (e : AltD G G') : ∀ {vs : List (Key × V)} {ds : List (D × D)}, RpK K G vs ds → RpK K G' vs ds
  | _, _, .nil => .nil
  | _, _, .cons h a => .cons (Rp.alt e h) (RpK.alt e a)
end
theorem OwnO.alt {K : PySem.W.Frag} {G G' : Hp} (e : AltD G G') {o : HO} {d : D} (h : OwnO K G o d) : OwnO K G' o d := by
  rcases h with ⟨xs, ds, a, b, c⟩ | ⟨xs, ds, a, b, c⟩ | ⟨xs, ds, a, b, z, c⟩
  · exact .inl ⟨xs, ds, a, b, c.alt e⟩
  · exact .inr (.inl ⟨xs, ds, a, b, c.alt e⟩)
  · exact .inr (.inr ⟨xs, ds, a, b, z, c.alt e⟩)
theorem DictO.alt {K : PySem.W.Frag} {G G' : Hp} (e : AltD G G') {o : HO} {d : D} (h : DictO K G o d) : DictO K G' o d := by
  rcases h with ⟨xs, ds, a, b, c⟩ | ⟨xs, ds, a, b, z, c⟩
  · exact .inl ⟨xs, ds, a, b, c.alt e⟩
  · exact .inr ⟨xs, ds, a, b, z, c.alt e⟩
theorem DictO.isD {K : PySem.W.Frag} {G : Hp} {o : HO} {d : D} (h : DictO K G o d) : isDictO o ∧ Mut (some o) := by
  rcases h with ⟨_, _, rfl, _⟩ | ⟨_, _, rfl, _⟩ <;> exact ⟨True.intro, True.intro⟩
theorem altD_lock {G : Hp} {a : Addr} {u : HO} (ha : G a = some u) (hd : isDictO u) (od : Obj) : AltD G (upd G a (.frz od u)) := fun b o h => by
  by_cases e : b = a
  · subst e
    rw [ha] at h
    cases h
    exact .inr ⟨u, hd, .inl rfl, .inr ⟨od, upd_same⟩⟩
  · exact .inl (by rw [upd_ne e]; exact h)
theorem altD_unlock {G : Hp} {a : Addr} {u : HO} {od : Obj} (ha : G a = some (.frz od u)) (hd : isDictO u) : AltD G (upd G a u) := fun b o h => by
  by_cases e : b = a
  · subst e
    rw [ha] at h
    cases h
    exact .inr ⟨u, hd, .inr ⟨od, rfl⟩, .inl upd_same⟩
  · exact .inl (by rw [upd_ne e]; exact h)
theorem not_frz {u : HO} (hd : isDictO u) {z : Obj} {w : HO} : u ≠ .frz z w := fun e => by subst e; exact hd
theorem isDictO.pl {u : HO} (h : isDictO u) : plainO u := by
  cases u <;> first | exact plain_dT | exact plain_dK | exact h.elim
theorem frz_nt {od : Obj} {u : HO} : noTbl (.frz od u) := fun ps z => by cases z
theorem SameN.unlock {H H' : Hp} {a : Addr} {u : HO} {od : Obj} (hH : H a = some u) (pu : plainO u) (h : SameN Γ (upd H a (.frz od u)) H') : SameN Γ H (upd H' a u) := by
  refine ⟨fun b o e n => ?_, fun b e => ?_, fun b ps e => ?_, fun t => ?_⟩
  · by_cases z : b = a
    · subst z; rw [hH] at e; cases e; exact upd_same
    · rw [upd_ne z]; exact h.k b o (by rw [upd_ne z]; exact e) n
  · have z : b ≠ a := fun z => by subst z; rw [upd_same] at e; cases e
    rw [upd_ne z] at e
    have := h.f b e
    rwa [upd_ne z] at this
  · have z : b ≠ a := fun z => by subst z; rw [hH] at e; cases e; exact pu.1 ps rfl
    rw [upd_ne z]
    exact h.b b ps (by rw [upd_ne z]; exact e)
  · exact tabs_upd (h.t (tabs_upd t hH pu)) (h.k a _ upd_same frz_nt) plain_frz
theorem RelE.lockA {K : PySem.W.Frag} {G : Hp} {ρ : Rho} {σ : L2.St} {H : Hp} {a : Addr} {u : HO} (R : RelE Γ K G ρ σ H) (ha : G a = some u) (hd : isDictO u) (od : Obj) : RelE Γ K (upd G a (.frz od u)) ρ σ (upd H a (.frz od u)) := by
  have al := altD_lock ha hd od
  refine ⟨fun b o h => ?_, ⟨R.d.1.updO frz_nt, tabs_upd R.d.2 (R.s _ _ ha) hd.pl⟩, R.len, fun i x h => ?_, R.apart⟩
  · by_cases e : b = a
    · subst e; rw [upd_same] at h ⊢; exact h
    · rw [upd_ne e] at h ⊢; exact R.s _ _ h
  · obtain ⟨v, h1, h2⟩ := R.at_ i x h
    refine ⟨v, h1, ?_⟩
    cases x with
    | dat d => exact Rp.alt al h2
    | own d =>
      obtain ⟨b, o, rfl, hb, hg, q⟩ := h2
      have ne : b ≠ a := fun z => by subst z; rw [ha] at hg; cases hg
      exact ⟨b, o, rfl, by rw [upd_ne ne]; exact hb, by rw [upd_ne ne]; exact hg, q.alt al⟩
    | raw w => exact h2
    | lck d =>
      obtain ⟨b, z, w, rfl, hg, q⟩ := h2
      have ne : b ≠ a := fun e => by subst e; rw [ha] at hg; cases hg; exact hd
      exact ⟨b, z, w, rfl, by rw [upd_ne ne]; exact hg, q.alt al⟩
theorem RelE.setLck {K : PySem.W.Frag} {G : Hp} {ρ : Rho} {σ : L2.St} {H : Hp} {i : Nat} {d : D} {a : Addr} {z : Obj} {u : HO} (R : RelE Γ K G ρ σ H) (h1 : σ[i]? = some (some (.ref a))) (hg : G a = some (.frz z u)) (q : DictO K G u d) : RelE Γ K G (ρ.set i (some (.lck d))) σ H := by
  refine ⟨R.s, R.d, by simp [R.len], fun j x hj => ?_, fun j k e e' v' hjk h2 h3 h4 => ?_⟩
  · rcases get_set hj with ⟨rfl, e, hl⟩ | ⟨hne, hj⟩
    · cases e; exact ⟨_, h1, a, z, u, rfl, hg, q⟩
    · exact R.at_ j x hj
  · rcases get_set h2 with ⟨rfl, e, hl⟩ | ⟨hn1, h2⟩
    · cases e
    · rcases get_set h3 with ⟨rfl, e, hl⟩ | ⟨hn2, h3⟩
      · cases e
      · exact R.apart j k e e' v' hjk h2 h3 h4
/-- behind the lock -/
theorem GExt.unlock {G H G' H' : Hp} {a : Addr} {u : HO} {od : Obj} (pu : plainO u) (ha : G a = some u) (hH : H a = some u) (x : GExt Γ (upd G a (.frz od u)) (upd H a (.frz od u)) G' H') : GExt Γ G H (upd G' a u) (upd H' a u) := by
  refine ⟨SameN.unlock hH pu x.h, fun b o h => ?_, fun b o h => ?_, fun b o h => ?_⟩
  · by_cases e : b = a
    · subst e; rw [ha] at h; cases h; exact upd_same
    · rw [upd_ne e]; exact x.g b o (by rw [upd_ne e]; exact h)
  · by_cases e : b = a
    · subst e; rw [upd_same] at h ⊢; exact h
    · rw [upd_ne e] at h ⊢; exact x.s b o h
  · by_cases e : b = a
    · subst e; rw [upd_same] at h; cases h; exact .inl ha
    · rw [upd_ne e] at h
      rcases x.n b o h with k | ⟨no, k | k⟩
      · rw [upd_ne e] at k; exact .inl k
      · rw [upd_ne e] at k; exact .inr ⟨no, .inl k⟩
      · exact .inr ⟨no, .inr k⟩
/-- slot i's dict, locked -/
def lckS (i : Nat) (ρ : Rho) : Option (Rho × Bool) := match ρ[i]? with
  | some (some (.dat (.dict kvs))) => if allT kvs = true then some (ρ.set i (some (.lck (.dict kvs))), false) else none
  | some (some (.own (.dict kvs))) => if allT kvs = true then some (ρ.set i (some (.lck (.dict kvs))), true) else none
  | _ => none
def lckR (i : Nat) (m : M) (ok : D → Bool) : M := fun ρ => match lckS i ρ with
  | some (ρ', o) => (m ρ').plain.bind fun r => if (!o || ok r) = true then .ok r else .stuck
  | none => .stuck
/-- what a lock of slot i does -/
theorem lock_core {K : PySem.W.Frag} {G : Hp} {ρ ρ' : Rho} {b : Bool} {σ : L2.St} {H : Hp} {i : Nat} (R : RelE Γ K G ρ σ H) (h : lckS i ρ = some (ρ', b)) :
    (b = false ∧ RelE Γ K G ρ' σ H) ∨ ∃ a u, H a = some u ∧ isDictO u ∧ Mut (some u) ∧ (b = false → G a = some u) ∧ (b = true → G a = none ∧ ∃ d, OwnO K G u d) ∧ ∀ od, RelE Γ K (upd G a (.frz od u)) ρ' σ (upd H a (.frz od u)) := by
  unfold lckS at h
  split at h
  · rename_i kvs e
    split at h
    · rename_i ht
      cases h
      obtain ⟨v, h1, r⟩ := R.at_ i _ e
      obtain ⟨a, ks, rfl, hd, rr⟩ := Rp.dictT r ht
      rcases hd with hd | ⟨z, hd⟩
      · refine .inr ⟨a, _, R.s _ _ hd, True.intro, True.intro, fun _ => hd, (fun z => by cases z), fun od => ?_⟩
        exact (R.lockA hd True.intro od).setLck h1 upd_same (.inl ⟨ks, kvs, rfl, rfl, rr.alt (altD_lock hd True.intro od)⟩)
      · exact .inl ⟨rfl, R.setLck h1 hd (.inl ⟨ks, kvs, rfl, rfl, rr⟩)⟩
    · cases h
  · rename_i kvs e
    split at h
    · rename_i ht
      cases h
      obtain ⟨a, o, h1, ha, hg, q, RV⟩ := R.view e
      obtain ⟨ks, rfl, rr⟩ := q.dictT ht
      refine .inr ⟨a, _, ha, True.intro, True.intro, (fun z => by cases z), fun _ => ⟨hg, _, q⟩, fun od => ?_⟩
      have R2 := RV.lockA upd_same True.intro od
      have e2 : upd (upd G a (.dT ks)) a (.frz od (.dT ks)) = upd G a (.frz od (.dT ks)) := by
        funext b
        by_cases z : b = a
        · subst z; rw [upd_same, upd_same]
        · rw [upd_ne z, upd_ne z, upd_ne z]
      rw [e2] at R2
      have sm : AltD G (upd G a (.frz od (.dT ks))) := fun b u z => .inl (by rw [upd_ne (ne_of_none z hg)]; exact z)
      have R3 := R2.setLck (i := i) (d := .dict kvs) h1 upd_same (.inl ⟨ks, kvs, rfl, rfl, rr.alt sm⟩)
      unfold viewR at R3
      rw [List.set_set] at R3
      exact R3
    · cases h
  · cases h
theorem GExt.unlockO {G H G' H' : Hp} {a : Addr} {u : HO} {od : Obj} (pu : plainO u) (hg : G a = none) (hH : H a = some u) (x : GExt Γ (upd G a (.frz od u)) (upd H a (.frz od u)) G' H') : GExt Γ G H (unG G' a) (upd H' a u) := by
  refine ⟨SameN.unlock hH pu x.h, fun b o h => ?_, fun b o h => ?_, fun b o h => ?_⟩
  · have e : b ≠ a := ne_of_none h hg
    rw [unG_ne e]
    exact x.g b o (by rw [upd_ne e]; exact h)
  · by_cases e : b = a
    · subst e; rw [unG_same] at h; cases h
    · rw [unG_ne e] at h; rw [upd_ne e]; exact x.s b o h
  · by_cases e : b = a
    · subst e; rw [unG_same] at h; cases h
    · rw [unG_ne e] at h
      rcases x.n b o h with k | ⟨no, k | k⟩
      · rw [upd_ne e] at k; exact .inl k
      · rw [upd_ne e] at k; exact .inr ⟨no, .inl k⟩
      · exact .inr ⟨no, .inr k⟩
theorem un_tup2 {G' : Hp} {a : Addr} {u : HO} {od : Obj} (hd : isDictO u) (h : G' a = some (.frz od u)) : ∀ b o, tupO o → G' b = some o → unG G' a b = some o := fun b o ho z => by
  have e : b ≠ a := fun e => by
    subst e; rw [h] at z; cases z
    rcases ho with ⟨_, ho⟩ | ⟨_, _, ho⟩
    · cases ho
    · cases ho; exact hd
  rw [unG_ne e]; exact z
def tLk (t : TE) : TE := fun σ H Q => tLockE t σ H Q ∨ t σ H Q
section
variable {X : Cx}
theorem pe_lk {e : Expr} {t : TE} (h : PE X e t) : PE X e (tLk t) := ⟨fun pins s σ H Q I q => by
  rcases q with q | q
  · exact (pe_lock h).run pins s σ H Q I q
  · exact h.run pins s σ H Q I q⟩
theorem rdE_lock {K : PySem.W.Frag} {mg : Str → Option Value} {W : WX} {m : M} {i : Nat} {σ : L2.St} {H : Hp} {Q : VK} (h : rdE Γ K mg W (lckR i m flat) σ H Q) : tLk (rdE Γ K mg W m) σ H Q := by
  obtain ⟨G, ρ, R, h⟩ := h
  unfold lckR at h
  cases e : lckS i ρ with
  | none => rw [e] at h; exact h.elim
  | some p =>
    obtain ⟨ρ', b⟩ := p
    rw [e] at h
    dsimp only at h
    have hok : ∃ r, m ρ' = .ok r ∧ (b = false ∨ flat r = true) ∧ Post Γ K mg W G σ H Q (.ok r) := by
      cases em : m ρ' with
      | ok r =>
        rw [em] at h
        simp only [Res.plain, Res.bind] at h
        obtain ⟨hc, h⟩ := Post.ite h
        refine ⟨r, rfl, ?_, h⟩
        cases b
        · exact .inl rfl
        · exact .inr hc
      | exc c => rw [em] at h; exact h.elim
      | stuck => rw [em] at h; exact h.elim
    obtain ⟨r, em, hb, h9⟩ := hok
    clear h
    rcases lock_core R e with ⟨rfl, R'⟩ | ⟨a, u, hH, hd, mu, g1, g2, R'⟩
    · refine .inr ⟨G, ρ', R', ?_⟩
      rw [em]; exact h9
    · refine .inl ⟨a, u, hH, mu, fun od => ⟨_, ρ', R' od, ?_⟩⟩
      rw [em]
      intro v G' H' x rp
      have hG' : G' a = some (.frz od u) := x.g _ _ upd_same
      refine ⟨x.h.k _ _ upd_same frz_nt, ?_⟩
      cases b with
      | false => exact h9 v _ _ (GExt.unlock hd.pl (g1 rfl) hH x) (rp.alt (altD_unlock hG' hd))
      | true =>
        rcases hb with hb | hb
        · cases hb
        · exact h9 v _ _ (GExt.unlockO hd.pl (g2 rfl).1 hH x) (Rp.strip (un_tup2 hd hG') r v hb rp)
theorem de_lckK (i : Nat) {e : Expr} {m : M} (h : DE Γ X e m) : DE Γ X e (lckR i m flat) := ⟨fun W tk => pe_imp (pe_lk (h.run W tk)) fun σ H Q q => rdE_lock q⟩
theorem rdO_lock {K : PySem.W.Frag} {mg : Str → Option Value} {W : WX} {m : M} {i : Nat} {σ : L2.St} {H : Hp} {Q : VK} (h : rdO Γ K mg W (lckR i m flatO) σ H Q) :
    (∃ d u, H d = some u ∧ Mut (some u) ∧ ∀ od, rdO Γ K mg W m σ (upd H d (.frz od u)) fun v H' => H' d = some (.frz od u) ∧ Q v (upd H' d u)) ∨ rdO Γ K mg W m σ H Q := by
  obtain ⟨G, ρ, R, h⟩ := h
  unfold lckR at h
  cases e : lckS i ρ with
  | none => rw [e] at h; exact h.elim
  | some p =>
    obtain ⟨ρ', b⟩ := p
    rw [e] at h
    dsimp only at h
    have hok : ∃ r, m ρ' = .ok r ∧ (b = false ∨ flatO r = true) ∧ PostO Γ K mg W G σ H Q (.ok r) := by
      cases em : m ρ' with
      | ok r =>
        rw [em] at h
        simp only [Res.plain, Res.bind] at h
        by_cases hc : (!b || flatO r) = true
        · rw [if_pos hc] at h
          refine ⟨r, rfl, ?_, h⟩
          cases b
          · exact .inl rfl
          · exact .inr hc
        · rw [if_neg hc] at h; exact h.elim
      | exc c => rw [em] at h; exact h.elim
      | stuck => rw [em] at h; exact h.elim
    obtain ⟨r, em, hb, h9⟩ := hok
    clear h
    rcases lock_core R e with ⟨rfl, R'⟩ | ⟨a, u, hH, hd, mu, g1, g2, R'⟩
    · refine .inr ⟨G, ρ', R', ?_⟩
      rw [em]; exact h9
    · refine .inl ⟨a, u, hH, mu, fun od => ⟨_, ρ', R' od, ?_⟩⟩
      rw [em]
      intro c o G' H' x n1 n2 hc q
      have hG' : G' a = some (.frz od u) := x.g _ _ upd_same
      have ne : c ≠ a := fun z => by subst z; rw [hG'] at n2; cases n2
      refine ⟨x.h.k _ _ upd_same frz_nt, ?_⟩
      have n1' : H c = none := by rw [upd_ne ne] at n1; exact n1
      cases b with
      | false => exact h9 c o _ _ (GExt.unlock hd.pl (g1 rfl) hH x) n1' (by rw [upd_ne ne]; exact n2) (by rw [upd_ne ne]; exact hc) (q.alt (altD_unlock hG' hd))
      | true =>
        rcases hb with hb | hb
        · cases hb
        · exact h9 c o _ _ (GExt.unlockO hd.pl (g2 rfl).1 hH x) n1' (by rw [unG_ne ne]; exact n2) (by rw [upd_ne ne]; exact hc) (q.strip (un_tup2 hd hG') hb)
theorem do_lckK (i : Nat) {e : Expr} {m : M} (h : DO Γ X e m) : DO Γ X e (lckR i m flatO) := ⟨fun W tk => pe_imp (pe_lk (h.run W tk)) fun σ H Q q => by
  rcases rdO_lock q with q | q
  · exact .inl q
  · exact .inr q⟩

/-! ### keys -/
/-- a key that can be told as a datum -/
def keyD : D → Bool
  | .tuple ds => keyish ds
  | _ => true
/-- the keys of slot i's locked dict -/
def mKeys (i : Nat) : MI := fun ρ => match ρ[i]? with
  | some (some (.lck (.dict kvs))) => if kvs.length ≤ sizeLine ∧ (kvs.all fun kv => keyD kv.1) = true then .ok (kvs.map (·.1)) else .stuck
  | _ => .stuck
theorem RpAll.keysT {K : PySem.W.Frag} {G : Hp} : ∀ k : List Key, RpAll K G (k.map kV) (k.map kD)
  | [] => .nil
  | .inl i :: k => .cons (.int i) (RpAll.keysT k)
  | .inr x :: k => .cons (.str x) (RpAll.keysT k)
/-- a tuple of the heap is taken into the ground -/
theorem GExt.adopt {G H : Hp} {q : Addr} {xs : List V} (s : Same G H) (h : H q = some (.tup xs)) : GExt Γ G H (upd G q (.tup xs)) H := by
  refine ⟨SameN.refl _, fun b o e => ?_, fun b o e => ?_, fun b o e => ?_⟩
  · by_cases z : b = q
    · subst z
      have := s _ _ e
      rw [h] at this
      rw [upd_same]; exact this
    · rw [upd_ne z]; exact e
  · by_cases z : b = q
    · subst z; rw [upd_same] at e; cases e; exact h
    · rw [upd_ne z] at e; exact s _ _ e
  · by_cases z : b = q
    · subst z; rw [upd_same] at e; cases e; exact .inr ⟨plain_tup.1, .inr ⟨xs, rfl⟩⟩
    · rw [upd_ne z] at e; exact .inl e
theorem itOk_keysT {K : PySem.W.Frag} {G : Hp} {a : Addr} {z : Obj} {kvs : List (List Key × V)} {ds : List (D × D)} (h : G a = some (.frz z (.dT kvs))) (r : RpT K G kvs ds) (hl : ds.length ≤ sizeLine) (hk0 : (ds.all fun kv => keyD kv.1) = true) : ItOk Γ K (Itkt a z kvs) G (ds.map (·.1)) := by
  have l := r.len
  refine ⟨by simpa using hl, fun i H s hi => ⟨s _ _ h, by rw [l]; simpa using hi⟩, fun i H s hi => ⟨s _ _ h, by rw [l]; simpa using hi⟩, fun i G2 H x H' d s1 s2 hd y => ?_⟩
  obtain ⟨rfl, k, v, q, hk, rfl, hq⟩ := y
  obtain ⟨d2, h1, _⟩ := r.at_ hk
  rw [List.getElem?_map, h1] at hd
  cases hd
  have hk1 : keyish (k.map kD) = true := List.all_eq_true.mp hk0 _ (List.mem_of_getElem? h1)
  refine ⟨_, GExt.adopt s2 hq, .tup (o := { cls := .type "tuple", data := .seq #[] }) ?_ (plain_new _) (RpAll.keysT k)⟩
  rw [hk1]
  exact upd_same
theorem itOk_keysK {K : PySem.W.Frag} {G : Hp} {a : Addr} {z : Obj} {kvs : List (Key × V)} {ds : List (D × D)} (h : G a = some (.frz z (.dK kvs))) (r : RpK K G kvs ds) (hl : ds.length ≤ sizeLine) : ItOk Γ K (Itk a z kvs) G (ds.map (·.1)) := by
  have l := r.len
  refine ⟨by simpa using hl, fun i H s hi => ⟨s _ _ h, by rw [l]; simpa using hi⟩, fun i H s hi => ⟨s _ _ h, by rw [l]; simpa using hi⟩, fun i G2 H x H' d s1 s2 hd y => ?_⟩
  obtain ⟨rfl, k, v, hk, rfl⟩ := y
  obtain ⟨d2, h1, _⟩ := r.at_ hk
  rw [List.getElem?_map, h1] at hd
  cases hd
  refine ⟨_, GExt.refl s2, ?_⟩
  rcases k with k | k
  · exact .int k
  · exact .str k
theorem di_keys {i : Nat} {x : Str} {tg : Expr} {pos : Pos} (hN : X.N[i]? = some x) (hv : Vis X.env.scope x) (hd : (x == ("__debug__" : Str)) = false := by decide) (hcd : (x == ("__classdict__" : Str)) = false := by decide) : DI Γ X tg (.Name x pos) (mKeys i) :=
  ⟨fun W tk => pi_imp (pi_keys (pe_var hN hv hd hcd)) fun σ H Q ⟨G, ρ, R, h⟩ => by
    unfold mKeys at h
    split at h
    · rename_i kvs e
      obtain ⟨v, h1, a, z, u, rfl, hg, q⟩ := R.at_ i _ e
      obtain ⟨⟨hl, hk0⟩, h⟩ := PostI.ite h
      refine ⟨.ref a, h1, a, z, rfl, ?_⟩
      rcases q with ⟨ks, ds, rfl, e2, rr⟩ | ⟨ks, ds, rfl, e2, hz, rr⟩
      · cases e2
        exact .inr ⟨ks, R.s _ _ hg, h _ G H (GExt.refl R.s) (itOk_keysT hg rr hl hk0)⟩
      · cases e2
        exact .inl ⟨ks, R.s _ _ hg, h _ G H (GExt.refl R.s) (itOk_keysK hg rr hl)⟩
    · exact h.elim⟩
end
end De
end

section
set_option Elab.async false
set_option linter.all false
set_option maxRecDepth 100000
/-! De10: comprehensions stored under a lock; x.pop(0); parallel assignment; own arguments. -/
namespace De
open PySem PySem.Spec PyProof.Rows L2
section
variable {X : Cx}
def tLkS (t : TS) : TS := fun D σ H => tLock t D σ H ∨ t D σ H
theorem ps_lk {st : Stmt} {t : TS} (h : PS X st t) : PS X st (tLkS t) := ⟨fun pins s σ H D I q => by
  rcases q with q | q
  · exact (ps_lock h).run pins s σ H D I q
  · exact h.run pins s σ H D I q⟩
theorem tLc_lock {K : PySem.W.Frag} {mg : Str → Option Value} {W W0 : WX} {mi : MI} {t : Tg} {vs : List Nat} {mt : MT} {me : M} {i l : Nat} {σ : L2.St} {H : Hp} {D : Ends} (h0 : ∀ c d σ H, ¬ W0 c d σ H) (hs : ∀ j ∈ t.slots, j ∈ vs)
    (h : rdO Γ K mg W (lckR l (mLc mi t vs mt me) flatO) σ H (fun x H1 => D.nx (σ.set i (some x)) H1)) : tLkS (tAsg (tLc (rdI Γ K mg W mi) (rdG Γ K t) (rdT Γ K mg W0 mt) (rdE Γ K mg W0 me) vs) (gName i)) D σ H := by
  rcases rdO_lock h with ⟨d, u, h1, h2, h3⟩ | h
  · exact .inl ⟨d, u, h1, h2, fun od => tLc_of h0 hs (h3 od)⟩
  · exact .inr (tLc_of h0 hs h)
theorem ds_setLcK {i l : Nat} {y : Str} {py : Pos} {elt tg iter : Expr} {ifs : List Expr} {scope : Scope} {own : List (Str × Nat)} {pos spos : Pos} {mi : MI} {t : Tg} {mt : MT} {me : M} (hc : X.calm = true) (hN : X.N.Nodup) (hy : X.N[i]? = some y) (hyl : X.env.scope.names.lookup y = some .local)
    (hsw : swapsWith (.ListComp elt [⟨tg, iter, ifs, 0⟩] scope pos) (some (.Name y py)) spos.line X.env = pure true) (hi : DI Γ X tg iter mi) (ok : blkC X.N X.env.scope scope own = true) (hs : ∀ j ∈ t.slots, j ∈ own.map (·.2))
    (hg : ∀ (s : Shared) (H : Hp) (C : Addr) (cl : List (Str × Addr)) (fp : List Addr), DG Γ (X.blk s H scope (compEnvC scope cl C X.env) fp) tg t) (ht : ∀ (s : Shared) (H : Hp) (C : Addr) (cl : List (Str × Addr)) (fp : List Addr), DTs Γ (X.blk s H scope (compEnvC scope cl C X.env) fp) ifs mt)
    (he : ∀ (s : Shared) (H : Hp) (C : Addr) (cl : List (Str × Addr)) (fp : List Addr), DE Γ (X.blk s H scope (compEnvC scope cl C X.env) fp) elt me) (hf : ∀ x, foldedSetIterable iter X.env x = pure x := by intro _; rfl) :
    DS Γ X (.Assign [.Name y py] (.ListComp elt [⟨tg, iter, ifs, 0⟩] scope pos) spos) (mSet i (lckR l (mLc mi t (own.map (·.2)) mt me) flatO)) :=
  ⟨fun W tk => ps_imp (ps_lk (ps_setLc hc hN hy hyl hsw (hi.run W tk) (blkOk_by ok) (fun s H C cl fp => (hg s H C cl fp).run) (fun s H C cl fp => (ht s H C cl fp).run W0 takes0) (fun s H C cl fp => (he s H C cl fp).run W0 takes0) hf)) fun E σ H ⟨B, ρ, ⟨G, R⟩, h⟩ =>
    tLc_lock (fun _ _ _ _ z => z) hs (PostS.bindO R h fun d a o G' H' R' n1 n2 ha q k => k _ H' ⟨upd G' a o, (R'.hold q.nt (R.x.h.free n1) n2 ha fun j e hj => R.fresh n1 j e hj).setDat i (q.rp n2)⟩)⟩
theorem ds_setLcOK {i l : Nat} {y : Str} {py : Pos} {elt tg iter : Expr} {ifs : List Expr} {scope : Scope} {own : List (Str × Nat)} {pos spos : Pos} {mi : MI} {t : Tg} {mt : MT} {me : M} (hc : X.calm = true) (hN : X.N.Nodup) (hy : X.N[i]? = some y) (hyl : X.env.scope.names.lookup y = some .local)
    (hsw : swapsWith (.ListComp elt [⟨tg, iter, ifs, 0⟩] scope pos) (some (.Name y py)) spos.line X.env = pure true) (hi : DI Γ X tg iter mi) (ok : blkC X.N X.env.scope scope own = true) (hs : ∀ j ∈ t.slots, j ∈ own.map (·.2))
    (hg : ∀ (s : Shared) (H : Hp) (C : Addr) (cl : List (Str × Addr)) (fp : List Addr), DG Γ (X.blk s H scope (compEnvC scope cl C X.env) fp) tg t) (ht : ∀ (s : Shared) (H : Hp) (C : Addr) (cl : List (Str × Addr)) (fp : List Addr), DTs Γ (X.blk s H scope (compEnvC scope cl C X.env) fp) ifs mt)
    (he : ∀ (s : Shared) (H : Hp) (C : Addr) (cl : List (Str × Addr)) (fp : List Addr), DE Γ (X.blk s H scope (compEnvC scope cl C X.env) fp) elt me) (hf : ∀ x, foldedSetIterable iter X.env x = pure x := by intro _; rfl) :
    DS Γ X (.Assign [.Name y py] (.ListComp elt [⟨tg, iter, ifs, 0⟩] scope pos) spos) (mSetO i (lckR l (mLc mi t (own.map (·.2)) mt me) flatO)) :=
  ⟨fun W tk => ps_imp (ps_lk (ps_setLc hc hN hy hyl hsw (hi.run W tk) (blkOk_by ok) (fun s H C cl fp => (hg s H C cl fp).run) (fun s H C cl fp => (ht s H C cl fp).run W0 takes0) (fun s H C cl fp => (he s H C cl fp).run W0 takes0) hf)) fun E σ H ⟨B, ρ, ⟨G, R⟩, h⟩ =>
    tLc_lock (fun _ _ _ _ z => z) hs (PostS.bindO R h fun d a o G' H' R' n1 n2 ha q k => k _ H' ⟨G', R'.setOwn i ha n2 q (R.x.h.free n1) fun j e _ hj => R.fresh n1 j e hj⟩)⟩

/-! ### y = x.pop(0), x one's own list -/
def mPop0 (i j : Nat) : MS := fun ρ => match ρ[j]? with
  | some (some (.own (.list (d :: ds)))) => if i ≠ j then .next ((ρ.set j (some (.own (.list ds)))).set i (some (.dat d))) else .stuck
  | _ => .stuck
theorem ds_pop0 {i j : Nat} {x : Str} {e : Expr} {pos pos' : Pos} (hN : X.N.Nodup) (hi : X.N[i]? = some x) (hx : Loc X.env.scope x) (hcall : PE X e (tBM X.K "list" rPopAt (tVar j) (tCons (tC (.int 0)) tNil)))
    (hs : swapsWith e (some (.Name x pos')) pos.line X.env = pure false := by rfl)
    (hf : X.fn x = true ∨ X.env.scope.names.lookup x = some .local := by first | exact .inl rfl | exact .inr rfl | assumption) : DS Γ X (.Assign [.Name x pos'] e pos) (mPop0 i j) :=
  ⟨fun W tk => ps_imp (ps_set hN hi hx hcall hs hf) fun E σ H ⟨B, ρ, ⟨G, R⟩, h⟩ => by
    unfold mPop0 at h
    split at h
    · rename_i d ds e
      obtain ⟨hij, h⟩ := PostS.ite h
      obtain ⟨a, xs, h1, ha, hg, r⟩ := R.r.ownL e
      cases r with
      | @cons v vs _ _ r1 r2 =>
        refine ⟨.ref a, h1, .inl ⟨rfl, _, .of ha⟩, a, _, 0, 0, v, rfl, rfl, ha, by decide, by decide, ?_, rfl, h _ _ ⟨G, ?_⟩⟩
        · unfold seqIndex?
          simp
        · exact (R.mutate e h1 (.inl ⟨vs, ds, rfl, rfl, r2⟩)).setDat i r1
    · exact h.elim⟩

/-! ### a, b = x, y side by side -/
/-- the items of a parallel assignment: data or fresh objects -/
abbrev MM := Rho → Res (List Sl)
/-- xs answer to slots: data, or fresh objects that nobody else holds -/
structure SlsOk (Γ : Tbs) (K : PySem.W.Frag) (G H0 H : Hp) (vs : List V) (sls : List Sl) : Prop where
  r : RelE Γ K G (sls.map some) (vs.map some) H
  f : ∀ (i : Nat) (d : D) (a : Addr), sls[i]? = some (.own d) → vs[i]? = some (.ref a) → H0 a = none
def PostM (Γ : Tbs) (K : PySem.W.Frag) (mg : Str → Option Value) (W : WX) (G : Hp) (σ : L2.St) (H : Hp) (Q : List V → Hp → Prop) : Res (List Sl) → Prop
  | .ok sls => ∀ vs G' H', GExt Γ G H G' H' → SlsOk Γ K G' H H' vs sls → Q vs H'
  | .exc c => ∃ C, mg c = some (.ref C) ∧ ∀ H', SameN Γ H H' → W (.ref C) none σ H'
  | .stuck => False
def rdM (Γ : Tbs) (K : PySem.W.Frag) (mg : Str → Option Value) (W : WX) (m : MM) : TA := fun σ H Q => ∃ G ρ, RelE Γ K G ρ σ H ∧ PostM Γ K mg W G σ H Q (m ρ)
structure DM (Γ : Tbs) (X : Cx) (es : List Expr) (m : MM) : Prop where
  run : ∀ W, Takes X W → PA X es (rdM Γ X.K X.mg W m)
def mmNil : MM := fun _ => .ok []
def mmDat (m : M) (r : MM) : MM := fun ρ => (m ρ).bind fun d => (r ρ).bind fun ds => .ok (.dat d :: ds)
def mmOwn (m : M) (r : MM) : MM := fun ρ => (m ρ).bind fun d => (r ρ).bind fun ds => .ok (.own d :: ds)
theorem RelE.nilR {K : PySem.W.Frag} {G H : Hp} (s : Same G H) (d : NT G ∧ LamX.Tabs Γ H) : RelE Γ K G [] [] H := ⟨s, d, rfl, fun i x h => by simp at h, fun i j d e v _ h => by simp at h⟩
theorem RelE.consD {K : PySem.W.Frag} {G H : Hp} {ρ : Rho} {σ : L2.St} (R : RelE Γ K G ρ σ H) {v : V} {d : D} (r : Rp K G v d) : RelE Γ K G (some (.dat d) :: ρ) (some v :: σ) H := by
  refine ⟨R.s, R.d, by simp [R.len], fun i x h => ?_, fun i j e e' w hij h1 h2 h3 => ?_⟩
  · cases i with
    | zero => simp at h; subst h; exact ⟨v, rfl, r⟩
    | succ i => obtain ⟨w, a, b⟩ := R.at_ i x (by simpa using h); exact ⟨w, by simpa using a, b⟩
  · cases i with
    | zero => simp at h1
    | succ i =>
      cases j with
      | zero => simp at h2
      | succ j => simpa using R.apart i j e e' w (by omega) (by simpa using h1) (by simpa using h2) (by simpa using h3)
theorem RelE.consO {K : PySem.W.Frag} {G H : Hp} {ρ : Rho} {σ : L2.St} (R : RelE Γ K G ρ σ H) {a : Addr} {o : HO} {d : D} (ha : H a = some o) (hg : G a = none) (q : OwnO K G o d) (hne : ∀ (j : Nat) (e : D), ρ[j]? = some (some (.own e)) → σ[j]? ≠ some (some (.ref a))) :
    RelE Γ K G (some (.own d) :: ρ) (some (.ref a) :: σ) H := by
  refine ⟨R.s, R.d, by simp [R.len], fun i x h => ?_, fun i j e e' w hij h1 h2 h3 => ?_⟩
  · cases i with
    | zero => simp at h; subst h; exact ⟨_, rfl, a, o, rfl, ha, hg, q⟩
    | succ i => obtain ⟨w, z, b⟩ := R.at_ i x (by simpa using h); exact ⟨w, by simpa using z, b⟩
  · cases i with
    | zero =>
      simp at h3
      subst h3
      cases j with
      | zero => exact absurd rfl hij
      | succ j => simpa using hne j e' (by simpa using h2)
    | succ i =>
      cases j with
      | zero =>
        simp at h2 h3 h1
        intro z
        simp at z
        subst z
        exact hne i e h1 h3
      | succ j => simpa using R.apart i j e e' w (by omega) (by simpa using h1) (by simpa using h2) (by simpa using h3)
theorem PostM.ext {K : PySem.W.Frag} {mg : Str → Option Value} {W : WX} {G G1 : Hp} {σ : L2.St} {H H1 : Hp} {Q : List V → Hp → Prop} (x : GExt Γ G H G1 H1) : ∀ {r : Res (List Sl)}, PostM Γ K mg W G σ H Q r → PostM Γ K mg W G1 σ H1 Q r
  | .ok b, h => fun vs G' H' y q => h vs G' H' (x.trans y) ⟨q.r, fun i d a h1 h2 => x.h.free (q.f i d a h1 h2)⟩
  | .exc c, ⟨C, a, b⟩ => ⟨C, a, fun H' s => b H' (x.h.trans s)⟩
  | .stuck, h => h
theorem dm_nil : DM Γ X [] mmNil := ⟨fun W tk => pa_imp pa_nil fun σ H Q ⟨G, ρ, R, h⟩ => h [] G H (GExt.refl R.s) ⟨.nilR R.s R.d, fun i d a h => by simp at h⟩⟩
theorem dm_dat {e : Expr} {es : List Expr} {m : M} {r : MM} (ha : DE Γ X e m) (hr : DM Γ X es r) (hs : starEach (e :: es) X.env = (false, eval e X.env) :: starEach es X.env := by rfl) : DM Γ X (e :: es) (mmDat m r) :=
  ⟨fun W tk => pa_imp (pa_cons (ha.run W tk) (hr.run W tk) hs) fun σ H Q ⟨G, ρ, R, h⟩ => by
    refine ⟨G, ρ, R, ?_⟩
    unfold mmDat at h
    cases e1 : m ρ with
    | stuck => rw [e1] at h; exact h
    | exc c => rw [e1] at h; exact h
    | ok d =>
      rw [e1] at h
      simp only [Res.bind] at h
      intro v G1 H1 x1 r1
      refine ⟨G1, ρ, R.ext x1, ?_⟩
      cases e2 : r ρ with
      | stuck => rw [e2] at h; exact h
      | exc c =>
        rw [e2] at h
        obtain ⟨C, a, b⟩ := h
        exact ⟨C, a, fun H' s => b H' (x1.h.trans s)⟩
      | ok sls =>
        rw [e2] at h
        intro vs G2 H2 x2 ok
        refine h (v :: vs) G2 H2 (x1.trans x2) ⟨ok.r.consD (r1.sm x2.g), fun i d a h1 h2 => ?_⟩
        cases i with
        | zero => simp at h1
        | succ i => exact x1.h.free (ok.f i d a (by simpa using h1) (by simpa using h2))⟩
theorem dm_own {e : Expr} {es : List Expr} {m : M} {r : MM} (ha : DO Γ X e m) (hr : DM Γ X es r) (hs : starEach (e :: es) X.env = (false, eval e X.env) :: starEach es X.env := by rfl) : DM Γ X (e :: es) (mmOwn m r) :=
  ⟨fun W tk => pa_imp (pa_cons (ha.run W tk) (hr.run W tk) hs) fun σ H Q ⟨G, ρ, R, h⟩ => by
    refine ⟨G, ρ, R, ?_⟩
    unfold mmOwn at h
    cases e1 : m ρ with
    | stuck => rw [e1] at h; exact h
    | exc c => rw [e1] at h; exact h
    | ok d =>
      rw [e1] at h
      simp only [Res.bind] at h
      intro a o G1 H1 x1 n1 n2 ha q
      refine ⟨G1, ρ, R.ext x1, ?_⟩
      cases e2 : r ρ with
      | stuck => rw [e2] at h; exact h
      | exc c =>
        rw [e2] at h
        obtain ⟨C, a, b⟩ := h
        exact ⟨C, a, fun H' s => b H' (x1.h.trans s)⟩
      | ok sls =>
        rw [e2] at h
        intro vs G2 H2 x2 ok
        refine h (.ref a :: vs) G2 H2 (x1.trans x2) ⟨ok.r.consO (x2.h.k _ _ ha q.nt) (x2.kept ha n2 q) (q.sm x2.g) fun j e h1 h2 => ?_, fun i d b h1 h2 => ?_⟩
        · have := ok.f j e a (by simpa using h1) (by simpa using h2)
          rw [ha] at this
          cases this
        · cases i with
          | zero => simp at h2; subst h2; exact n1
          | succ i => exact x1.h.free (ok.f i d b (by simpa using h1) (by simpa using h2))⟩
end
end De
end

section
set_option Elab.async false
set_option linter.all false
set_option maxRecDepth 100000
/-! De11: parallel assignment, calls with own arguments. -/
namespace De
open PySem PySem.Spec PyProof.Rows L2
def putSl : List Nat → List Sl → Rho → Option Rho
  | [], [], ρ => some ρ
  | i :: is, .dat d :: ss, ρ => putSl is ss (ρ.set i (some (.dat d)))
  | i :: is, .own d :: ss, ρ => putSl is ss (ρ.set i (some (.own d)))
  | _, _, _ => none
def putV : List Nat → List V → L2.St → L2.St
  | i :: is, v :: vs, σ => putV is vs (σ.set i (some v))
  | _, _, σ => σ
section
variable {K : PySem.W.Frag} {G H : Hp}
theorem RelE.uncons {s : Sl} {ρ : Rho} {v : V} {σ : L2.St} (R : RelE Γ K G (some s :: ρ) (some v :: σ) H) : SlOk K G H v s ∧ RelE Γ K G ρ σ H := by
  refine ⟨?_, R.s, R.d, by simpa using R.len, fun i x h => ?_, fun i j d e w hij h1 h2 h3 => ?_⟩
  · obtain ⟨w, h1, h2⟩ := R.at_ 0 s (by simp)
    simp at h1
    subst h1
    exact h2
  · obtain ⟨w, h1, h2⟩ := R.at_ (i + 1) x (by simpa using h)
    exact ⟨w, by simpa using h1, h2⟩
  · simpa using R.apart (i + 1) (j + 1) d e w (by omega) (by simpa using h1) (by simpa using h2) (by simpa using h3)
theorem putSl_rel {B : Hp × Hp} : ∀ {is : List Nat} {sls : List Sl} {vs : List V} {ρ ρ' : Rho} {σ : L2.St}, RelG Γ K B G ρ σ H → RelE Γ K G (sls.map some) (vs.map some) H →
    (∀ (i : Nat) (d : D) (a : Addr), sls[i]? = some (.own d) → vs[i]? = some (.ref a) → B.2 a = none ∧ ∀ (j : Nat) (e : D), ρ[j]? = some (some (.own e)) → σ[j]? ≠ some (some (.ref a))) →
    putSl is sls ρ = some ρ' → RelG Γ K B G ρ' (putV is vs σ) H
  | [], [], vs, ρ, ρ', σ, R, r, f, e => by
    cases e
    have : vs = [] := by
      have := r.len
      simp at this
      exact List.length_eq_zero_iff.mp this.symm
    subst this
    exact R
  | [], _ :: _, _, _, _, _, _, _, _, e => by simp [putSl] at e
  | _ :: _, [], _, _, _, _, _, _, _, e => by simp [putSl] at e
  | i :: is, .raw _ :: sls, _, _, _, _, _, _, _, e => by simp [putSl] at e
  | i :: is, .lck _ :: sls, _, _, _, _, _, _, _, e => by simp [putSl] at e
  | i :: is, .dat d :: sls, [], ρ, ρ', σ, R, r, f, e => by have := r.len; simp at this
  | i :: is, .own d :: sls, [], ρ, ρ', σ, R, r, f, e => by have := r.len; simp at this
  | i :: is, .dat d :: sls, v :: vs, ρ, ρ', σ, R, r, f, e => by
    obtain ⟨r1, r2⟩ := RelE.uncons (by simpa using r)
    refine putSl_rel (is := is) (sls := sls) (vs := vs) (R.setDat i r1) r2 (fun j d' a h1 h2 => ?_) e
    obtain ⟨q1, q2⟩ := f (j + 1) d' a (by simpa using h1) (by simpa using h2)
    refine ⟨q1, fun l e' hl => ?_⟩
    rcases get_set hl with ⟨rfl, z, _⟩ | ⟨hne, hl⟩
    · cases z
    · rw [List.getElem?_set_ne (Ne.symm hne)]; exact q2 l e' hl
  | i :: is, .own d :: sls, v :: vs, ρ, ρ', σ, R, r, f, e => by
    have r' : RelE Γ K G (some (.own d) :: sls.map some) (some v :: vs.map some) H := by simpa using r
    obtain ⟨⟨a, o, rfl, ha, hg, q⟩, r2⟩ := RelE.uncons r'
    obtain ⟨b1, b2⟩ := f 0 d a (by simp) (by simp)
    refine putSl_rel (is := is) (sls := sls) (vs := vs) (R.setOwn i ha hg q b1 fun j e' _ hj => b2 j e' hj) r2 (fun j d' a' h1 h2 => ?_) e
    obtain ⟨q1, q2⟩ := f (j + 1) d' a' (by simpa using h1) (by simpa using h2)
    refine ⟨q1, fun l e' hl => ?_⟩
    rcases get_set hl with ⟨rfl, z, hlt⟩ | ⟨hne, hl⟩
    · rw [List.getElem?_set_self (by rw [← R.r.len]; exact hlt)]
      intro z
      simp at z
      subst z
      refine r'.apart 0 (j + 1) d d' (.ref a) (by omega) (by simp) (by simpa using h1) (by simp) ?_
      simpa using h2
    · rw [List.getElem?_set_ne (Ne.symm hne)]; exact q2 l e' hl
end
section
variable {X : Cx}
def mPar (is : List Nat) (m : MM) : MS := fun ρ => (m ρ).st ρ fun sls => match putSl is sls ρ with
  | some ρ' => .next ρ'
  | none => .stuck
theorem PostS.bindM {K : PySem.W.Frag} {mg : Str → Option Value} {W : WX} {B : Hp × Hp} {G : Hp} {ρ : Rho} {σ : L2.St} {H : Hp} {E : Ends} {m : MM} {f : List Sl → RSt} {Q : List V → Hp → Prop} (R : RelG Γ K B G ρ σ H) (h : PostS Γ K mg W B E ((m ρ).st ρ f))
    (k : ∀ sls vs G' H', RelG Γ K B G' ρ σ H' → SlsOk Γ K G' H H' vs sls → PostS Γ K mg W B E (f sls) → Q vs H') : rdM Γ K mg W m σ H Q := by
  refine ⟨G, ρ, R.r, ?_⟩
  cases e : m ρ with
  | ok sls => rw [e] at h; exact fun vs G' H' x ok => k sls vs G' H' (R.ext x) ok h
  | exc c =>
    rw [e] at h
    obtain ⟨C, a, b⟩ := h
    exact ⟨C, a, fun H' s => b σ H' ⟨G, R.ext (GExt.heapN R.r.s R.r.d.1 s)⟩⟩
  | stuck => rw [e] at h; exact h
theorem mPar_core {K : PySem.W.Frag} {mg : Str → Option Value} {W : WX} {B : Hp × Hp} {E : Ends} {is : List Nat} {m : MM} {G : Hp} {ρ : Rho} {σ : L2.St} {H : Hp} (R : RelG Γ K B G ρ σ H) (h : PostS Γ K mg W B E (mPar is m ρ)) : rdM Γ K mg W m σ H fun vs H' => vs.length = is.length ∧ E.nx (putV is vs σ) H' := by
  refine PostS.bindM R h fun sls vs G' H' R' ok q => ?_
  split at q
  · rename_i ρ' e
    have hl : sls.length = is.length := by
      clear ok q R' h R
      induction is generalizing sls ρ with
      | nil => cases sls with | nil => rfl | cons a b => simp [putSl] at e
      | cons i is ih => cases sls with
        | nil => simp [putSl] at e
        | cons a b => cases a <;> simp [putSl] at e <;> simp [ih _ e]
    refine ⟨by have := ok.r.len; simp at this; omega, q _ H' ⟨G', putSl_rel R' ok.r (fun i d a h1 h2 => ?_) e⟩⟩
    have hn := ok.f i d a h1 h2
    exact ⟨R.x.h.free hn, fun j e' hj => R.fresh hn j e' hj⟩
  · exact q.elim
theorem ds_par2 {i j : Nat} {x y : Str} {a b : Expr} {m : MM} {px py pt : Pos} {kt k2 pt2} {pos : Pos} (hc : X.calm = true) (hN : X.N.Nodup) (hi : X.N[i]? = some x) (hj : X.N[j]? = some y) (hij : i ≠ j)
    (hx : X.env.scope.names.lookup x = some .local) (hy : X.env.scope.names.lookup y = some .local) (ha : DM Γ X [a, b] m)
    (hw : swappedStores [.Tuple [.Name x px, .Name y py] kt pt] (.Tuple [a, b] k2 pt2) X.env = pure (some [x, y]))
    (hs : swapsWithSole [.Tuple [.Name x px, .Name y py] kt pt] (.Tuple [a, b] k2 pt2) pos.line X.env = pure false := by rfl) :
    DS Γ X (.Assign [.Tuple [.Name x px, .Name y py] kt pt] (.Tuple [a, b] k2 pt2) pos) (mPar [i, j] m) :=
  ⟨fun W tk => ps_imp (ps_par hc hN hi hj hij hx hy (ha.run W tk) hw hs) fun E σ H ⟨B, ρ, ⟨G, R⟩, h⟩ => by
    obtain ⟨G1, ρ1, R1, q⟩ := mPar_core R h
    refine ⟨G1, ρ1, R1, ?_⟩
    revert q
    cases m ρ1 with
    | ok sls =>
      intro q vs G' H' x ok
      obtain ⟨h1, h2⟩ := q vs G' H' x ok
      match vs, h1 with
      | [v, w], _ => exact ⟨v, w, rfl, h2⟩
    | exc c => exact fun q => q
    | stuck => exact fun q => q⟩
theorem ds_par3 {i j l : Nat} {x y z : Str} {a b c : Expr} {m : MM} {px py pz pt pos : Pos} {kt k2 pt2} (hc : X.calm = true) (hN : X.N.Nodup) (hi : X.N[i]? = some x) (hj : X.N[j]? = some y) (hl : X.N[l]? = some z) (hij : i ≠ j) (hil : i ≠ l) (hjl : j ≠ l)
    (hx : X.env.scope.names.lookup x = some .local) (hy : X.env.scope.names.lookup y = some .local) (hz : X.env.scope.names.lookup z = some .local) (ha : DM Γ X [a, b, c] m)
    (hw : swappedStores [.Tuple [.Name x px, .Name y py, .Name z pz] kt pt] (.Tuple [a, b, c] k2 pt2) X.env = pure (some [x, y, z]))
    (hs : swapsWithSole [.Tuple [.Name x px, .Name y py, .Name z pz] kt pt] (.Tuple [a, b, c] k2 pt2) pos.line X.env = pure false := by rfl) :
    DS Γ X (.Assign [.Tuple [.Name x px, .Name y py, .Name z pz] kt pt] (.Tuple [a, b, c] k2 pt2) pos) (mPar [i, j, l] m) :=
  ⟨fun W tk => ps_imp (ps_par3 hc hN hi hj hl hij hil hjl hx hy hz (ha.run W tk) hw hs) fun E σ H ⟨B, ρ, ⟨G, R⟩, h⟩ => by
    obtain ⟨G1, ρ1, R1, q⟩ := mPar_core R h
    refine ⟨G1, ρ1, R1, ?_⟩
    revert q
    cases m ρ1 with
    | ok sls =>
      intro q vs G' H' x ok
      obtain ⟨h1, h2⟩ := q vs G' H' x ok
      match vs, h1 with
      | [u, v, w], _ => exact ⟨u, v, w, rfl, h2⟩
    | exc c => exact fun q => q
    | stuck => exact fun q => q⟩

/-! ### calls with own arguments -/
def spM (Γ : Tbs) (K : PySem.W.Frag) (mg : Str → Option Value) (n : Nat) (f : List Sl → Res D) : Sp := fun vs H Q E => vs.length = n ∧ ∃ G B sls, Same G B ∧ Same B H ∧ SlsOk Γ K G B H vs sls ∧ PostRO Γ K mg G B Q E (f sls)
def FnM (Γ : Tbs) (P : Program) (w : World) (K : PySem.W.Frag) (mg : Str → Option Value) (base : Heap) (k : Nat) (x : Str) (n : Nat) (f : List Sl → Res D) : Prop := FnP P w K mg base k x (spM Γ K mg n f)
def mCallM (n : Nat) (f : List Sl → Res D) (m : MM) : M := fun ρ => (m ρ).bind fun sls => if sls.length = n then f sls else .stuck
/-- between H and H': without the objects of one's own that are new -/
theorem midB_of {G H G' H' : Hp} (s : Same G H) (x : GExt Γ G H G' H') : ∃ B : Hp, Same G' B ∧ Same B H' ∧ SameN Γ H B ∧ ∀ a o, H a = none → G' a = none → H' a = some o → plainO o → B a = none := by
  classical
  let kp : Addr → Prop := fun b => H b ≠ none ∨ G' b ≠ none ∨ ∃ o, H' b = some o ∧ ¬ plainO o
  have pos : ∀ {b : Addr}, kp b → (if kp b then H' b else none) = H' b := fun h => if_pos h
  refine ⟨fun b => if kp b then H' b else none, fun b o e => ?_, fun b o e => ?_, ⟨fun b o e n => ?_, fun b e => ?_, fun b ps e => ?_, fun t => ?_⟩, fun a o h1 h2 h3 h4 => ?_⟩
  · show (if kp b then H' b else none) = _
    rw [if_pos (.inr (.inl (by rw [e]; simp)))]; exact x.s _ _ e
  · have e : (if kp b then H' b else none) = some o := e
    split at e
    · exact e
    · cases e
  · show (if kp b then H' b else none) = _
    rw [if_pos (.inl (by rw [e]; simp))]; exact x.h.k _ _ e n
  · have e : (if kp b then H' b else none) = none := e
    cases z : H b with
    | none => rfl
    | some u =>
      rw [if_pos (.inl (by rw [z]; simp))] at e
      rw [← z]
      exact x.h.f b e
  · obtain ⟨ps', h⟩ := x.h.b b ps e
    refine ⟨ps', ?_⟩
    show (if kp b then H' b else none) = _
    rw [if_pos (.inl (by rw [e]; simp))]; exact h
  · refine tabs_keep (x.h.t t) fun b o e n => ?_
    show (if kp b then H' b else none) = _
    rw [if_pos (.inr (.inr ⟨o, e, n⟩))]; exact e
  · show (if kp a then H' a else none) = none
    refine if_neg fun h => ?_
    rcases h with h | h | ⟨u, h, n⟩
    · exact h h1
    · exact h h2
    · rw [h3] at h; cases h; exact n h4
theorem do_callM {k n : Nat} {x : Str} {f : List Sl → Res D} {e : Expr} {es : List Expr} {m : MM} {p pos : Pos} (F : FnM Γ X.prog X.w X.K X.mg X.base k x n f) (hr : Room k X.A) (hg : Gl X x) (ha : DM Γ X (e :: es) m)
    (hdb : (x == ("__debug__" : Str)) = false := by decide) (he : starEach (e :: es) X.env = (false, eval e X.env) :: starEach es X.env := by rfl) (hpl : (backTo pos (starEach es X.env)).any (·.1) = false := by rfl) : DO Γ X (.Call (.Name x p) (e :: es) [] pos) (mCallM n f m) := by
  obtain ⟨a, fd, ps, F, hm, hk, hb⟩ := F.ex
  refine ⟨fun W tk => pe_imp (pe_callS F hr hg hm hk hb (fun σ => passAt tk σ) (ha.run W tk) hdb he hpl) fun σ H Q ⟨G, ρ, R, h⟩ => ⟨G, ρ, R, ?_⟩⟩
  unfold mCallM at h
  cases e1 : m ρ with
  | stuck => rw [e1] at h; exact h
  | exc c => rw [e1] at h; exact h
  | ok sls =>
    rw [e1] at h
    simp only [Res.bind] at h
    intro vs G' H' x ok
    by_cases hl : sls.length = n
    · rw [if_pos hl] at h
      have hlv : vs.length = n := by have := ok.r.len; simp at this; omega
      obtain ⟨B, sGB, sBH, sHB, hB⟩ := midB_of R.s x
      have gB : GExt Γ G H G' B := ⟨sHB, x.g, sGB, x.n⟩
      refine ⟨hlv, G', B, sls, sGB, sBH, ⟨ok.r, fun i d a h1 h2 => ?_⟩, ?_⟩
      · obtain ⟨o, ha', hg', q'⟩ := ok.r.own_there (j := i) (e := d) (a := a) (by simp [h1]) (by simp [h2])
        exact hB a o (ok.f i d a h1 h2) hg' ha' q'.pl
      · cases e2 : f sls with
        | ok d =>
          rw [e2] at h
          exact fun a o G2 H2 y n1 n2 ha q => h a o G2 H2 (gB.trans y) (sHB.f a n1) n2 ha q
        | exc c =>
          rw [e2] at h
          obtain ⟨C, a, b⟩ := h
          exact ⟨C, a, fun H2 s => b H2 (sHB.trans s)⟩
        | stuck => rw [e2] at h; exact h
    · rw [if_neg hl] at h; exact h.elim
end
def startM (N : List Str) (sls : List Sl) : Rho := sls.map some ++ List.replicate (N.length - sls.length) none
theorem rel_startM {K : PySem.W.Frag} {G B H : Hp} {N : List Str} {vs : List V} {sls : List Sl} (s : Same G B) (s2 : Same B H) (r : SlsOk Γ K G B H vs sls) : RelG Γ K (G, B) G (startM N sls) (L2.start N vs) H := by
  have hl : sls.length = vs.length := by have := r.r.len; simpa using this
  have own : ∀ (i : Nat) (x : Sl), (startM N sls)[i]? = some (some x) → sls[i]? = some x ∧ i < sls.length := fun i x h => by
    unfold startM at h
    by_cases hi : i < sls.length
    · rw [List.getElem?_append_left (by simpa using hi), List.getElem?_map] at h
      cases e : sls[i]? with
      | none => rw [e] at h; cases h
      | some d => rw [e] at h; cases h; exact ⟨rfl, hi⟩
    · rw [List.getElem?_append_right (by simpa using hi), List.getElem?_replicate] at h
      split at h <;> cases h
  have val : ∀ i, i < sls.length → (L2.start N vs)[i]? = (vs.map some)[i]? := fun i hi => by
    unfold L2.start
    rw [List.getElem?_append_left (by simpa [← hl] using hi)]
  refine ⟨⟨.of s2, Same.refl _, s.trans s2, fun a o h => .inl h⟩, ⟨s.trans s2, r.r.d, by simp [startM, L2.start, hl], fun i x h => ?_, fun i j d e v hij h1 h2 h3 => ?_⟩, fun i d a h1 h2 => ?_⟩
  · obtain ⟨h1, h2⟩ := own i x h
    obtain ⟨v, hv, q⟩ := r.r.at_ i x (by simp [h1])
    exact ⟨v, by rw [val i h2]; exact hv, q⟩
  · obtain ⟨h4, h5⟩ := own i _ h1
    obtain ⟨h6, h7⟩ := own j _ h2
    rw [val i h5] at h3
    rw [val j h7]
    exact r.r.apart i j d e v hij (by simp [h4]) (by simp [h6]) h3
  · obtain ⟨h4, h5⟩ := own i _ h1
    rw [val i h5] at h2
    exact r.f i d a h4 (by simpa using h2)
section
variable {P : Program} {w : World} {K : PySem.W.Frag} {mg : Str → Option Value} {base : Heap} {x qual : Str} {st : Stmt} {f : Addr} {fd : FuncData} {N ps : List Str} {k : Nat} {m : MS}
theorem fnM_of (F : Fun K x qual st f fd) (hx : mg x = some (.ref f)) (S : FnScope N ps (defScope st)) (hb : Binds K fd ps [])
    (body : ∀ (cdv : Value) (A : Around) (outer : List Env) (s : Shared) (H : Hp) (E : XK), Room k (A.deeper (envOfC qual (defScope st) s.heap.objs.size f cdv)) → DSs Γ (cxOf (L2.CX P w) P w K mg base N qual (defScope st) f cdv A outer s H E) (defBody st) m) :
    FnM Γ P w K mg base (k + 1) x ps.length (fun sls => runO (m (startM N sls))) := by
  refine ⟨f, fd, ps, F.okX S (fun vs H Q E h => h.1) (fun cdv A outer s H vs Q E hr h => ?_), hx, F.kp, hb⟩
  obtain ⟨hl, G, B, sls, sm, s2, r, q⟩ := h
  dsimp only at q
  refine ⟨_, (body cdv A outer s H E hr).run _ takesOf, (G, B), startM N sls, ⟨G, rel_startM sm s2 r⟩, ?_⟩
  show PostS Γ K mg _ _ _ (m (startM N sls))
  cases e : m (startM N sls) with
  | next ρ => rw [e] at q; exact q.elim
  | ret d => rw [e] at q; exact q.elim
  | reto d => rw [e] at q; exact fun a o G' H' x h1 h2 h3 r => q a o G' H' x h1 h2 h3 r
  | brk d => rw [e] at q; exact q.elim
  | cont d => rw [e] at q; exact q.elim
  | exc c d => rw [e] at q; obtain ⟨C, a, b⟩ := q; exact ⟨C, a, fun σ' H' ⟨G', R⟩ => b H' R.x.h⟩
  | stuck => rw [e] at q; exact q.elim
end
end De
end

section
set_option Elab.async false
set_option linter.all false
set_option maxRecDepth 100000
/-! De12: sorted lists of tuples: alike ones, and rows whose first items differ. -/
namespace De
open PySem PySem.Spec PyProof.Rows L2
open PySem.W PySem.SeqAt

/-- two tuples that can be compared: alike, or their first items are and differ -/
def pairOk : D → D → Bool
  | .tuple (x :: xs), .tuple (y :: ys) => alikeAll (x :: xs) (y :: ys) || (alike x y && !PyData.eqv x y)
  | _, _ => false
def sortOk (ds : List D) : Bool := (ds.all fun d => SeqAt.shaped d) && ds.all fun d => ds.all fun e => pairOk d e
theorem pairOk_inv {d e : D} (h : pairOk d e = true) : ∃ x xs y ys, d = .tuple (x :: xs) ∧ e = .tuple (y :: ys) ∧ alike x y = true ∧ (alikeAll (x :: xs) (y :: ys) = true ∨ PyData.eqv x y = false) := by
  unfold pairOk at h
  split at h
  · rename_i x xs y ys
    refine ⟨x, xs, y, ys, rfl, rfl, ?_⟩
    rcases Bool.or_eq_true_iff.mp h with h | h
    · exact ⟨(alike_all_cons h).1, .inl h⟩
    · obtain ⟨h1, h2⟩ := Bool.and_eq_true_iff.mp h
      exact ⟨h1, .inr (by simpa using h2)⟩
  · cases h
theorem pairOk_same {d e : D} {h : Heap} {v : Value} {as bs : List Addr} (hp : pairOk d e = true) (r1 : Reads h v d as) (r2 : Reads h v e bs) : d = e := by
  obtain ⟨x, xs, y, ys, rfl, rfl, ha, hq⟩ := pairOk_inv hp
  rcases hq with hq | hq
  · exact alike_unique _ _ _ _ _ (by simpa [alike] using hq) r1 r2
  · exfalso
    cases r1 with
    | @tuple l o ws n _ _ h1 h2 h3 h4 =>
      cases r2 with
      | @tuple l' o' ws' n' _ _ k1 k2 k3 k4 =>
        rw [h1] at k1
        cases k1
        rw [h3] at k3
        cases k3
        cases q : ws.toList with
        | nil => rw [q] at h4; cases h4
        | cons f fr =>
          rw [q] at h4 k4
          cases h4 with
          | cons a1 a2 =>
            cases k4 with
            | cons b1 b2 =>
              have e := alike_unique _ _ _ _ _ ha a1 b1
              subst e
              rw [eqv_refl_alike _ ha] at hq
              cases hq
def AllOk (ds : List D) : Prop := ∀ d ∈ ds, ∀ e ∈ ds, pairOk d e = true
theorem dataKind_some2 {h : Heap} {ds : List PyData} (hal : AllOk ds) {v : Value} {d : PyData} {as : List Addr} (hd : d ∈ ds) (r : Reads h v d as) : (dataKind h ds).keyOf v = some (keyToks d) := by
  have q : ∃ d, d ∈ ds ∧ ∃ as, Reads h v d as := ⟨d, hd, as, r⟩
  have e : (dataKind h ds).keyOf v = some (keyToks q.choose) := by
    show (open Classical in if q : ∃ d, d ∈ ds ∧ ∃ as, Reads h v d as then some (keyToks q.choose) else none) = _
    rw [dif_pos q]
  obtain ⟨h1, as', h2⟩ := q.choose_spec
  rw [e, pairOk_same (hal _ h1 _ hd) h2 r]
section
variable {prog : Program} {w : World} {A : Around} {s : Shared}
theorem sortsAt_rows {vs : List Value} {ds : List PyData} (e : EachIs (fun v d => ∃ as, Reads s.heap v d as) vs ds) (hal : AllOk ds) (hu : ∀ d, d ∈ ds → A.units + d.depth < cLine) : SortsAt prog w A s (dataKind s.heap ds) vs := by
  have room : ∀ {d d' : PyData}, d ∈ ds → A.units + min d.depth d'.depth < cLine := fun {d d'} hd => Nat.lt_of_le_of_lt (Nat.add_le_add_left (Nat.min_le_left _ _) _) (hu d hd)
  have ht : ∀ d ∈ ds, ∃ x r, d = .tuple (x :: r) := fun d hd => by
    obtain ⟨x, xs, _, _, e, _⟩ := pairOk_inv (hal d hd d hd)
    exact ⟨x, xs, e⟩
  refine ⟨fun v hv => ?_, ?_⟩
  · obtain ⟨d, hd, as, r⟩ := e.left v hv
    exact ⟨_, dataKind_some2 hal hd r⟩
  · cases ds with
    | nil =>
      cases e
      exact ⟨general', fun E x y a b Q ha _ _ => (by
        obtain ⟨d, _, hd, _⟩ := dataKind_inv ha
        exact absurd hd (by simp)), fun h2 => absurd h2 (by simp)⟩
    | cons d₀ ds₀ =>
      obtain ⟨x₀, r₀, e₀⟩ := ht d₀ (List.mem_cons_self ..)
      have hfirst : ∀ x r, PyData.tuple (x :: r) ∈ d₀ :: ds₀ → alike x x₀ = true := by
        intro x r hm
        obtain ⟨y, ys, z, zs, e1, e2, h1, _⟩ := pairOk_inv (hal _ hm d₀ (List.mem_cons_self ..))
        cases e1
        rw [e₀] at e2
        cases e2
        exact h1
      refine ⟨tuples' (dataType x₀ != Value.type "tuple"), ?_, fun h2 E Q hq => ?_⟩
      · intro E x y a b Q ha hb hq
        obtain ⟨d, as, hd, ra, rfl⟩ := dataKind_inv ha
        obtain ⟨d', as', hd', rb, rfl⟩ := dataKind_inv hb
        have hdd := hal d hd d' hd'
        have hroom := room (d' := d') hd
        obtain ⟨x1, r1, x2, r2, rfl, rfl, h12, hc⟩ := pairOk_inv hdd
        have hq' : Q (dataLt (.tuple (x1 :: r1)) (.tuple (x2 :: r2))) s := hq
        rw [dataLt_tuple] at hq'
        have hroom2 : A.units + min (PyData.depthAll (x1 :: r1)) (PyData.depthAll (x2 :: r2)) < cLine := by
          have q := SeqAt.room_in hroom; omega
        cases ra with
        | @tuple l o xs n _ _ h1 h2 h3 h4 =>
          cases rb with
          | @tuple l' o' xs' n' _ _ k1 k2 k3 k4 =>
            have n1 : xs.size = (x1 :: r1).length := by simpa using SeqAt.ReadsAll.length _ _ _ h4
            have n2 : xs'.size = (x2 :: r2).length := by simpa using SeqAt.ReadsAll.length _ _ _ k4
            have nt : (dataType x₀ != Value.type "tuple") = true → ∀ t, x1 ≠ .tuple t := fun hb t => by
              have q := dataType_alike (hfirst _ _ hd)
              rw [← q] at hb
              exact dataType_tuple hb t
            rcases hc with hc | hc
            · refine kat_lt h1 h3 k1 k3 (katLex_alike (x1 :: r1) (x2 :: r2) 0 _ _ _ _ h4 k4 hc hroom2 (fun hb _ x r t ex => ?_) (by rw [n1, n2]) hq')
              obtain ⟨rfl, rfl⟩ := List.cons.inj ex
              exact nt hb t
            · rw [dataLt_all_no h12 hc] at hq'
              refine kat_lt h1 h3 k1 k3 ?_
              cases q1 : xs.toList with
              | nil => rw [q1] at h4; cases h4
              | cons f fr =>
                cases q2 : xs'.toList with
                | nil => rw [q2] at k4; cases k4
                | cons g gr =>
                  rw [q1] at h4
                  rw [q2] at k4
                  cases h4 with
                  | cons a1 a2 =>
                    cases k4 with
                    | cons b1 b2 =>
                      rw [List.zip_cons_cons]
                      refine kat_cons (eqAt_alike x1 x2 A s _ _ _ _ a1 b1 h12 (room_head hroom2) prog w _ _ ?_)
                      rw [hc]
                      exact kat_no (oneLt_alike (fun hb xs => by
                        simp only [Bool.and_eq_true] at hb
                        exact nt hb.1 xs) a1 b1 h12 (ne_none_of h12 hc) (room_head hroom2) hq')
      · obtain ⟨fs, t1, t2, t3⟩ := each_katTups e ht
        refine kat_kind (T := dataType x₀) t1 (by omega) (fun f hf => ?_) (beq_self_eq_true _) hq
        obtain ⟨x, r, as, m1, m2⟩ := t3 f hf
        rw [← dataType_alike (hfirst x r m1)]
        exact looks_reads m2
end
end De
end

section
set_option Elab.async false
set_option linter.all false
set_option maxRecDepth 100000
/-! De13: sorted of lists and tuples as a rule of the data layer. -/
namespace PyProof.Rows
open PySem
section
variable {prog : Program} {w : World} {A : Around} {E : Value → Shared → Prop} {s : Shared}
theorem collect_tupD {l : Addr} {vs : List Value} {Q : List Value → Shared → Prop} (hl : s.heap.IsTuple l vs.toArray)
    (h : Q vs { s with heap := (s.heap.push (seqObj "list" #[] 0)).update s.heap.objs.size (Obj.mapSeq (· ++ vs.toArray)) }) (hsz : vs.length ≤ sizeLine) :
    wpAny (model prog w) A (collect (.ref l)) Q E s := by
  obtain ⟨o, ho, hc, n, hd⟩ := id hl
  unfold collect
  refine wpAny_bind (wpAny_runValue (codeAny_builtin entry_proto_collect' ?_))
  show wpAny _ _ (do again (.builtin "list.__iadd__" ⟨[← newList [], .ref l], []⟩)) _ _ s
  refine wpAny_bind (wpAny_newList (wpAny_pure ⟨Code.quiet_builtin _ (by decide +kernel), codeAny_builtin entry_list_iadd' ?_⟩))
  show wpAny _ _ (Builtin.List.listExtendWith (.ref s.heap.objs.size) (.ref l) (.ref s.heap.objs.size)) _ _ { s with heap := s.heap.push (seqObj "list" #[] 0) }
  unfold Builtin.List.listExtendWith
  have ho' : (s.heap.push (seqObj "list" #[] 0)).get? l = some o := Heap.get?_push_of_some _ ho
  refine wpAny_bind (wpAny_typeOf (T := "tuple") ⟨o, ho', hc⟩ ?_)
  have ht : (Value.type "tuple" == Value.type "tuple") = true := by rfl
  rw [if_pos (by rw [ht]; simp)]
  refine wpAny_bind (listItems_at ho' hd ?_)
  refine wpAny_bind (listItems_at (xs := #[]) (n := 0) (Heap.get?_push_size _ rfl) rfl ?_)
  rw [if_neg (by simp)]
  refine wpAny_bind (listUpdate_at (xs := #[]) (n := 0) (Heap.get?_push_size _ rfl) rfl ?_ (Nat.zero_le _) (by show (#[] ++ vs.toArray).size ≤ sizeLine + 1; simp only [Array.size_append, List.size_toArray, List.length_nil]; omega))
  refine wpAny_pure ?_
  show wpAny (model prog w) A (do
      let o ← load s.heap.objs.size
      match o.data with
      | .seq xs _ => pure xs.toList
      | _ => unsupported "internal:collect") Q E { s with heap := (s.heap.push (seqObj "list" #[] 0)).update s.heap.objs.size (Obj.mapSeq (· ++ vs.toArray)) }
  refine wpAny_bind (wpAny_load (get?_update_seq (Heap.get?_push_size _ rfl) _) ?_)
  show wpAny _ _ (pure ((#[] : Array Value) ++ vs.toArray).toList) Q E _
  rw [show ((#[] : Array Value) ++ vs.toArray).toList = vs by simp]
  exact wpAny_pure h
end
end PyProof.Rows
namespace De
open PySem PySem.Spec PyProof.Rows L2
open PySem.W PySem.SeqAt
section
variable {prog : Program} {w : World} {A : Around} {E : Value → Shared → Prop} {s : Shared}
/-- a list or a tuple of these items -/
def SeqHeap (h : Heap) (l : Addr) (vs : List Value) : Prop := h.IsList l vs.toArray ∨ h.IsTuple l vs.toArray
theorem sorted_of_sortD {l : Addr} {vs : List Value} {kw : List (Str × Value)} {Q : Value → Shared → Prop} (hl : SeqHeap s.heap l vs) (hL : vs.length ≤ sizeLine) (ha1 : argsOk "sorted" ⟨[.ref l], kw⟩) (ha2 : ∀ x, argsOk "list.sort" ⟨[.ref x], kw⟩)
    (body : ∀ E' : Value → Shared → Prop, wpAny (model prog w) A.in1.in1 (Builtin.«list.sort» ⟨[.ref (s.heap.objs.size + 1)], kw⟩) (fun f s' => f = .done (.ret .none) ∧ Q (.ref (s.heap.objs.size + 1)) s') E' { s with heap := copyHeap s.heap vs }) :
    wpAny (model prog w) A (call (.builtin "sorted") [.ref l] kw) Q E s := by
  rcases hl with hl | hl
  · exact sorted_of_sort hl hL ha1 ha2 body
  refine PyProof.Rows.call_function_entry_kw kind_sorted plain_sorted entry_sorted ha1 ?_
  unfold Builtin.«sorted»
  refine wpAny_bind (m := checkCount "sorted" 1 1 _) (wpAny_pure ?_)
  refine wpAny_bind (collect_tupD hl ?_ hL)
  refine wpAny_bind (wpAny_newList ?_ hL)
  have hsz : ((s.heap.push (seqObj "list" #[] 0)).update s.heap.objs.size (Obj.mapSeq (· ++ vs.toArray))).objs.size = s.heap.objs.size + 1 := by
    rw [Heap.size_update, size_push']
  show wpAny _ _ _ _ _ { s with heap := copyHeap s.heap vs }
  rw [hsz]
  refine wpAny_bind (wpAny_holding (wpAny_call_entry_kw slot_list_sort ⟨_, copyHeap_at s.heap vs, rfl⟩ entry_list_sort ?body (ha2 _)))
  case body =>
    show wpAny (model prog w) A.in1.in1 (Builtin.«list.sort» ⟨[.ref (s.heap.objs.size + 1)], kw⟩) _ _ _
    refine wpAny_mono (body _) (fun f s' hf => ?_) fun _ _ e => e
    obtain ⟨rfl, hq⟩ := hf
    exact ⟨_, rfl, wpAny_pure ⟨_, rfl, hq⟩⟩
theorem sorted_valsD {κ : PyProof.Rows.KeyKind} {l : Addr} {vs : List Value} {Q : Value → Shared → Prop} (hl : SeqHeap s.heap l vs) (S : SortsAt prog w A.in1.in1 { s with heap := sortingHeap (copyHeap s.heap vs) (s.heap.objs.size + 1) vs } κ vs) (hL : vs.length ≤ sizeLine)
    (h : Q (.ref (s.heap.objs.size + 1)) { s with heap := sortedAll s.heap vs (sortVals κ false vs vs).toArray }) : wpAny (model prog w) A (call (.builtin "sorted") [.ref l]) Q E s :=
  sorted_of_sortD hl hL (args_sorted1 _) (fun _ => args_list_sort _) fun _ => list_sort_vals (s := { s with heap := copyHeap s.heap vs }) (copyHeap_at s.heap vs) S hL ⟨rfl, h⟩
end
def leD : D → D → Bool := dataLe false id
def fSortL (ds : List D) : Res D := if sortOk ds = true ∧ ds.length ≤ sizeLine then .ok (.list (ds.mergeSort leD)) else .stuck
def fSorted : List D → Res D
  | [.list ds] => fSortL ds
  | [.tuple ds] => fSortL ds
  | _ => .stuck
/-- v stands for d -/
def Std (K : PySem.W.Frag) (G : Hp) (v : Value) (d : D) : Prop := ∃ x, RelV x v ∧ Rp K G x d
theorem std_each {K : PySem.W.Frag} {G : Hp} : ∀ {vs : List V} {us : List Value} {ds : List D}, Vals vs us → RpAll K G vs ds → EachIs (Std K G) us ds
  | _, _, _, .nil, .nil => .nil
  | _, _, _, .cons h t, .cons r rr => .cons ⟨_, h, r⟩ (std_each t rr)
theorem each_std {K : PySem.W.Frag} {G : Hp} : ∀ {us : List Value} {ds : List D}, EachIs (Std K G) us ds → ∃ xs, Vals xs us ∧ RpAll K G xs ds
  | _, _, .nil => ⟨[], .nil, .nil⟩
  | _, _, .cons ⟨x, h1, h2⟩ t => by
    obtain ⟨xs, h3, h4⟩ := each_std t
    exact ⟨x :: xs, .cons h1 h3, .cons h2 h4⟩
theorem EachIs.imp2 {α β : Type} {R S : α → β → Prop} : ∀ {as : List α} {bs : List β}, EachIs R as bs → (∀ a b, b ∈ bs → R a b → S a b) → EachIs S as bs
  | _, _, .nil, _ => .nil
  | _, _, .cons h t, f => .cons (f _ _ (List.mem_cons_self ..) h) (EachIs.imp2 t fun a b hb => f a b (List.mem_cons_of_mem _ hb))
section
variable {X : Cx} {pins : List (Addr × Obj)} {σ : L2.St} {H : Hp} {s : Shared}
theorem Std.reads {G : Hp} (I : Inv X pins σ H s) (sm : Same G H) {v : Value} {d : D} (h : Std X.K G v d) (hs : SeqAt.shaped d = true) : ∃ as, Reads s.heap v d as := by
  obtain ⟨x, h1, h2⟩ := h
  exact Dp.reads I d x v (h2.dpH sm hs) h1
theorem sortOk_inv {ds : List D} (h : sortOk ds = true) : (∀ d ∈ ds, SeqAt.shaped d = true) ∧ AllOk ds := by
  unfold sortOk at h
  obtain ⟨h1, h2⟩ := Bool.and_eq_true_iff.mp h
  exact ⟨fun d hd => List.all_eq_true.mp h1 d hd, fun d hd e he => List.all_eq_true.mp (List.all_eq_true.mp h2 d hd) e he⟩
theorem sorted_core {G : Hp} {vs : List V} {us : List Value} {ds : List D} {l : Addr} {Q : VK} (hu : X.A.units + 66 < cLine) (I : Inv X pins σ H s) (sm : Same G H) (hl : SeqHeap s.heap l us) (rv : Vals vs us) (ra : RpAll X.K G vs ds) (q : PostVO Γ X.K G H Q (fSortL ds)) :
    wpAny (model X.prog X.w) X.A (call (.builtin "sorted") [.ref l]) (EP X pins σ Q) X.xe s := by
  obtain ⟨⟨h1, h2⟩, q⟩ := PostVO.ite q
  obtain ⟨hsh, hal⟩ := sortOk_inv h1
  have e1 := std_each rv ra
  have lus : us.length = ds.length := e1.length
  have e2 : EachIs (fun v d => ∃ as, Reads s.heap v d as) us ds := EachIs.imp2 e1 fun v d hd h => h.reads I sm (hsh d hd)
  have e3 : EachIs (fun v d => ∃ as, Reads (sortingHeap (copyHeap s.heap us) (s.heap.objs.size + 1) us) v d as) us ds := e2.mono fun _ _ ⟨as, r⟩ => ⟨as, PyProof.Rows.Reads.keeps (fun _ _ => sorting_copy_old) r⟩
  refine sorted_valsD hl (sortsAt_rows (s := { s with heap := sortingHeap (copyHeap s.heap us) (s.heap.objs.size + 1) us }) (A := X.A.in1.in1) e3 hal fun d hd => ?_) (by rw [lus]; exact h2) ?_
  · have := SeqAt.depth_of_shaped (hsh d hd)
    show X.A.units + 1 + 1 + d.depth < cLine
    omega
  · have eo : EachIs (Std X.K G) (sortVals (dataKind (sortingHeap (copyHeap s.heap us) (s.heap.objs.size + 1) us) ds) false us us) (ds.mergeSort leD) :=
      sortVals_each (κ := dataKind (sortingHeap (copyHeap s.heap us) (s.heap.objs.size + 1) us) ds) (fun d => keyToks d) e1 (EachIs.imp2 e3 fun v d hd ⟨as, r⟩ => dataKind_some2 hal hd r)
    obtain ⟨xs, h3, h4⟩ := each_std eo
    obtain ⟨n, hn⟩ := sortedAll_at s.heap us (sortVals (dataKind (sortingHeap (copyHeap s.heap us) (s.heap.objs.size + 1) us) ds) false us us).toArray
    have hf : H (s.heap.objs.size + 1) = none := I.hok.fresh (Nat.le_succ _)
    have hlen : xs.length ≤ sizeLine := by rw [h4.length, List.length_mergeSort]; exact h2
    have I2 := I.laid (o := .lst xs) (t' := s.toks) (h' := sortedAll s.heap us (sortVals (dataKind (sortingHeap (copyHeap s.heap us) (s.heap.objs.size + 1) us) ds) false us us).toArray) (fun b o e => sortedAll_old e) (Nat.le_succ _) ⟨hlen, _, n, h3, by first | exact hn | simpa using hn⟩
    exact ⟨.ref (s.heap.objs.size + 1), _, I2, rfl, PostVO.now q sm hf (.inl ⟨xs, _, rfl, rfl, h4⟩)⟩
end
section
variable {X : Cx}
theorem call_fSorted (hu : X.A.units + 66 < cLine) : CallO Γ X (.builtin "sorted") fSorted := by
  intro pins s σ H xs us Q I r ⟨G, ds, sm, ra, q⟩
  unfold fSorted at q
  split at q
  · obtain ⟨v, rfl, rv⟩ := ra.one1
    obtain ⟨u, rfl, ru⟩ := vals1 r
    cases rv with
    | lst h1 r1 =>
      cases ru
      obtain ⟨its, rv2, pl, hz⟩ := I.list (SqL.sm sm (.of h1) : SqL X.K H _ _)
      exact sorted_core hu I sm (.inl pl.isList) rv2 r1 q
  · obtain ⟨v, rfl, rv⟩ := ra.one1
    obtain ⟨u, rfl, ru⟩ := vals1 r
    obtain ⟨p, vs, rfl, h1, r1⟩ := rv.sqT
    cases ru
    obtain ⟨its, rv2, pl, hz⟩ := I.tuple (SqT.sm sm h1)
    exact sorted_core hu I sm (.inr pl) rv2 r1 q
  · exact q.elim
end
end De
end

section
set_option Elab.async false
set_option linter.all false
set_option maxRecDepth 100000
/-! De14: dict(pairs), sorted(d.items()). -/
namespace De
open PySem PySem.Spec PyProof.Rows L2
open PySem.W PySem.SeqAt

/-- pairs of a key and a value -/
def prOk : D → Bool
  | .tuple [.tuple ks, _] => inD.keyOk ks
  | _ => false
def prOf : D → D × D
  | .tuple [k, v] => (k, v)
  | d => (d, d)
def dictOf (ds : List D) : List (D × D) := (ds.map prOf).foldl (fun acc kv => dputK acc kv.1 kv.2) []
def fDictL (ds : List D) : Res D := if (ds.all prOk) = true ∧ ds.length ≤ sizeLine then .ok (.dict (dictOf ds)) else .stuck
def fDict : List D → Res D
  | [.list ds] => fDictL ds
  | [.tuple ds] => fDictL ds
  | _ => .stuck
section
variable {X : Cx} {pins : List (Addr × Obj)} {σ : L2.St} {H : Hp} {s : Shared} {G : Hp}
theorem pairs_rp (I : Inv X pins σ H s) (sm : Same G H) : ∀ {vs : List V} {us : List Value} {ds : List D}, Vals vs us → RpAll X.K G vs ds → (ds.all prOk) = true →
    ∃ (kvs : List (List Key × V)) (ps : List (List Key × Addr × Value)), KT H kvs ps ∧ RpT X.K G kvs (ds.map prOf) ∧ (∀ kv ∈ kvs, ∃ xs, kv.1 = sK xs) ∧ ps.length = us.length ∧
      ∀ (j : Nat) (q : List Key × Addr × Value), ps[j]? = some q → ∃ T, us[j]? = some (.ref T) ∧ s.heap.IsTuple T #[.ref q.2.1, q.2.2]
  | _, _, _, .nil, .nil, _ => ⟨[], [], .nil, .nil, fun _ h => by simp at h, rfl, fun j q h => by simp at h⟩
  | _, _, _, .cons h t, .cons (d := d) (ds := ds) r rr, ho => by

    rw [List.all_cons, Bool.and_eq_true] at ho
    obtain ⟨kvs, ps, h1, h2, h3, h4, h5⟩ := pairs_rp I sm t rr ho.2
    have ho1 := ho.1
    unfold prOk at ho1
    split at ho1
    · rename_i ks dv
      obtain ⟨T, xs, rfl, hs, ra⟩ := r.sqT
      cases h
      cases ra with
      | @cons kv _ _ _ rk rest =>
        cases rest with
        | @cons vv _ _ _ rv rest2 =>
          cases rest2
          obtain ⟨b, xs, rfl, rfl, hb⟩ := key_tup rk ho1
          obtain ⟨its, rvals, ⟨o, ho', hc, n, hd⟩, _⟩ := I.tuple (SqT.sm sm hs)
          obtain ⟨u1, u2, rfl, r1, r2⟩ := vals2 rvals
          cases r1
          refine ⟨(sK xs, vv) :: kvs, (sK xs, b, u2) :: ps, .cons ⟨rfl, sm _ _ hb, r2⟩ h1, ?_, ?_, by simp [h4], ?_⟩
          · show RpT X.K G ((sK xs, vv) :: kvs) ((.tuple (xs.map PyData.str), dv) :: ds.map prOf)
            rw [← sK_kD]
            exact .cons rv h2
          · intro kv hkv
            rcases List.mem_cons.mp hkv with rfl | hkv
            · exact ⟨xs, rfl⟩
            · exact h3 kv hkv
          · intro j q hj
            cases j with
            | zero =>
              simp at hj
              subst hj
              exact ⟨T, rfl, o, ho', hc, n, hd⟩
            | succ j =>
              obtain ⟨T', e1, e2⟩ := h5 j q (by simpa using hj)
              exact ⟨T', by simpa using e1, e2⟩
    · cases ho1
theorem KT.fold {H : Hp} : ∀ {kvs : List (List Key × V)} {ps : List (List Key × Addr × Value)} {acc : List (List Key × V)} {xs : List (List Key × Addr × Value)}, KT H kvs ps → KT H acc xs →
    KT H (kvs.foldl (fun a kv => putK a kv.1 kv.2) acc) (storedAllH xs ps)
  | _, _, _, _, .nil, r => r
  | _, _, acc, xs, .cons (a := p) (b := q) h t, r => by
    obtain ⟨h1, h2, h3⟩ := h
    have := KT.put r p.1 h2 h3
    rw [List.foldl_cons]
    rw [h1] at this
    rw [← h1] at this
    unfold storedAllH
    rw [List.foldl_cons, ← h1]
    exact KT.fold t this
theorem RpT.fold {K : PySem.W.Frag} : ∀ {kvs : List (List Key × V)} {ds : List (D × D)} {acc : List (List Key × V)} {ac : List (D × D)}, RpT K G kvs ds → (∀ kv ∈ kvs, ∃ xs, kv.1 = sK xs) → RpT K G acc ac →
    RpT K G (kvs.foldl (fun a kv => putK a kv.1 kv.2) acc) (ds.foldl (fun a kv => dputK a kv.1 kv.2) ac)
  | _, _, _, _, .nil, _, r => r
  | _, _, acc, ac, @RpT.cons _ _ k v kvs d ds h t, hk, r => by
    obtain ⟨xs, e⟩ := hk (k, v) (List.mem_cons_self ..)
    simp only at e
    subst e
    rw [List.foldl_cons, List.foldl_cons]
    refine RpT.fold t (fun kv h => hk kv (List.mem_cons_of_mem _ h)) ?_
    have := RpT.put xs h r
    rw [sK_kD]
    exact this
theorem fold_len : ∀ (kvs acc : List (List Key × V)), (kvs.foldl (fun a kv => putK a kv.1 kv.2) acc).length ≤ acc.length + kvs.length
  | [], acc => by simp
  | p :: r, acc => by
    have h1 := fold_len r (putK acc p.1 p.2)
    have h2 := length_putK acc p.1 p.2
    rw [List.foldl_cons, List.length_cons]
    omega
theorem IsTupleKey.mono {P : Program} {w : World} {h h' : Heap} {k : List Key} {b : Addr} (x : IsTupleKey (mixKind P w) h k b) (hk : ∀ o, h.get? b = some o → h'.get? b = some o) : IsTupleKey (mixKind P w) h' k b := by
  obtain ⟨o, its, n, h1, r⟩ := x
  exact ⟨o, its, n, hk _ h1, r⟩
theorem dict_core {vs : List V} {us : List Value} {ds : List D} {a : Addr} {Q : VK} (hcalm : X.calm = true) (hu : X.A.units + 66 < cLine) (I : Inv X pins σ H s) (sm : Same G H) (hs : PlainSeq "list" s.heap a us.toArray ∨ PlainSeq "tuple" s.heap a us.toArray) (rv : Vals vs us) (ra : RpAll X.K G vs ds)
    (q : PostVO Γ X.K G H Q (fDictL ds)) : wpAny (model X.prog X.w) X.A (call (.type "dict") [.ref a]) (EP X pins σ Q) X.xe s := by
  obtain ⟨⟨h1, h2⟩, q⟩ := PostVO.ite q
  obtain ⟨kvs, ps, e1, e2, e3, e4, e5⟩ := pairs_rp I sm rv ra h1
  have lps : ps.length = ds.length := by rw [e4, ← rv.length, ra.length]
  have lkv : kvs.length = ds.length := by rw [Paired.length e1, lps]
  -- the pairs as raw values
  let Ts : Nat → Addr := fun j => match us[j]? with | some (.ref T) => T | _ => 0
  let prs : List (Value × Value) := ps.map fun q => (.ref q.2.1, q.2.2)
  have hPI : PairItems s.heap us.toArray Ts prs := by
    refine ⟨by simp [prs, e4], fun j k v hj => ?_⟩
    simp only [prs, List.getElem?_map] at hj
    cases hp : ps[j]? with
    | none => rw [hp] at hj; cases hj
    | some q' =>
      rw [hp] at hj
      cases hj
      obtain ⟨T, f1, f2⟩ := e5 j q' hp
      have eT : Ts j = T := by simp only [Ts, f1]
      rw [eT]
      exact ⟨by simpa using f1, .inl f2⟩
  have hc : PairsHaveH (tupleKind (mixKind X.prog X.w)) prs.length (PairRel prs) ps := by
    refine ⟨by simp [prs], fun i key v hr => ?_⟩
    have hr' : prs[i]? = some (key, v) := hr
    simp only [prs, List.getElem?_map] at hr'
    cases hp : ps[i]? with
    | none => rw [hp] at hr'; cases hr'
    | some q' =>
      rw [hp] at hr'
      cases hr'
      exact ⟨q'.1, q'.2.1, rfl, rfl⟩
  have hkey : ∀ x ∈ ps, (tupleKind (mixKind X.prog X.w)).is s.heap x.1 x.2.1 := by
    intro x hx
    obtain ⟨j, hj⟩ := List.mem_iff_getElem?.mp hx
    obtain ⟨p, hp, f1, f2, _⟩ := DX.pget e1 hj
    rw [← f1]
    exact key_of I.hok f2
  have hst : KeysStay (tupleKind (mixKind X.prog X.w)) s.heap s.heap.objs.size [] ps := by
    intro h' hk x hx
    have := hkey x hx
    refine IsTupleKey.mono this fun o ho => hk _ o ?_ (by simp) ho
    exact Nat.ne_of_lt (Heap.lt_size ho)
  have hroom : (tupleKind (mixKind X.prog X.w)).room X.A.in1.in1 := by
    show X.A.units + 1 + 1 < cLine
    omega
  have fin : ∀ (h' : Heap) (tk : Nat), h'.DictOfH (tupleKind (mixKind X.prog X.w)) s.heap.objs.size (storedAllH [] ps) → (∀ b o, b ∉ ([] : List Addr) → s.heap.get? b = some o → h'.get? b = some o) → EP X pins σ Q (.ref s.heap.objs.size) { s with heap := h', toks := tk } := by
    intro h' tk hd hk
    have hf : H s.heap.objs.size = none := I.hok.fresh (Nat.le_refl _)
    obtain ⟨o, es, ep, g1, g2, g3, g4, g5, g6⟩ := hd
    have I2 : Inv X pins σ (upd H s.heap.objs.size (.dT (kvs.foldl (fun a kv => putK a kv.1 kv.2) []))) { s with heap := h', toks := tk } := by
      refine I.laid (fun b u e => hk b u (by simp) e) (Nat.le_refl _) ⟨?_, ?_, _, ?_, o, es, ep, g1, g2, g3, g4, g6⟩
      · have := fold_len kvs []
        simp only [List.length_nil] at this
        omega
      · exact beq_eq_false_iff_ne.mpr (Ne.symm (Nat.ne_of_lt I.big))
      · exact (KT.fold e1 (.nil : KT H [] [])).keeps fun b ys eb => by rw [upd_ne (ne_of_none eb hf)]; exact eb
    refine ⟨.ref s.heap.objs.size, _, I2, rfl, PostVO.now q sm hf (.inr (.inl ⟨_, _, rfl, rfl, ?_⟩))⟩
    exact RpT.fold e2 e3 .nil
  have hsz : prs.length ≤ sizeLine := by simp [prs, lps]; exact h2
  rcases hs with hs | hs
  · exact PySem.call_dict_pairsH (PairArg.list a us.toArray Ts prs) (I.ok.hd hcalm) hroom ⟨hs, hPI⟩ hc hst hsz fin
  · exact PySem.call_dict_pairsH (PairArg.tuple a us.toArray Ts prs) (I.ok.hd hcalm) hroom ⟨hs, hPI⟩ hc hst hsz fin
end
section
variable {X : Cx}
theorem call_fDict (hcalm : X.calm = true) (hu : X.A.units + 66 < cLine) : CallO Γ X (.type "dict") fDict := by
  intro pins s σ H xs us Q I r ⟨G, ds, sm, ra, q⟩
  unfold fDict at q
  split at q
  · obtain ⟨v, rfl, rv⟩ := ra.one1
    obtain ⟨u, rfl, ru⟩ := vals1 r
    cases rv with
    | lst h1 r1 =>
      cases ru
      obtain ⟨z, its, n, rv2, hg⟩ := I.hok _ _ (sm _ _ h1)
      exact dict_core hcalm hu I sm (.inl ⟨_, n, hg, rfl, rfl, rfl⟩) rv2 r1 q
  · rename_i ds
    obtain ⟨v, rfl, rv⟩ := ra.one1
    obtain ⟨u, rfl, ru⟩ := vals1 r
    have hk : keyish ds = false := by
      have h1 := (PostVO.ite q).1.1
      cases ds with
      | nil => rfl
      | cons d ds =>
        rw [List.all_cons, Bool.and_eq_true] at h1
        cases d <;> first | rfl | (exact absurd h1.1 (by simp [prOk]))
    generalize e : PyData.tuple ds = d at rv
    cases rv with
    | @tup a o xs ds' h1 po r1 =>
      cases e
      cases ru
      rw [hk] at h1
      obtain ⟨hg, z, its, rv2, o', ho', hc', n, hd'⟩ := I.hok _ _ (sm _ _ h1)
      rw [hg] at ho'
      cases ho'
      exact dict_core hcalm hu I sm (.inr ⟨o, n, hg, hc', po.2, hd'⟩) rv2 r1 q
    | wtup _ _ => cases e; exact absurd (PostVO.ite q).1.1 (by simp [prOk])
    | _ => cases e
  · exact q.elim

/-! ### sorted(d.items()) -/
/-- the heap's key tuples and all that is new are taken into the ground -/
def adopt (G H H2 : Hp) : Hp := fun b => match H b with
  | none => (match H2 b with | some (.tbl _) => none | o => o)
  | some (.tup xs) => some (.tup xs)
  | some _ => G b
theorem adopt_none {G H H2 : Hp} {b : Addr} {o : HO} (e3 : H b = none) (e : adopt G H H2 b = some o) : H2 b = some o ∧ noTbl o := by
  unfold adopt at e
  rw [e3] at e
  simp only at e
  split at e
  · cases e
  · rename_i hn
    refine ⟨e, fun ps z => ?_⟩
    subst z
    exact hn ps e
theorem adopt_ext {Γ : Tbs} {G H H2 : Hp} (s : Same G H) (h : Same H H2) : GExt Γ G H (adopt G H H2) H2 := by
  refine ⟨.of h, fun b o e => ?_, fun b o e => ?_, fun b o e => ?_⟩
  · have e2 := s _ _ e
    cases hb : H b with
    | none => rw [hb] at e2; cases e2
    | some u =>
      rw [hb] at e2
      cases e2
      unfold adopt
      rw [hb]
      cases o <;> first | rfl | exact e
  · cases hb : H b with
    | none => exact (adopt_none hb e).1
    | some u =>
      unfold adopt at e
      rw [hb] at e
      cases u with
      | tup xs => cases e; exact h _ _ hb
      | _ => exact h _ _ (s _ _ e)
  · cases hb : H b with
    | none => exact .inr ⟨(adopt_none hb e).2, .inl rfl⟩
    | some u =>
      unfold adopt at e
      rw [hb] at e
      cases u with
      | tup xs => cases e; exact .inr ⟨plain_tup.1, .inr ⟨_, rfl⟩⟩
      | _ => exact .inl e
theorem adopt_new {G H H2 : Hp} {b : Addr} (h : H b = none) (no : ∀ ps, H2 b ≠ some (.tbl ps)) : adopt G H H2 b = H2 b := by
  unfold adopt
  rw [h]
  cases hb : H2 b with
  | none => rfl
  | some o => cases o <;> first | rfl | exact absurd hb (no _)
theorem adopt_tup {G H H2 : Hp} {b : Addr} {xs : List V} (h : H b = some (.tup xs)) : adopt G H H2 b = some (.tup xs) := by unfold adopt; rw [h]
theorem takeF {pins : List (Addr × Obj)} {σ : L2.St} {H0 : Hp} {s : Shared} {h' : Heap} {tk : Nat} {P : Addr → HO → Prop} (I0 : Inv X pins σ H0 s) : ∀ (L : List Addr) (H1 : Hp), Inv X pins σ H1 { s with heap := h', toks := tk } → L.Nodup →
    (∀ a ∈ L, s.heap.objs.size ≤ a ∧ H1 a = none ∧ ∃ o, P a o ∧ ∀ H2, ObjOk X.prog X.w H2 h' a o) →
    ∃ H2, Inv X pins σ H2 { s with heap := h', toks := tk } ∧ Same H1 H2 ∧ ∀ a ∈ L, ∃ o, P a o ∧ H2 a = some o
  | [], H1, I1, _, _ => ⟨H1, I1, fun _ _ e => e, fun _ h => nomatch h⟩
  | a :: L, H1, I1, hn, h => by
    obtain ⟨hb, hnone, o, hP, ok⟩ := h a (List.mem_cons_self ..)
    have I2 : Inv X pins σ (upd H1 a o) { s with heap := h', toks := tk } := I1.take (h' := h') (t' := tk) (fun b ob _ e => e) (I0.fpOk hb hnone) (ok _)
    rw [List.nodup_cons] at hn
    obtain ⟨H2, I3, g, q⟩ := takeF (P := P) I0 L (upd H1 a o) I2 hn.2 fun c hc => by
      obtain ⟨c1, c2, c3⟩ := h c (List.mem_cons_of_mem _ hc)
      exact ⟨c1, by rw [upd_ne (fun z => hn.1 (by rw [← z]; exact hc))]; exact c2, c3⟩
    refine ⟨H2, I3, fun b o e => g b o (by rw [upd_ne (ne_of_none e hnone)]; exact e), fun c hc => ?_⟩
    rcases List.mem_cons.mp hc with rfl | hc
    · exact ⟨o, hP, g _ _ upd_same⟩
    · exact q c hc
theorem RpAll.of_get {K : PySem.W.Frag} {G : Hp} : ∀ {vs : List V} {ds : List D}, vs.length = ds.length → (∀ (j : Nat) (v : V) (d : D), vs[j]? = some v → ds[j]? = some d → Rp K G v d) → RpAll K G vs ds
  | [], [], _, _ => .nil
  | [], _ :: _, h, _ => by simp at h
  | _ :: _, [], h, _ => by simp at h
  | v :: vs, d :: ds, h, f => .cons (f 0 v d rfl rfl) (RpAll.of_get (by simpa using h) fun j v d h1 h2 => f (j + 1) v d (by simpa using h1) (by simpa using h2))
theorem vals_refs : ∀ as : List Addr, Vals (as.map V.ref) (as.map Value.ref)
  | [] => .nil
  | a :: as => .cons rfl (vals_refs as)
def rSortItD (Γ : Tbs) (K : PySem.W.Frag) : List V → Hp → VK → Prop := fun vs H Q => ∃ p a kvs G ds, vs = [.ref p] ∧ H p = some (DX.itemsO p a) ∧ H a = some (.dT kvs) ∧ Same G H ∧ RpT K G kvs ds ∧ (ds.all fun kv => keyD kv.1) = true ∧
  PostVO Γ K G H Q (fSortL (ds.map fun kv => .tuple [kv.1, kv.2]))
theorem cr_sortedItD (hc : X.calm = true) (hu : X.A.units + 66 < cLine) : CallR X (.builtin "sorted") (rSortItD Γ X.K) := by
  intro pins s σ H xs us Q I r h
  obtain ⟨p, a, kvs, G, ds, rfl, hp, ha, sm, rr, hkd, q⟩ := h
  obtain rfl := Vals.ref1 r
  obtain ⟨⟨h1, h2⟩, q⟩ := PostVO.ite q
  obtain ⟨hsh, hal⟩ := sortOk_inv h1
  have view : s.heap.IsItemsView p a := (show ObjOk X.prog X.w H s.heap p (DX.itemsO p a) from I.hok p _ hp).1
  obtain ⟨z, hd, xs', rel, o, es, ep, ho, hx, hdat, hes, his, hn⟩ := dt_of I.hok ha
  have l1 : kvs.length = xs'.length := Paired.length rel
  have l2 : es.size = xs'.length := size_of_entries hes
  have l3 : kvs.length = ds.length := rr.len
  have hh : X.A.handled = none := I.ok.hd hc
  refine DT.sortedI (es := es) (ep := ep) hh view ⟨o, ho, hx, hdat⟩ (by omega) fun h' tk as hk hlt hl hG => ?_
  have lak : as.length = kvs.length := by omega
  have nd : as.Nodup := List.Pairwise.imp (fun h => Nat.ne_of_lt h) hG.rise
  have pr : ∀ (j : Nat) (b : Addr), as[j]? = some b → ∃ (k : List Key) (v : V) (kq : Addr) (u : Value), kvs[j]? = some (k, v) ∧ H kq = some (.tup (k.map kV)) ∧ L2.RelV v u ∧ h'.get? b = some { cls := .type "tuple", data := .seq #[Value.ref kq, u] } := by
    intro j b hj
    obtain ⟨en, he, hg⟩ := hG.pairs j b hj
    rw [entry_at hes j] at he
    cases hxj : xs'[j]? with
    | none =>
      rw [hxj] at he
      exact nomatch (show (none : Option DictEntry) = some en from he)
    | some x =>
      rw [hxj] at he
      have een : entryOfKey (tupleKind (mixKind X.prog X.w)) x = en := Option.some.inj he
      obtain ⟨e0, he0, r1, r2, r3⟩ := DX.pget rel hxj
      refine ⟨e0.1, e0.2, x.2.1, x.2.2, he0, r2, r3, ?_⟩
      rw [hg, ← een]
      rfl
  have I1 : Inv X pins σ H { s with heap := h', toks := tk } := I.kept (t' := tk) hk
  obtain ⟨H2, I2, g, qt⟩ := takeF (P := fun b o => ∃ (j : Nat) (k : List Key) (v : V) (kq : Addr) (ob : Obj), as[j]? = some b ∧ kvs[j]? = some (k, v) ∧ H kq = some (.tup (k.map kV)) ∧ PlainO ob ∧ o = .frz ob (.tup [.ref kq, v])) I as _ I1 nd fun b hb => by
    obtain ⟨j, hj⟩ := List.mem_iff_getElem?.mp hb
    obtain ⟨k, v, kq, u, e1, e2, e3, e4⟩ := pr j b hj
    have hbl : s.heap.objs.size ≤ b := Nat.le_of_lt (hG.above b hb)
    refine ⟨hbl, I.hok.fresh hbl, _, ⟨j, k, v, kq, _, hj, e1, e2, plain_new _, rfl⟩, fun H3 => ⟨e4, ?_, [Value.ref kq, u], .cons rfl (.cons e3 .nil), ⟨_, e4, rfl, 0, rfl⟩⟩⟩
    rw [sizeLine_eq]
    show 2 ≤ 16777216
    omega
  have x2 := adopt_ext (Γ := Γ) sm g
  have ra : RpAll X.K (adopt G H H2) (as.map V.ref) (ds.map fun kv => PyData.tuple [kv.1, kv.2]) := by
    refine RpAll.of_get (by simp; omega) fun j v d hv hd' => ?_
    rw [List.getElem?_map] at hv hd'
    cases e1 : as[j]? with
    | none => rw [e1] at hv; cases hv
    | some b =>
      rw [e1] at hv
      cases hv
      have hbm := List.mem_of_getElem? e1
      obtain ⟨_, ⟨i, k, v, kq, ob, f1, f2, f3, f4, rfl⟩, f5⟩ := qt b hbm
      have eij : i = j := (List.getElem?_inj (List.getElem?_eq_some_iff.mp f1).1 nd).mp (f1.trans e1.symm)
      subst eij
      obtain ⟨d2, g1, g2⟩ := rr.at_ f2
      rw [g1] at hd'
      cases hd'
      have hHb : H b = none := I.hok.fresh (Nat.le_of_lt (hG.above b hbm))
      have hki : keyish (k.map kD) = true := List.all_eq_true.mp hkd _ (List.mem_of_getElem? g1)
      refine .tup (o := ob) (xs := [.ref kq, v]) ?_ f4 (.cons (.tup (o := ob) (xs := k.map kV) ?_ f4 (RpAll.keysT k)) (.cons (g2.sm x2.g) .nil))
      · rw [adopt_new hHb (fun ps z => by rw [f5] at z; cases z), f5]
        rfl
      · rw [adopt_tup f3, hki]
        rfl
  have e1 := std_each (vals_refs as) ra
  have e2 : EachIs (fun v d => ∃ as, Reads h' v d as) (as.map Value.ref) (ds.map fun kv => PyData.tuple [kv.1, kv.2]) := EachIs.imp2 e1 fun v d hd h => h.reads I2 x2.s (hsh d hd)
  have hob : (h'.push { cls := .type "list", data := .seq (as.map Value.ref).toArray }).get? h'.objs.size = some (seqObj "list" (as.map Value.ref).toArray 0) := Heap.get?_push_size _ rfl
  have ne0 : ∀ b o, h'.get? b = some o → b ≠ h'.objs.size := fun b o e => Nat.ne_of_lt (Heap.lt_size e)
  have kb : ∀ b o, h'.get? b = some o → (h'.push { cls := .type "list", data := .seq (as.map Value.ref).toArray }).get? b = some o := fun b o e => Heap.get?_push_of_some _ e
  generalize hh2 : h'.push { cls := .type "list", data := .seq (as.map Value.ref).toArray } = h2' at hob kb ⊢
  have e3 : EachIs (fun v d => ∃ as', Reads (sortingHeap h2' h'.objs.size (as.map Value.ref)) v d as') (as.map Value.ref) (ds.map fun kv => PyData.tuple [kv.1, kv.2]) :=
    e2.mono fun _ _ ⟨as', r⟩ => ⟨as', PyProof.Rows.Reads.keeps (fun b o e => sortingHeap_old (ne0 b o e) (kb b o e)) r⟩
  refine wpAny_call_entry PyProof.Rows.slot_list_sort ⟨_, hob, rfl⟩ PyProof.Rows.entry_list_sort
    (list_sort_vals (s := { s with heap := h2', toks := tk }) hob (sortsAt_rows (s := { s with heap := sortingHeap h2' h'.objs.size (as.map Value.ref), toks := tk }) (A := X.A.in1.in1) e3 hal fun d hd => ?_) (by rw [List.length_map]; omega) ⟨.none, rfl, ?_⟩) (PyProof.Rows.args_list_sort _)
  · have := SeqAt.depth_of_shaped (hsh d hd)
    show X.A.units + 1 + 1 + d.depth < cLine
    omega
  · have eo : EachIs (Std X.K (adopt G H H2)) (sortVals (dataKind (sortingHeap h2' h'.objs.size (as.map Value.ref)) (ds.map fun kv => PyData.tuple [kv.1, kv.2])) false (as.map Value.ref) (as.map Value.ref)) ((ds.map fun kv => PyData.tuple [kv.1, kv.2]).mergeSort leD) :=
      sortVals_each (κ := dataKind (sortingHeap h2' h'.objs.size (as.map Value.ref)) (ds.map fun kv => PyData.tuple [kv.1, kv.2])) (fun d => keyToks d) e1 (EachIs.imp2 e3 fun v d hd ⟨as, r⟩ => dataKind_some2 hal hd r)
    obtain ⟨xs, h3, h4⟩ := each_std eo
    generalize sortVals (dataKind (sortingHeap h2' h'.objs.size (as.map Value.ref)) (ds.map fun kv => PyData.tuple [kv.1, kv.2])) false (as.map Value.ref) (as.map Value.ref) = out at h3 ⊢
    obtain ⟨n, hn'⟩ := PyProof.Rows.sortedHeap_at (vs := as.map Value.ref) (out := out.toArray) hob
    have kF : ∀ b o, h'.get? b = some o → (sortedHeap h2' h'.objs.size (as.map Value.ref) out.toArray).get? b = some o := fun b o e => (PyProof.Rows.sortedHeap_old (ne0 b o e) (Heap.lt_size (kb b o e))).trans (kb b o e)
    have hf2 : H2 h'.objs.size = none := I2.hok.fresh (Nat.le_refl _)
    have hf : H h'.objs.size = none := I.hok.fresh (Nat.le_of_lt hlt)
    have hlen : xs.length ≤ sizeLine := by rw [h4.length, List.length_mergeSort]; simpa using h2
    have I3 := I2.laid (o := .lst xs) (t' := tk) (h' := sortedHeap h2' h'.objs.size (as.map Value.ref) out.toArray) kF (Nat.le_refl _) ⟨hlen, _, n, h3, by first | exact hn' | simpa using hn'⟩
    have hs : Same H2 (upd H2 h'.objs.size (.lst xs)) := fun b u e => by rw [upd_ne (ne_of_none e hf2)]; exact e
    exact ⟨.ref h'.objs.size, _, I3, rfl, q h'.objs.size _ (adopt G H H2) _ (x2.trans (GExt.heap x2.s hs)) hf (by rw [adopt_new hf (fun ps z => by rw [hf2] at z; cases z)]; exact hf2) upd_same (.inl ⟨xs, _, rfl, rfl, h4⟩)⟩
/-- sorted(x.items()), x one's own dict or a datum -/
def mSortIt (i : Nat) : M := fun ρ => match ρ[i]? with
  | some (some (.own (.dict kvs))) => if allT kvs = true ∧ (kvs.all fun kv => keyD kv.1) = true then fSortL (kvs.map fun kv => .tuple [kv.1, kv.2]) else .stuck
  | _ => .stuck
theorem do_sortIt {i : Nat} {e : Expr} {p pos : Pos} (hc : X.calm = true) (hu : X.A.units + 66 < cLine) (hcall : PE X e (tBM0 X.K "dict" DX.rItemsT (tVar i))) (hg : Gl X "sorted") (hm : X.mg "sorted" = none)
    (he : starEach [e] X.env = [(false, eval e X.env)] := by rfl) (hpl : (backTo pos (starEach [] X.env)).any (·.1) = false := by rfl) :
    DO Γ X (.Call (.Name "sorted" p) [e] [] pos) (mSortIt i) :=
  ⟨fun W tk => pe_imp (pe_callB (cr_sortedItD hc hu) hg hm (by rfl) (pa_cons hcall pa_nil he) (by decide) (by decide) he hpl) fun σ H Q ⟨G, ρ, R, h⟩ => by
    unfold mSortIt at h
    split at h
    · rename_i kvs e
      by_cases hk : allT kvs = true ∧ (kvs.all fun kv => keyD kv.1) = true
      · rw [if_pos hk] at h
        obtain ⟨a, ks, h1, ha, hg, rr⟩ := R.ownT e hk.1
        refine ⟨.ref a, h1, .inr (.inr (.inl ⟨rfl, .inr ⟨_, ha⟩⟩)), a, ks, rfl, rfl, ha, fun p hp => ?_⟩
        have sm2 : Same H (upd H p (DX.itemsO p a)) := fun b u e => by rw [upd_ne (ne_of_none e hp)]; exact e
        refine ⟨p, a, ks, G, kvs, rfl, upd_same, by rw [upd_ne (ne_of_none ha hp)]; exact ha, R.s.trans sm2, rr, hk.2, ?_⟩
        cases ef : fSortL (kvs.map fun kv => PyData.tuple [kv.1, kv.2]) with
        | ok d =>
          rw [ef] at h
          exact fun b o G' H' x n1 n2 hb q => h b o G' H' ((GExt.heap R.s sm2).trans x) (sm2.free n1) n2 hb q
        | exc c => exact (by unfold fSortL at ef; split at ef <;> cases ef)
        | stuck => rw [ef] at h; exact h.elim
      · rw [if_neg hk] at h; exact h.elim
    · exact h.elim⟩
end
end De
end

section
set_option Elab.async false
set_option linter.all false
set_option maxRecDepth 100000
/-! De15: isinstance, <, unary minus, zip, statements never reached. -/
namespace De
open PySem PySem.Spec PyProof.Rows L2
open PySem.W PySem.SeqAt

/-! ### isinstance(x, T) -/
def tyD : D → Option String
  | .none => some "NoneType"
  | .bool _ => some "bool"
  | .int _ => some "int"
  | .str _ => some "str"
  | .list _ => some "list"
  | .tuple _ => some "tuple"
  | .dict _ => none
def isiB (t T : String) : Bool := decide (t = T) || (decide (t = "bool") && decide (T = "int"))
def okT (T : String) : Bool := T ∈ ["str", "tuple", "int", "bool", "list", "dict"]
theorem kit_isi {t T : String} {d : D} (h : tyD d = some t) (hT : okT T = true) : kitB t T = some (isiB t T) := by
  have ht : t ∈ ["NoneType", "bool", "int", "str", "list", "tuple"] := by
    cases d <;> simp [tyD] at h <;> subst h <;> simp
  have hT' : T ∈ ["str", "tuple", "int", "bool", "list", "dict"] := by simpa [okT] using hT
  have all : ∀ t ∈ ["NoneType", "bool", "int", "str", "list", "tuple"], ∀ T ∈ ["str", "tuple", "int", "bool", "list", "dict"], kitB t T = some (isiB t T) := by decide +kernel
  exact all t ht T hT'
def fIsi (T : String) (d : D) : Res D := if okT T = true then (match tyD d with | some t => .ok (.bool (isiB t T)) | none => .stuck) else .stuck
theorem rp_tyx {K : PySem.W.Frag} {G H : Hp} {v : V} {d : D} {t : String} (s : Same G H) (r : Rp K G v d) (h : tyD d = some t) : TyX K H v (.type t) := by
  cases r with
  | non => cases h; exact .base .non
  | bl b => cases h; exact .base (.bl b)
  | int i => cases h; exact .base (.int i)
  | str x => cases h; exact .base (.str x)
  | lst hh a => cases h; exact .base (.lst (s _ _ hh))
  | tup hh po a =>
    cases h
    unfold mkT at hh
    split at hh
    · exact .base (.tup (s _ _ hh))
    · exact .fTuple (s _ _ hh)
  | wtup hh _ =>
    cases h
    rcases hh (fun _ => none) with (h1 | ⟨o, h1⟩) | ⟨o, its, n, h1, h2, _⟩
    · cases h1
    · cases h1
    · exact .kTuple h1 h2
  | scr _ => cases h
  | dct _ _ => cases h
  | dck _ _ _ => cases h
  | lse _ _ => cases h
section
variable {X : Cx}
def mIsi (T : String) (m : M) : M := fun ρ => (m ρ).bind fun d => fIsi T d
theorem de_isi {T : String} {Ts : Str} {e : Expr} {m : M} {p p2 pos : Pos} (he : DE Γ X e m) (hg : Gl X "isinstance") (hm : X.mg "isinstance" = none) (hg2 : Gl X Ts) (hm2 : X.mg Ts = none) (hv : bootBuiltins Ts = some (.type T)) (hn : Ts ≠ "__name__" := by decide) (hd : (Ts == ("__debug__" : Str)) = false := by decide)
    (hs : starEach [e, .Name Ts p2] X.env = (false, eval e X.env) :: starEach [.Name Ts p2] X.env := by rfl) (hs2 : starEach [.Name Ts p2] X.env = (false, eval (.Name Ts p2) X.env) :: starEach [] X.env := by rfl) (hpl : (backTo pos (starEach [.Name Ts p2] X.env)).any (·.1) = false := by rfl) :
    DE Γ X (.Call (.Name "isinstance" p) [e, .Name Ts p2] [] pos) (mIsi T m) :=
  ⟨fun W tk => pe_imp (pe_callB call_isi hg hm (by rfl) (pa_cons (he.run W tk) (pa_cons (pe_bltn hg2 hm2 hv (show RelV (.ty T) (.type T) from rfl) hn hd) pa_nil hs2) hs) (by decide) (by decide) hs hpl) fun σ H Q ⟨G, ρ, R, h⟩ => ⟨G, ρ, R, Post.bind h fun d v G' H' _ x r q => by
    obtain ⟨hT, q⟩ := Post.ite q
    split at q
    · rename_i t e
      exact ⟨v, .ty T, .type t, .type T, isiB t T, rfl, .ty T, rp_tyx x.s r e, kit_ty (kit_isi e hT), Post.now x.s q (.bl _)⟩
    · exact q.elim⟩⟩

/-! ### - -/
def fNeg : D → Res D
  | .int i => .ok (.int (-i))
  | _ => .stuck
def mUn (f : D → Res D) (m : M) : M := fun ρ => (m ρ).bind fun d => (f d).plain
theorem de_neg {e : Expr} {m : M} {pos : Pos} (he : DE Γ X e m) : DE Γ X (.UnaryOp .USub e pos) (mUn fNeg m) :=
  ⟨fun W tk => pe_imp (pe_un un_neg (he.run W tk)) fun σ H Q ⟨G, ρ, R, h⟩ => ⟨G, ρ, R, Post.bind h fun d v G' H' _ x r q => by
    cases d with
    | int i => cases r; exact ⟨i, rfl, Post.now x.s q (.int _)⟩
    | _ => exact False.elim q⟩⟩

/-! ### < -/
def fLt : D → D → Res D
  | .int i, .int j => .ok (.bool (decide (i < j)))
  | .tuple xs, .tuple ys => if (SeqAt.shaped (.tuple xs) && SeqAt.shaped (.tuple ys) && alikeAll xs ys) = true then .ok (.bool (dataLt (.tuple xs) (.tuple ys))) else .stuck
  | _, _ => .stuck
theorem op_fLt (hu : X.A.units + 66 < cLine) : OpD Γ X (compareOp .Lt) fLt := by
  intro pins s σ H x y v u Q I rx ry ⟨G, a, b, sm, ra, rb, q⟩
  cases a <;> cases b <;> first | exact False.elim q | skip
  · cases ra; cases rb
    exact op_lt pins s σ H _ _ v u Q I rx ry ⟨_, _, rfl, rfl, q.now sm (.bl _)⟩
  · rename_i xs ys
    obtain ⟨hc, q⟩ := PostV.ite q
    obtain ⟨hc, h3⟩ := Bool.and_eq_true_iff.mp hc
    obtain ⟨h1, h2⟩ := Bool.and_eq_true_iff.mp hc
    obtain ⟨as, r1⟩ := Dp.reads I _ x v (ra.dpH sm h1) rx
    obtain ⟨bs, r2⟩ := Dp.reads I _ y u (rb.dpH sm h2) ry
    have hd := SeqAt.depth_of_shaped h1
    exact (show wpAny (model X.prog X.w) X.A (richCompare .Lt v u) (EP X pins σ Q) X.xe s from
      rcLt_alike (.tuple xs) (.tuple ys) X.A s v u as bs r1 r2 (by simpa [alike] using h3) (by simp) (by omega) X.prog X.w X.xe _ ⟨.bl _, H, I, rfl, q.now sm (.bl _)⟩)

/-! ### zip of two lists or two tuples -/
def zipD (xs ys : List D) : List D := (xs.zip ys).map fun p => lseD [p.1, p.2]
def asZip : List D → Res (List D)
  | [.tuple xs, .tuple ys] => if xs.length ≤ sizeLine then .ok (zipD xs ys) else .stuck
  | [.list xs, .list ys] => if xs.length ≤ sizeLine then .ok (zipD xs ys) else .stuck
  | _ => .stuck
theorem zipD_at {xs ys : List D} {i : Nat} {d : D} (h : (zipD xs ys)[i]? = some d) : ∃ x y, xs[i]? = some x ∧ ys[i]? = some y ∧ d = lseD [x, y] := by
  unfold zipD at h
  rw [List.getElem?_map] at h
  cases e : (xs.zip ys)[i]? with
  | none => rw [e] at h; cases h
  | some p =>
    rw [e] at h
    cases h
    obtain ⟨h1, h2⟩ := List.getElem?_zip_eq_some.mp e
    exact ⟨_, _, h1, h2, rfl⟩
theorem zipD_len (xs ys : List D) : (zipD xs ys).length = min xs.length ys.length := by simp [zipD]
theorem itOk_zipT {K : PySem.W.Frag} {G : Hp} {a b : Addr} {xs ys : List V} {ds es : List D} (ha : SqT K G a xs) (hb : SqT K G b ys) (r1 : RpAll K G xs ds) (r2 : RpAll K G ys es) (hl : ds.length ≤ sizeLine) : ItOk Γ K (RZ.ItzT K a b) G (zipD ds es) := by
  have l1 := r1.length
  have l2 := r2.length
  refine ⟨by rw [zipD_len]; omega, fun i H s hi => ⟨xs, ys, SqT.sm s ha, SqT.sm s hb, by rw [zipD_len] at hi; omega⟩, fun i H s hi => ?_, fun i G2 H x H' d s1 s2 hd y => ?_⟩
  · rw [zipD_len] at hi
    have h1 : i < xs.length := by omega
    have h2 : i < ys.length := by omega
    exact ⟨xs, ys, xs[i], ys[i], SqT.sm s ha, SqT.sm s hb, by simp [h1], by simp [h2]⟩
  · obtain ⟨T, x1, y1, rfl, hT, rfl, h1, h2⟩ := y
    obtain ⟨d1, d2, e1, e2, rfl⟩ := zipD_at hd
    obtain ⟨w1, g1, q1⟩ := r1.get e1
    obtain ⟨w2, g2, q2⟩ := r2.get e2
    have z1 := h1 xs (SqT.sm (s1.trans s2) ha)
    have z2 := h2 ys (SqT.sm (s1.trans s2) hb)
    rw [g1] at z1
    rw [g2] at z2
    cases z1
    cases z2
    have x := GExt.new (Γ := Γ) (o := .tup [x1, y1]) s2 plain_tup.1 hT
    exact ⟨_, x, .lse (.of upd_same) (.cons (q1.sm (s1.trans x.g)) (.cons (q2.sm (s1.trans x.g)) .nil))⟩
theorem itOk_zipL {K : PySem.W.Frag} {G : Hp} {a b : Addr} {xs ys : List V} {ds es : List D} (ha : SqL K G a xs) (hb : SqL K G b ys) (r1 : RpAll K G xs ds) (r2 : RpAll K G ys es) (hl : ds.length ≤ sizeLine) : ItOk Γ K (Itz K a b) G (zipD ds es) := by
  have l1 := r1.length
  have l2 := r2.length
  refine ⟨by rw [zipD_len]; omega, fun i H s hi => ⟨xs, ys, SqL.sm s ha, SqL.sm s hb, by rw [zipD_len] at hi; omega⟩, fun i H s hi => ?_, fun i G2 H x H' d s1 s2 hd y => ?_⟩
  · rw [zipD_len] at hi
    have h1 : i < xs.length := by omega
    have h2 : i < ys.length := by omega
    exact ⟨xs, ys, xs[i], ys[i], SqL.sm s ha, SqL.sm s hb, by simp [h1], by simp [h2]⟩
  · obtain ⟨T, x1, y1, rfl, hT, rfl, h1, h2⟩ := y
    obtain ⟨d1, d2, e1, e2, rfl⟩ := zipD_at hd
    obtain ⟨w1, g1, q1⟩ := r1.get e1
    obtain ⟨w2, g2, q2⟩ := r2.get e2
    have z1 := h1 xs (SqL.sm (s1.trans s2) ha)
    have z2 := h2 ys (SqL.sm (s1.trans s2) hb)
    rw [g1] at z1
    rw [g2] at z2
    cases z1
    cases z2
    have x := GExt.new (Γ := Γ) (o := .tup [x1, y1]) s2 plain_tup.1 hT
    exact ⟨_, x, .lse (.of upd_same) (.cons (q1.sm (s1.trans x.g)) (.cons (q2.sm (s1.trans x.g)) .nil))⟩
theorem di_zip {elts : List Expr} {kk : Nat} {e e2 : Expr} {m : MA} {p pos tpos : Pos} (hg : Gl X "zip") (hm : X.mg "zip" = none) (ha : DA Γ X [e, e2] m)
    (hs : starEach [e, e2] X.env = (false, eval e X.env) :: starEach [e2] X.env := by rfl) (hpl : (backTo pos (starEach [e2] X.env)).any (·.1) = false := by rfl) :
    DI Γ X (.Tuple elts kk tpos) (.Call (.Name "zip" p) [e, e2] [] pos) (fun ρ => (m ρ).bind asZip) :=
  ⟨fun W tk => pi_imp (RZ.pi_zipA hg hm (ha.run W tk) hs hpl) fun σ H Q ⟨G, ρ, R, h⟩ => ⟨G, ρ, R, PostI.bindA h fun ds vs G' H' _ x r q => by
    unfold asZip at q
    split at q
    · obtain ⟨hl, q⟩ := PostI.ite q
      obtain ⟨v, w, rfl, rv, rw'⟩ := r.two2
      obtain ⟨a, xs, rfl, h1, r1⟩ := rv.sqT
      obtain ⟨b, ys, rfl, h2, r2⟩ := rw'.sqT
      exact ⟨a, b, xs, ys, rfl, .inr ⟨SqT.sm x.s h1, SqT.sm x.s h2, q _ G' H' (GExt.refl x.s) (itOk_zipT h1 h2 r1 r2 hl)⟩⟩
    · obtain ⟨hl, q⟩ := PostI.ite q
      obtain ⟨v, w, rfl, rv, rw'⟩ := r.two2
      cases rv with
      | @lst a xs _ h1 r1 =>
        cases rw' with
        | @lst b ys _ h2 r2 =>
          exact ⟨a, b, xs, ys, rfl, .inl ⟨SqL.sm x.s (.of h1), SqL.sm x.s (.of h2), q _ G' H' (GExt.refl x.s) (itOk_zipL (.of h1) (.of h2) r1 r2 hl)⟩⟩
    · exact q.elim⟩⟩

/-! ### never reached -/
def mStuck : MS := fun _ => .stuck
theorem ds_stuck {st : Stmt} : DS Γ X st mStuck := ⟨fun W tk => ps_imp ps_never fun E σ H ⟨B, ρ, R, h⟩ => h⟩
theorem dss_stuck {sts : List Stmt} : DSs Γ X sts mStuck := ⟨fun W tk => pss_imp pss_never fun E σ H ⟨B, ρ, R, h⟩ => h⟩
end
end De
end

section
set_option Elab.async false
set_option linter.all false
set_option maxRecDepth 100000
/-! De16: the rules with what can be seen of the text asked by rfl. -/
namespace De
open PySem PySem.Spec PyProof.Rows L2
open PySem.W PySem.SeqAt
theorem Room.u66 {k : Nat} {A : Around} (r : Room k A) : A.units + 66 < cLine := by have := r.un; omega
section
variable {X : Cx}
theorem xv (i : Nat) {x : Str} {pos : Pos} (hN : X.N[i]? = some x := by rfl) (hv : Vis X.env.scope x := by first | exact Or.inl rfl | exact Or.inr (Or.inl rfl) | exact Or.inr (Or.inr rfl)) (hd : (x == ("__debug__" : Str)) = false := by decide) (hcd : (x == ("__classdict__" : Str)) = false := by decide) : DE Γ X (.Name x pos) (mVar i) := de_var hN hv hd hcd
theorem xg {x : Str} {pos : Pos} {d : D} (g : GlobD X.K X.mg x d) (hg : Gl X x := by rfl) (hd : (x == ("__debug__" : Str)) = false := by decide) : DE Γ X (.Name x pos) (mC d) := de_glob g hg hd
theorem xcmp {op : CmpOp} {f : D → D → Res D} {a b : Expr} {m1 m2 : M} {pos : Pos} (ho : OpD Γ X (compareOp op) f) (ha : DE Γ X a m1) (hb : DE Γ X b m2) (hm : behindInMarks op b = false := by first | rfl | exact nomark _) : DE Γ X (.Compare a [op] [b] pos) (mOp f m1 m2) := de_cmp ho ha hb hm
theorem tcmp {op : CmpOp} {f : D → D → Res D} {a b : Expr} {m1 m2 : M} {pos : Pos} (ho : OpD Γ X (compareOp op) f) (ha : DE Γ X a m1) (hb : DE Γ X b m2) (hm : behindInMarks op b = false := by first | rfl | exact nomark _) : DT Γ X (.Compare a [op] [b] pos) (mTest (mOp f m1 m2)) := dt_cmp ho ha hb hm
theorem xix {a b : Expr} {m1 m2 : M} {pos : Pos} {f : D → D → Res D} (ho : IxD Γ X f) (ha : DE Γ X a m1) (hb : DE Γ X b m2) (hs : PlainIx b := by first | rfl | (intro _ _; rfl) | (constructor <;> rfl)) : DE Γ X (.Subscript a b pos) (mOp f m1 m2) := de_ix ho ha hb hs
theorem xdg {a b : Expr} {m1 m2 : M} {pos : Pos} (hu : X.A.units + 66 < cLine) (ha : DE Γ X a m1) (hb : DE Γ X b m2) (hs : NoSl b := by intro _ _; rfl) : DE Γ X (.Subscript a b pos) (mOp dgetK m1 m2) := de_dget hu ha hb hs
theorem xget1 {a b : Expr} {m1 m2 : M} {apos cpos : Pos} (hu : X.A.units + 66 < cLine) (ha : DE Γ X a m1) (hb : DE Γ X b m2) (hm : M1 X a "get" apos b cpos := by exact ⟨rfl, rfl, rfl, rfl⟩) : DE Γ X (.Call (.Attribute a "get" apos) [b] [] cpos) (mGet1 m1 m2) := de_get1 hu ha hb hm
theorem xget2 {a b c : Expr} {m1 m2 m3 : M} {apos cpos : Pos} (hu : X.A.units + 66 < cLine) (ha : DE Γ X a m1) (hb : DE Γ X b m2) (hc : DE Γ X c m3) (hm : M2 X a "get" apos b c cpos := by exact ⟨rfl, rfl, rfl, rfl⟩) : DE Γ X (.Call (.Attribute a "get" apos) [b, c] [] cpos) (mGet2 m1 m2 m3) := de_get2 hu ha hb hc hm
/-! built-ins -/
variable {x : Str} {p pos : Pos} {e : Expr} {es : List Expr} {id T : String} {f : List D → Res D} {m : MA}
theorem xB (hc : CallD Γ X (.builtin id) f) (hm : X.mg x = none) (ha : DA Γ X (e :: es) m) (hg : Gl X x := by rfl) (hv : bootBuiltins x = some (.builtin id) := by rfl) (hn : x ≠ "__name__" := by decide) (hdb : (x == ("__debug__" : Str)) = false := by decide)
    (he : starEach (e :: es) X.env = (false, eval e X.env) :: starEach es X.env := by rfl) (hpl : (backTo pos (starEach es X.env)).any (·.1) = false := by rfl) : DE Γ X (.Call (.Name x p) (e :: es) [] pos) (mCallB f m) := de_callB hc hg hm hv ha hn hdb he hpl
theorem oB (hc : CallO Γ X (.builtin id) f) (hm : X.mg x = none) (ha : DA Γ X (e :: es) m) (hg : Gl X x := by rfl) (hv : bootBuiltins x = some (.builtin id) := by rfl) (hn : x ≠ "__name__" := by decide) (hdb : (x == ("__debug__" : Str)) = false := by decide)
    (he : starEach (e :: es) X.env = (false, eval e X.env) :: starEach es X.env := by rfl) (hpl : (backTo pos (starEach es X.env)).any (·.1) = false := by rfl) : DO Γ X (.Call (.Name x p) (e :: es) [] pos) (mCallB f m) := do_callB hc hg hm hv ha hn hdb he hpl
theorem xT (hc : CallD Γ X (.type T) f) (hm : X.mg x = none) (ha : DA Γ X (e :: es) m) (hg : Gl X x := by rfl) (hv : bootBuiltins x = some (.type T) := by rfl) (hn : x ≠ "__name__" := by decide) (hdb : (x == ("__debug__" : Str)) = false := by decide)
    (he : starEach (e :: es) X.env = (false, eval e X.env) :: starEach es X.env := by rfl) (hpl : (backTo pos (starEach es X.env)).any (·.1) = false := by rfl) : DE Γ X (.Call (.Name x p) (e :: es) [] pos) (mCallB f m) := de_callT hc hg hm hv ha hn hdb he hpl
theorem oT (hc : CallO Γ X (.type T) f) (hm : X.mg x = none) (ha : DA Γ X (e :: es) m) (hg : Gl X x := by rfl) (hv : bootBuiltins x = some (.type T) := by rfl) (hn : x ≠ "__name__" := by decide) (hdb : (x == ("__debug__" : Str)) = false := by decide)
    (he : starEach (e :: es) X.env = (false, eval e X.env) :: starEach es X.env := by rfl) (hpl : (backTo pos (starEach es X.env)).any (·.1) = false := by rfl) : DO Γ X (.Call (.Name x p) (e :: es) [] pos) (mCallB f m) := do_callT hc hg hm hv ha hn hdb he hpl
theorem xisi {Ts : Str} {e : Expr} {m : M} {p p2 pos : Pos} (T : String) (hm : X.mg "isinstance" = none) (hm2 : X.mg Ts = none) (he : DE Γ X e m) (hg : Gl X "isinstance" := by rfl) (hg2 : Gl X Ts := by rfl) (hv : bootBuiltins Ts = some (.type T) := by rfl) (hn : Ts ≠ "__name__" := by decide) (hd : (Ts == ("__debug__" : Str)) = false := by decide)
    (hs : starEach [e, .Name Ts p2] X.env = (false, eval e X.env) :: starEach [.Name Ts p2] X.env := by rfl) (hs2 : starEach [.Name Ts p2] X.env = (false, eval (.Name Ts p2) X.env) :: starEach [] X.env := by rfl) (hpl : (backTo pos (starEach [.Name Ts p2] X.env)).any (·.1) = false := by rfl) :
    DE Γ X (.Call (.Name "isinstance" p) [e, .Name Ts p2] [] pos) (mIsi T m) := de_isi he hg hm hg2 hm2 hv hn hd hs hs2 hpl
theorem xcall {j k n : Nat} {f : List D → Res D} (F : FnD Γ X.prog X.w X.K X.mg X.base j x n f) (hr : Room k X.A) (ha : DA Γ X (e :: es) m) (hjk : j ≤ k := by decide) (hg : Gl X x := by rfl)
    (hdb : (x == ("__debug__" : Str)) = false := by decide) (he : starEach (e :: es) X.env = (false, eval e X.env) :: starEach es X.env := by rfl) (hpl : (backTo pos (starEach es X.env)).any (·.1) = false := by rfl) : DE Γ X (.Call (.Name x p) (e :: es) [] pos) (mCall n f m) := de_call F (hr.mono hjk) hg ha hdb he hpl
theorem ocall {j k n : Nat} {f : List D → Res D} (F : FnO Γ X.prog X.w X.K X.mg X.base j x n f) (hr : Room k X.A) (ha : DA Γ X (e :: es) m) (hjk : j ≤ k := by decide) (hg : Gl X x := by rfl)
    (hdb : (x == ("__debug__" : Str)) = false := by decide) (he : starEach (e :: es) X.env = (false, eval e X.env) :: starEach es X.env := by rfl) (hpl : (backTo pos (starEach es X.env)).any (·.1) = false := by rfl) : DO Γ X (.Call (.Name x p) (e :: es) [] pos) (mCall n f m) := do_call F (hr.mono hjk) hg ha hdb he hpl
theorem ocallM {j k n : Nat} {f : List Sl → Res D} {m : MM} (F : FnM Γ X.prog X.w X.K X.mg X.base j x n f) (hr : Room k X.A) (ha : DM Γ X (e :: es) m) (hjk : j ≤ k := by decide) (hg : Gl X x := by rfl)
    (hdb : (x == ("__debug__" : Str)) = false := by decide) (he : starEach (e :: es) X.env = (false, eval e X.env) :: starEach es X.env := by rfl) (hpl : (backTo pos (starEach es X.env)).any (·.1) = false := by rfl) : DO Γ X (.Call (.Name x p) (e :: es) [] pos) (mCallM n f m) := do_callM F (hr.mono hjk) hg ha hdb he hpl
end
/-! ### defs as data -/
section
variable {P : Program} {w : World} {K : PySem.W.Frag} {mg : Str → Option Value} {base : Heap} {x qual : Str} {pa : Arguments} {bd : List Stmt} {sc : Scope} {f : Addr} {fd : FuncData} {N ps : List Str} {k : Nat} {m : MS}
theorem takesD {cdv : Value} {A : Around} {outer : List Env} {s : Shared} {H : Hp} {E : XK} : Takes (cxOf (L2.CX P w) P w K mg base N qual sc f cdv A outer s H E) (fun cls d _ H => E cls d H) := takes_of rfl rfl rfl rfl
theorem fnD_ofD (F : FunD K x qual pa bd sc [] [] f fd) (hx : mg x = some (.ref f)) (S : FnScope N ps sc)
    (hb : ∀ (kV doc pm : Value) (an : Option Addr) (cdv ct : Value) (us : List Value), us.length = ps.length → bindArgs (PySem.W.fnOf x qual pa bd sc .none kV doc pm an cdv ct) ⟨us, []⟩ = pure (ps.zip us))
    (body : ∀ (cdv : Value) (A : Around) (outer : List Env) (s : Shared) (H : Hp) (E : XK), Room k (A.deeper (envOfC qual sc s.heap.objs.size f cdv)) → DSs Γ (cxOf (L2.CX P w) P w K mg base N qual sc f cdv A outer s H E) bd m) :
    FnD Γ P w K mg base (k + 1) x ps.length (fun ds => runD (m (startR N ds))) := by
  refine ⟨f, fd, ps, F.ok S (fun vs H Q E h => h.1) (fun cdv A outer s H vs Q E hr h => ?_), hx, F.kp, F.bindsN hb⟩
  obtain ⟨hl, G, ds, sm, r, q⟩ := h
  dsimp only at q
  refine ⟨_, (body cdv A outer s H E hr).run _ takesD, (G, H), startR N ds, ⟨G, rel_start sm r⟩, ?_⟩
  show PostS Γ K mg _ _ _ (m (startR N ds))
  cases e : m (startR N ds) with
  | next ρ => rw [e] at q; exact fun σ' H' ⟨G', R⟩ => q .non G' H' R.x .non
  | ret d => rw [e] at q; exact fun v G' H' x r => q v G' H' x r
  | reto d => rw [e] at q; exact q.elim
  | brk d => rw [e] at q; exact q.elim
  | cont d => rw [e] at q; exact q.elim
  | exc c d => rw [e] at q; obtain ⟨C, a, b⟩ := q; exact ⟨C, a, fun σ' H' ⟨G', R⟩ => b H' R.x.h⟩
  | stuck => rw [e] at q; exact q.elim
theorem fnO_ofD (F : FunD K x qual pa bd sc [] [] f fd) (hx : mg x = some (.ref f)) (S : FnScope N ps sc)
    (hb : ∀ (kV doc pm : Value) (an : Option Addr) (cdv ct : Value) (us : List Value), us.length = ps.length → bindArgs (PySem.W.fnOf x qual pa bd sc .none kV doc pm an cdv ct) ⟨us, []⟩ = pure (ps.zip us))
    (body : ∀ (cdv : Value) (A : Around) (outer : List Env) (s : Shared) (H : Hp) (E : XK), Room k (A.deeper (envOfC qual sc s.heap.objs.size f cdv)) → DSs Γ (cxOf (L2.CX P w) P w K mg base N qual sc f cdv A outer s H E) bd m) :
    FnO Γ P w K mg base (k + 1) x ps.length (fun ds => runO (m (startR N ds))) := by
  refine ⟨f, fd, ps, F.ok S (fun vs H Q E h => h.1) (fun cdv A outer s H vs Q E hr h => ?_), hx, F.kp, F.bindsN hb⟩
  obtain ⟨hl, G, ds, sm, r, q⟩ := h
  dsimp only at q
  refine ⟨_, (body cdv A outer s H E hr).run _ takesD, (G, H), startR N ds, ⟨G, rel_start sm r⟩, ?_⟩
  show PostS Γ K mg _ _ _ (m (startR N ds))
  cases e : m (startR N ds) with
  | reto d => rw [e] at q; exact fun a o G' H' x h1 h2 h3 r => q a o G' H' x h1 h2 h3 r
  | exc c d => rw [e] at q; obtain ⟨C, a, b⟩ := q; exact ⟨C, a, fun σ' H' ⟨G', R⟩ => b H' R.x.h⟩
  | _ => rw [e] at q; exact q.elim
theorem fnM_ofD (F : FunD K x qual pa bd sc [] [] f fd) (hx : mg x = some (.ref f)) (S : FnScope N ps sc)
    (hb : ∀ (kV doc pm : Value) (an : Option Addr) (cdv ct : Value) (us : List Value), us.length = ps.length → bindArgs (PySem.W.fnOf x qual pa bd sc .none kV doc pm an cdv ct) ⟨us, []⟩ = pure (ps.zip us))
    (body : ∀ (cdv : Value) (A : Around) (outer : List Env) (s : Shared) (H : Hp) (E : XK), Room k (A.deeper (envOfC qual sc s.heap.objs.size f cdv)) → DSs Γ (cxOf (L2.CX P w) P w K mg base N qual sc f cdv A outer s H E) bd m) :
    FnM Γ P w K mg base (k + 1) x ps.length (fun sls => runO (m (startM N sls))) := by
  refine ⟨f, fd, ps, F.ok S (fun vs H Q E h => h.1) (fun cdv A outer s H vs Q E hr h => ?_), hx, F.kp, F.bindsN hb⟩
  obtain ⟨hl, G, B, sls, sm, s2, r, q⟩ := h
  dsimp only at q
  refine ⟨_, (body cdv A outer s H E hr).run _ takesD, (G, B), startM N sls, ⟨G, rel_startM sm s2 r⟩, ?_⟩
  show PostS Γ K mg _ _ _ (m (startM N sls))
  cases e : m (startM N sls) with
  | reto d => rw [e] at q; exact fun a o G' H' x h1 h2 h3 r => q a o G' H' x h1 h2 h3 r
  | exc c d => rw [e] at q; obtain ⟨C, a, b⟩ := q; exact ⟨C, a, fun σ' H' ⟨G', R⟩ => b H' R.x.h⟩
  | _ => rw [e] at q; exact q.elim
/-! ### constants of the module -/
theorem glob_str {h : Heap} (X : K.In h) (G : h.Ns mainGlobals mg) {x z : Str} (c : (He.Fa.str x z).ok K = true) : GlobD K mg x (.str z) := by
  obtain ⟨t, e⟩ := He.str_ok X G c
  exact ⟨.str z, _, e, ⟨t, rfl⟩, fun _ => .str z⟩
theorem glob_int {h : Heap} (X : K.In h) (G : h.Ns mainGlobals mg) {x : Str} {i : Int} (c : (He.Fa.int x i).ok K = true) : GlobD K mg x (.int i) := by
  obtain ⟨t, e⟩ := He.int_ok X G c
  exact ⟨.int i, _, e, ⟨t, rfl⟩, fun _ => .int i⟩
end
end De
end

section
set_option Elab.async false
set_option linter.all false
set_option maxRecDepth 100000
/-! De17: a call that takes one's own dict or list for good; int + bool. -/
namespace De
open PySem PySem.Spec PyProof.Rows L2
open PySem.W PySem.SeqAt
/-- own arguments: what slot j holds, moved -/
structure SlsMv (Γ : Tbs) (K : PySem.W.Frag) (G H : Hp) (σ : L2.St) (j : Nat) (vs : List V) (sls : List Sl) : Prop where
  r : RelE Γ K G (sls.map some) (vs.map some) H
  f : ∀ (i : Nat) (d : D) (a : Addr), sls[i]? = some (.own d) → vs[i]? = some (.ref a) → σ[j]? = some (some (.ref a))
def PostV2 (Γ : Tbs) (K : PySem.W.Frag) (mg : Str → Option Value) (W : WX) (j : Nat) (G : Hp) (σ : L2.St) (H : Hp) (Q : List V → Hp → Prop) : Res (List Sl) → Prop
  | .ok sls => ∀ vs G' H', GExt Γ G H G' H' → SlsMv Γ K G' H' σ j vs sls → Q vs H'
  | .exc c => ∃ C, mg c = some (.ref C) ∧ ∀ H', SameN Γ H H' → W (.ref C) none σ H'
  | .stuck => False
def rdV (Γ : Tbs) (K : PySem.W.Frag) (mg : Str → Option Value) (W : WX) (j : Nat) (m : MM) : TA := fun σ H Q => ∃ G ρ, RelE Γ K G ρ σ H ∧ PostV2 Γ K mg W j G σ H Q (m ρ)
structure DV (Γ : Tbs) (X : Cx) (j : Nat) (es : List Expr) (m : MM) : Prop where
  run : ∀ W, Takes X W → PA X es (rdV Γ X.K X.mg W j m)
/-- the rest holds no own one any more -/
def noOwn : List Sl → Bool
  | [] => true
  | .dat _ :: r => noOwn r
  | _ :: _ => false
theorem noOwn_at : ∀ {sls : List Sl} {i : Nat} {d : D}, noOwn sls = true → sls[i]? ≠ some (.own d)
  | [], i, d, _ => by simp
  | .dat e :: r, 0, d, _ => by simp
  | .dat e :: r, i + 1, d, h => by simpa using noOwn_at (sls := r) (i := i) h
  | .own _ :: _, _, _, h => by cases h
  | .raw _ :: _, _, _, h => by cases h
  | .lck _ :: _, _, _, h => by cases h
def mmMov (j : Nat) (r : MM) : MM := fun ρ => match ρ[j]? with
  | some (some (.own d)) => (r ρ).bind fun sls => if noOwn sls = true then .ok (.own d :: sls) else .stuck
  | _ => .stuck
section
variable {X : Cx}
theorem dv_nil {j : Nat} : DV Γ X j [] mmNil := ⟨fun W tk => pa_imp pa_nil fun σ H Q ⟨G, ρ, R, h⟩ => h [] G H (GExt.refl R.s) ⟨.nilR R.s R.d, fun i d a h => by simp at h⟩⟩
theorem dv_dat {j : Nat} {e : Expr} {es : List Expr} {m : M} {r : MM} (ha : DE Γ X e m) (hr : DV Γ X j es r) (hs : starEach (e :: es) X.env = (false, eval e X.env) :: starEach es X.env := by rfl) : DV Γ X j (e :: es) (mmDat m r) :=
  ⟨fun W tk => pa_imp (pa_cons (ha.run W tk) (hr.run W tk) hs) fun σ H Q ⟨G, ρ, R, h⟩ => by
    refine ⟨G, ρ, R, ?_⟩
    unfold mmDat at h
    cases e1 : m ρ with
    | stuck => rw [e1] at h; exact h
    | exc c => rw [e1] at h; exact h
    | ok d =>
      rw [e1] at h
      simp only [Res.bind] at h
      intro v G1 H1 x1 r1
      refine ⟨G1, ρ, R.ext x1, ?_⟩
      cases e2 : r ρ with
      | stuck => rw [e2] at h; exact h
      | exc c =>
        rw [e2] at h
        obtain ⟨C, a, b⟩ := h
        exact ⟨C, a, fun H' s => b H' (x1.h.trans s)⟩
      | ok sls =>
        rw [e2] at h
        intro vs G2 H2 x2 ok
        refine h (v :: vs) G2 H2 (x1.trans x2) ⟨ok.r.consD (r1.sm x2.g), fun i d a h1 h2 => ?_⟩
        cases i with
        | zero => simp at h1
        | succ i => exact ok.f i d a (by simpa using h1) (by simpa using h2)⟩
theorem dv_mov {j : Nat} {x : Str} {pos : Pos} {es : List Expr} {r : MM} (hr : DV Γ X j es r) (hN : X.N[j]? = some x := by rfl) (hv : Vis X.env.scope x := by first | exact Or.inl rfl | exact Or.inr (Or.inl rfl) | exact Or.inr (Or.inr rfl)) (hd : (x == ("__debug__" : Str)) = false := by decide) (hcd : (x == ("__classdict__" : Str)) = false := by decide)
    (hs : starEach (.Name x pos :: es) X.env = (false, eval (.Name x pos) X.env) :: starEach es X.env := by rfl) : DV Γ X j (.Name x pos :: es) (mmMov j r) :=
  ⟨fun W tk => pa_imp (pa_cons (pe_var hN hv hd hcd) (hr.run W tk) hs) fun σ H Q ⟨G, ρ, R, h⟩ => by
    unfold mmMov at h
    split at h
    · rename_i d e
      obtain ⟨v, h1, a, o, rfl, ha, hg, q⟩ := R.at_ j _ e
      refine ⟨.ref a, h1, G, ρ, R, ?_⟩
      cases e2 : r ρ with
      | stuck => rw [e2] at h; exact h
      | exc c => rw [e2] at h; exact h
      | ok sls =>
        rw [e2] at h
        simp only [Res.bind] at h
        by_cases hno : noOwn sls = true
        · rw [if_pos hno] at h
          intro vs G2 H2 x2 ok
          refine h (.ref a :: vs) G2 H2 x2 ⟨ok.r.consO (x2.h.k _ _ ha q.nt) (x2.kept ha hg q) (q.sm x2.g) fun i e h1 _ => ?_, fun i d b h1' h2 => ?_⟩
          · exact noOwn_at hno (by simpa using h1)
          · cases i with
            | zero => simp at h2; subst h2; exact h1
            | succ i => exact absurd (by simpa using h1') (noOwn_at hno)
        · rw [if_neg hno] at h; exact h.elim
    · exact h.elim⟩
theorem tabs_drop {Γ : Tbs} {H : Hp} {a : Addr} {o : HO} (t : LamX.Tabs Γ H) (ha : H a = some o) (p : plainO o) : LamX.Tabs Γ (unG H a) := tabs_keep t fun b u e n => by
  by_cases h : b = a
  · subst h; rw [ha] at e; cases e; exact absurd p n
  · rw [unG_ne h]; exact e
theorem SameN.dropO {Γ : Tbs} {B H : Hp} {a : Addr} {o : HO} (h : SameN Γ B H) (hb : B a = none) (ha : H a = some o) (p : plainO o) : SameN Γ B (unG H a) := by
  refine ⟨fun b u e n => ?_, fun b e => ?_, fun b ps e => ?_, fun t => tabs_drop (h.t t) ha p⟩
  · rw [unG_ne (ne_of_none e hb)]; exact h.k b u e n
  · by_cases z : b = a
    · subst z; exact hb
    · rw [unG_ne z] at e; exact h.f b e
  · rw [unG_ne (ne_of_none e hb)]; exact h.b b ps e
/-- the heap without the object at a -/
theorem RelG.drop {K : PySem.W.Frag} {B : Hp × Hp} {G H : Hp} {ρ : Rho} {σ : L2.St} {j : Nat} {d : D} {a : Addr} (R : RelG Γ K B G ρ σ H) (h : ρ[j]? = some (some (.own d))) (h1 : σ[j]? = some (some (.ref a))) : RelG Γ K B G (ρ.set j none) σ (unG H a) := by
  obtain ⟨o, ha, hg, q⟩ := R.r.own_there h h1
  have hb := R.f j d a h h1
  have sG : Same G (unG H a) := fun b u z => by rw [unG_ne (ne_of_none z hg)]; exact R.r.s _ _ z
  refine ⟨⟨R.x.h.dropO hb ha q.pl, R.x.g, sG, R.x.n⟩, ⟨sG, ⟨R.r.d.1, tabs_drop R.r.d.2 ha q.pl⟩, by simp [R.r.len], fun i x hi => ?_, fun i k e e' v' hik h2 h3 h4 => ?_⟩, fun i e b h2 h3 => ?_⟩
  · rcases get_set hi with ⟨rfl, e, hl⟩ | ⟨hne, hi⟩
    · cases e
    · obtain ⟨w, w1, w2⟩ := R.r.at_ i x hi
      refine ⟨w, w1, ?_⟩
      cases x with
      | dat e => exact w2
      | own e =>
        obtain ⟨b, u, rfl, hb', hgb, qb⟩ := w2
        refine ⟨b, u, rfl, ?_, hgb, qb⟩
        rw [unG_ne fun z => R.r.apart i j e d (.ref a) hne hi h (by rw [w1, z]) h1]
        exact hb'
      | raw u => exact w2
      | lck e => exact w2
  · rcases get_set h2 with ⟨rfl, e, hl⟩ | ⟨hn1, h2⟩
    · cases e
    · rcases get_set h3 with ⟨rfl, e, hl⟩ | ⟨hn2, h3⟩
      · cases e
      · exact R.r.apart i k e e' v' hik h2 h3 h4
  · rcases get_set h2 with ⟨rfl, e, hl⟩ | ⟨hn1, h2⟩
    · cases e
    · exact R.f i e b h2 h3
/-- y = f(.., x, ..), x one's own, not to be used again -/
def mSetMv (i j n : Nat) (f : List Sl → Res D) (m : MM) : MS := fun ρ => match ρ[j]? with
  | some (some (.own _)) => (m ρ).st ρ fun sls => if sls.length = n then (match f sls with
      | .ok d => .next ((ρ.set j none).set i (some (.own d)))
      | _ => .stuck) else .stuck
  | _ => .stuck
theorem ds_setMv {i j k' k n : Nat} {y x : Str} {f : List Sl → Res D} {e : Expr} {es : List Expr} {m : MM} {p cpos pos pos' : Pos} (F : FnM Γ X.prog X.w X.K X.mg X.base k' x n f) (hr : Room k X.A) (hN : X.N.Nodup) (hi : X.N[i]? = some y) (hx : Loc X.env.scope y) (ha : DV Γ X j (e :: es) m) (hjk : k' ≤ k := by decide) (hg : Gl X x := by rfl)
    (hdb : (x == ("__debug__" : Str)) = false := by decide) (he : starEach (e :: es) X.env = (false, eval e X.env) :: starEach es X.env := by rfl) (hpl : (backTo cpos (starEach es X.env)).any (·.1) = false := by rfl)
    (hs : swapsWith (.Call (.Name x p) (e :: es) [] cpos) (some (.Name y pos')) pos.line X.env = pure false := by rfl) (hf : X.fn y = true ∨ X.env.scope.names.lookup y = some .local := by first | exact .inl rfl | exact .inr rfl | assumption) :
    DS Γ X (.Assign [.Name y pos'] (.Call (.Name x p) (e :: es) [] cpos) pos) (mSetMv i j n f m) := by
  obtain ⟨af, fd, ps, F, hm, hk, hb⟩ := F.ex
  refine ⟨fun W tk => ps_imp (ps_set hN hi hx (pe_callS F (hr.mono hjk) hg hm hk hb (fun σ => passAt tk σ) (ha.run W tk) hdb he hpl) hs hf) fun E σ H ⟨B, ρ, ⟨G, R⟩, h⟩ => ?_⟩
  unfold mSetMv at h
  split at h
  · rename_i d0 ej
    obtain ⟨v, h1, a, o, rfl, hoa, hga, q0⟩ := R.r.at_ j _ ej
    refine ⟨G, ρ, R.r, ?_⟩
    cases e1 : m ρ with
    | stuck => rw [e1] at h; exact h
    | exc c =>
      rw [e1] at h
      obtain ⟨C, a, b⟩ := h
      exact ⟨C, a, fun H' s => b σ H' ⟨G, R.ext (GExt.heapN R.r.s R.r.d.1 s)⟩⟩
    | ok sls =>
      rw [e1] at h
      simp only [Res.st_ok] at h
      intro vs G' H' xx ok
      obtain ⟨hl, h⟩ := PostS.ite h
      have R' := R.ext xx
      have RD := R'.drop ej h1
      have hga' : G' a = none := (R'.r.own_there ej h1).choose_spec.2.1
      have sGB : Same G' (unG H' a) := RD.r.s
      have sBH : Same (unG H' a) H' := fun b u z => by
        by_cases e : b = a
        · subst e; rw [unG_same] at z; cases z
        · rw [unG_ne e] at z; exact z
      refine ⟨by have := ok.r.len; simp at this; omega, G', unG H' a, sls, sGB, sBH, ⟨ok.r, fun i' d' a' h2 h3 => ?_⟩, ?_⟩
      · have := ok.f i' d' a' h2 h3
        rw [h1] at this
        cases this
        exact unG_same
      · cases e2 : f sls with
        | ok d =>
          rw [e2] at h
          intro c oc G2 H2 y n1 n2 hc qc
          have R2 := RD.ext y
          refine h _ H2 ⟨G2, R2.setOwn i hc n2 qc (RD.x.h.free n1) fun l e' _ hl2 => RD.fresh n1 l e' hl2⟩
        | exc c => rw [e2] at h; exact h.elim
        | stuck => rw [e2] at h; exact h.elim
  · exact h.elim
end
end De
end

section
set_option Elab.async false
set_option linter.all false
set_option maxRecDepth 100000
/-! De18: the end: the law's def kept, constants that are tuples, the hook. -/
namespace De
open PySem PySem.Spec PyProof.Rows L2
section
variable {P : Program} {w : World} {K : PySem.W.Frag} {mg : Str → Option Value} {base : Heap} {x qual : Str} {pa : Arguments} {bd : List Stmt} {sc : Scope} {f : Addr} {fd : FuncData} {N ps : List Str} {k : Nat} {m : MS}
theorem okD_ofD (F : FunD K x qual pa bd sc [] [] f fd) (S : FnScope N ps sc)
    (body : ∀ (cdv : Value) (A : Around) (outer : List Env) (s : Shared) (H : Hp) (E : XK), Room k (A.deeper (envOfC qual sc s.heap.objs.size f cdv)) → DSs Γ (cxOf (L2.CX P w) P w K mg base N qual sc f cdv A outer s H E) bd m) :
    FnOk P w K mg base (L2.CX P w) (k + 1) f fd ps (spD Γ K mg ps.length (fun ds => runD (m (startR N ds)))) := by
  refine F.ok S (fun vs H Q E h => h.1) (fun cdv A outer s H vs Q E hr h => ?_)
  obtain ⟨hl, G, ds, sm, r, q⟩ := h
  dsimp only at q
  refine ⟨_, (body cdv A outer s H E hr).run _ takesD, (G, H), startR N ds, ⟨G, rel_start sm r⟩, ?_⟩
  show PostS Γ K mg _ _ _ (m (startR N ds))
  cases e : m (startR N ds) with
  | next ρ => rw [e] at q; exact fun σ' H' ⟨G', R⟩ => q .non G' H' R.x .non
  | ret d => rw [e] at q; exact fun v G' H' x r => q v G' H' x r
  | exc c d => rw [e] at q; obtain ⟨C, a, b⟩ := q; exact ⟨C, a, fun σ' H' ⟨G', R⟩ => b H' R.x.h⟩
  | _ => rw [e] at q; exact q.elim
/-- a law that answers True -/
theorem law_sp {K : PySem.W.Frag} {mg : Str → Option Value} {g : List D → Res D} {n : Nat} (h : ∀ ns : List Int, ns.length ≤ n → g [scrD ns] = .ok (.bool true)) (H : Hp) (hT : ∀ p ∈ Γ, H p.1 = some (.tbl #[])) (a : Addr) (ns : List Int) (hl : ns.length ≤ n) (hS : SqL K H a (ns.map V.int)) :
    spD Γ K mg 1 g [.ref a] H (fun v _ => v = .bl true) fun _ _ _ => False := by
  classical
  let G : Hp := fun b => if ∃ o, H b = some o ∧ noTbl o then H b else none
  have sG : Same G H := fun b o e => by
    have e : (if ∃ o, H b = some o ∧ noTbl o then H b else none) = some o := e
    split at e
    · exact e
    · cases e
  have nG : NT G := fun b o e => by
    have e : (if ∃ o, H b = some o ∧ noTbl o then H b else none) = some o := e
    split at e
    · rename_i hh
      obtain ⟨u, h1, h2⟩ := hh
      rw [h1] at e; cases e; exact h2
    · cases e
  have gp : ∀ o, H a = some o → noTbl o → G a = some o := fun o e n => (if_pos ⟨o, e, n⟩).trans e
  have hS2 : SqL K G a (ns.map V.int) := by
    rcases hS with (e | ⟨z, e⟩) | e
    · exact .inl (.inl (gp _ e (fun ps z => by cases z)))
    · exact .inl (.inr ⟨z, gp _ e (fun ps z => by cases z)⟩)
    · exact .inr e
  refine ⟨rfl, G, [scrD ns], ⟨sG, nG, fun p hp => LamX.TabS.nil (hT p hp)⟩, .cons (.scr hS2) .nil, ?_⟩
  rw [h ns hl]
  exact fun v G' H' x r => r.bool
theorem cx_none (P : Program) (w : World) (H : Hp) (s : Shared) (e : Value) (s' : Shared) (h : L2.CX P w [] H s (fun _ _ _ => False) e s') : False := by
  obtain ⟨_, _, _, _, _, _, _, _, _, _, _, _, z⟩ := h
  exact z.elim
/-! ### constants that are tuples of one text -/
def conB (K : PySem.W.Frag) (x z : Str) : Bool := He.tupB K x [.str z] && He.eqO (PySem.W.nsIn K mainGlobals x) (some (some (.ref (He.ga K x))))
theorem glob_tup {h : Heap} (X : K.In h) (G : h.Ns mainGlobals mg) {x z : Str} (c : conB K x z = true) (hz : wrName z = true) : GlobD K mg x (.tuple [.str z]) := by
  obtain ⟨h1, h2⟩ := Bool.and_eq_true_iff.mp c
  exact ⟨.ref (He.ga K x), _, He.glo_ok X G (x := x) h2, rfl, fun _ => .wtup (fun H => He.tupB_ok h1 H) hz⟩
end
/-! ### what is asked of K beside: the constants, the tables all different -/
def tabsNd (K : PySem.W.Frag) (tf : List He.Defn) : Bool := decide ((tf.map fun p => (He.cT K p).2).Nodup)
/-- what isinstance asks of an own class of exceptions -/
def excCB (K : PySem.W.Frag) (D : Addr) : Bool := decide (PySem.W.findIn K (.ref D) "__getattribute__" = some (some (.builtin "BaseException.__getattribute__"))) && (decide (PySem.W.findIn K (.ref D) "__getattr__" = some none) && (decide (PySem.W.subIn K (.ref D) (.type "BaseException") = some true) && (PySem.W.hasDictIn K D && (decide (PySem.W.findIn K (.ref D) "__class__" = some (some (.builtin "object.__class__"))) && (decide (PySem.W.specialIn K (.builtin "object.__class__") "__get__" = some (some (.builtin "getset_descriptor.__get__"))) && (decide (PySem.W.takesIn K (.builtin "object.__class__") = some true) && decide (PySem.W.mroIn K D (.type "object") = some true)))))))
theorem excC_of {K : PySem.W.Frag} {D : Addr} (h : excCB K D = true) : ExcC K D := by
  unfold excCB at h
  simp only [Bool.and_eq_true, decide_eq_true_eq] at h
  exact ⟨h.1, h.2.1, h.2.2.1, h.2.2.2.1, h.2.2.2.2.1, h.2.2.2.2.2.1, h.2.2.2.2.2.2.1, h.2.2.2.2.2.2.2⟩
/-- the classes es, none under another one -/
def excB (es : List Str) (K : PySem.W.Frag) : Bool := es.all fun c => excCB K (He.ga K c) && es.all fun d => decide (PySem.W.kitOne K (.ref (He.ga K c)) (.ref (He.ga K d)) = some (decide (c = d)))
def moreB (tf : List He.Defn) (cs : List (Str × Str)) (es : List Str) (K : PySem.W.Frag) : Bool := (cs.all fun c => conB K c.1 c.2) && (tabsNd K tf && excB es K)
theorem tabsNd_of {tf : List He.Defn} {cs : List (Str × Str)} {es : List Str} {K : PySem.W.Frag} (h : moreB tf cs es K = true) : (tf.map fun p => (He.cT K p).2).Nodup := of_decide_eq_true (Bool.and_eq_true_iff.mp (Bool.and_eq_true_iff.mp h).2).1
theorem excB_of {tf : List He.Defn} {cs : List (Str × Str)} {es : List Str} {K : PySem.W.Frag} (h : moreB tf cs es K = true) {c : Str} (hc : c ∈ es) : ExcC K (He.ga K c) ∧ ∀ d ∈ es, PySem.W.kitOne K (.ref (He.ga K c)) (.ref (He.ga K d)) = some (decide (c = d)) := by
  have h2 := List.all_eq_true.mp (Bool.and_eq_true_iff.mp (Bool.and_eq_true_iff.mp h).2).2 c hc
  obtain ⟨h3, h4⟩ := Bool.and_eq_true_iff.mp h2
  exact ⟨excC_of h3, fun d hd => of_decide_eq_true (List.all_eq_true.mp h4 d hd)⟩
/-! ### the hook: with the tables of code objects of the defs tf -/
def hookC (n : Nat) (fa : List He.Fa) (fn : List He.DefD) (tf : List He.Defn) (cs : List (Str × Str)) (es : List Str) : PySem.W.Hook := He.hookX n fa fn [] tf (moreB tf cs es)
abbrev SaysC (fa : List He.Fa) (fn : List He.DefD) (tf : List He.Defn) (cs : List (Str × Str)) (es : List Str) (w : World) (h : Heap) (K : PySem.W.Frag) : Prop := He.SaysX fa fn [] tf (moreB tf cs es) w h K
def obsCG (n : Nat) (fa : List He.Fa) (fn : List He.DefD) (tf : List He.Defn) (cs : List (Str × Str)) (es : List Str) (g : Addr → Option Obj) : He.AlX := He.obsX n fa fn [] tf (moreB tf cs es) g
theorem obsCG_eq {n : Nat} {fa : List He.Fa} {fn : List He.DefD} {tf : List He.Defn} {cs : List (Str × Str)} {es : List Str} {g : Addr → Option Obj} {s : Shared} (h : ∀ a, g a = s.heap.get? a) : obsCG n fa fn tf cs es g = (hookC n fa fn tf cs es).obs s := He.obsX_eq h
section
variable {fa : List He.Fa} {fn : List He.DefD} {tf : List He.Defn} {cs : List (Str × Str)} {es : List Str} {w : World} {h : Heap} {K : PySem.W.Frag}
theorem saysC_d (c : SaysC fa fn tf cs es w h K) : He.SaysD fa fn K := He.SaysT.d c.t
theorem saysC_con (c : SaysC fa fn tf cs es w h K) (i : Nat) {x z : Str} (hi : cs[i]? = some (x, z)) : conB K x z = true := List.all_eq_true.mp (Bool.and_eq_true_iff.mp c.more).1 (x, z) (List.mem_of_getElem? hi)
end
/-- a law's end: K is told with the head's heap -/
theorem walk_ofC {l : PySem.W.OpenLaw} {n k : Nat} {q : Program} {loose : List Str} {XP : (Str → Option Value) → Heap → Prop} {YP : World → Heap → Prop} {d : DefRec} {CX : World → CXT} {x : Str}
    (hn : l.most = some n) (hn2 : n ≤ sizeLine) (hdf : d.params.defaults = []) (hr : Room k callerA)
    (F : ∀ (w : World) (mg : Str → Option Value) (fa : Addr) (h : Heap), YP w h → h.Ns mainGlobals mg → mg d.name = some (.ref fa) → ∃ K : PySem.W.Frag, K.In h ∧ LamX.LawAtS l w K (CX w) k n x mg fa h)
    (hCX : ∀ (w : World) (H : Hp) (s : Shared) (e : Value) (s' : Shared), CX w [] H s (fun _ _ _ => False) e s' → False) :
    PySem.W.WalkO q loose XP YP l.row.toRowW d [] (fun f vs => PySem.call f vs) := by
  refine Att.attach_callB hn hdf fun w s₀ s₁ mg mb fa o pm cd doc a vs ns G Y ho hd hcd hmg hobj hints hlen hbits hg => ?_
  obtain ⟨K, KX, fd, cs, sp, hT, nT, C, hb, hsp, hF⟩ := F w mg fa _ Y G.T.g hmg
  exact LamX.law_callTs KX G.T.g G.T.b G.T.builtins G.T.nolimit hg hT nT C G.T.bmain hobj hints (Nat.le_trans hlen hn2) hr hF hb (fun H hH hS => hsp H a ns hlen hbits hH hS) fun H e s' => hCX w H s₁ e s'
/-- letting out more -/
theorem okWide {P : Program} {w : World} {K : PySem.W.Frag} {mg : Str → Option Value} {base : Heap} {CX CX' : CXT} {k : Nat} {f : Addr} {fd : FuncData} {ps : List Str} {sp : Sp} (F : FnOk P w K mg base CX k f fd ps sp)
    (h : ∀ st H s E e s', CX st H s E e s' → CX' st H s E e s') : FnOk P w K mg base CX' k f fd ps sp :=
  ⟨F.len, fun A outer s H args us vs Q E hr he hb hv hs => codeAny_mono (F.run A outer s H args us vs Q E hr he hb hv hs) fun r s' z => by
    rcases r with e | r
    · exact h _ _ _ _ _ _ z
    · cases r <;> exact z⟩
end De
end

section
set_option Elab.async false
set_option linter.all false
set_option maxRecDepth 100000
/-! De19: sorted with key=lambda x: x[0], with key=f, f a def whose body is return x[0]. -/
namespace De
open PySem PySem.Spec PyProof.Rows L2
open PySem.W PySem.SeqAt
/-! ### a call that gives the first item of a tuple and keeps all that stands -/
section
variable {prog : Program} {w : World} {A : Around} {s : Shared}
/-- f(t) is t[0] -/
def Key0 (prog : Program) (w : World) (A : Around) (f : Value) (s : Shared) : Prop := ∀ (h : Heap) (tk : Nat), (∀ b o, s.heap.get? b = some o → h.get? b = some o) → ∀ (a : Addr) (its : Array Value) (x : Value), IsTup h a its → its[0]? = some x →
  ∀ (Q : Value → Shared → Prop), (∀ h' tk', (∀ b o, h.get? b = some o → h'.get? b = some o) → Q x { s with heap := h', toks := tk' }) → wpAny (model prog w) A (call f [.ref a]) Q (fun _ _ => False) { s with heap := h, toks := tk }
/-- x[0] in an env that holds x -/
theorem ev_tup0 {env : Env} {m : Str → Option Value} {E : Value → Shared → Prop} {x : Str} {a : Addr} {its : Array Value} {u : Value} {p1 p2 p3 : Pos} {j : Nat} {Q : Value → Shared → Prop} (hk : env.scope.kind = .function) (hl : env.scope.names.lookup x = some .local) (hn : s.heap.Ns env.locals m) (hm : m x = some (.ref a))
    (hd : (x == ("__debug__" : Str)) = false) (ht : IsTup s.heap a its) (hx : its[0]? = some u) (h : ∀ tk, Q u { s with toks := tk }) :
    wpAny (model prog w) A (eval (.Subscript (.Name x p1) (.Constant (.int 0) j p2) p3) env) Q E s := by
  refine Subscript_Constant (wpAny_Name (wpAny_loadName_local hk hl hn hm ?_) hd)
  refine wpAny_Constant_int ?_
  have hlt : 0 < its.size := by
    rcases Array.getElem?_eq_some_iff.mp hx with ⟨z, _⟩
    exact z
  have hj : seqIndex? 0 its.size = some 0 := by
    unfold seqIndex?
    simp [hlt]
  refine ⟨"tuple", _, slot_tuple_getitem.lookup, IsTup.typeIs (s := { s with toks := s.toks + 1 }) ht, PyProof.Rows.getItem_tuple (j := 0) (x := u) (s := { s with toks := s.toks + 1 }) ht (by decide) (by decide) hj hx (h _)⟩
/-- the lambda x: x[0] -/
theorem key0_lam {f c' : Addr} {q x : Str} {params : Arguments} {scope : Scope} {pm ctv : Value} {p1 p2 p3 : Pos} {j : Nat} (hroom : A.depth < recursionLimit)
    (of : s.heap.get? f = some (kla_obj "<lambda>" q params (.Subscript (.Name x p1) (.Constant (.int 0) j p2) p3) scope [] pm c' ctv)) (hrec : s.heap.CodeRec (.ref c') q) (hlim : s.heap.NoLimit)
    (hbind : ∀ v : Value, bindArgs (kla_fn "<lambda>" q params (.Subscript (.Name x p1) (.Constant (.int 0) j p2) p3) scope [] pm (.ref c') ctv) ⟨[v], []⟩ = pure [(x, v)])
    (hkd : scope.kind = .function) (hco : scope.isCoroutine = false) (hgen : scope.isGenerator = false) (hnc : ∀ y ∈ scope.names, y.2 ≠ .cell) (hl : scope.names.lookup x = some .local) (hd : (x == ("__debug__" : Str)) = false) : Key0 prog w A (.ref f) s := by
  intro h tk hs a its u ht hu Q hQ
  refine wpAny_call ?_
  obtain ⟨c, oc, vs, tq, e0, e1, e2, e3⟩ := hrec
  refine kla_callFunE hroom (hs _ _ of) rfl hco hgen rfl ⟨c, oc, vs, tq, e0, hs _ _ e1, e2, e3⟩ ?_
  rw [hbind]
  refine wpAny_pure (wpAny_newFunctionEnv hnc (fun y hy => ?_) (fun h' hns hsb => ?_) hkd)
  · rw [List.mem_singleton.mp hy]; exact hl
  have kp : ∀ b o, h.get? b = some o → h'.get? b = some o := fun b o e => by
    rw [hsb.2 b (Nat.ne_of_lt (Heap.lt_size e))]
    exact Heap.get?_push_of_some _ e
  refine ⟨?_, ?_⟩
  · exact hlim.keeps fun b o e => kp b o (hs b o e)
  · refine kla_codeExpr (ev_tup0 (m := fun y => ([(x, Value.ref a)] : List (Str × Value)).reverse.lookup y) hkd hl hns (by simp) hd (let ⟨o, h1, h2⟩ := ht; ⟨o, kp _ _ h1, h2⟩) hu fun tk' => ?_)
    exact hQ h' tk' kp
/-- the def f(x): return x[0] -/
theorem key0_def {K : PySem.W.Frag} {f : Addr} {fd : FuncData} {name qual x : Str} {params : Arguments} {scope : Scope} {p1 p2 p3 rp : Pos} {j : Nat} (hroom : A.depth < recursionLimit)
    (F : FunD K name qual params [.Return (some (.Subscript (.Name x p1) (.Constant (.int 0) j p2) p3)) rp] scope [] [] f fd) (KX : K.In s.heap) (hlim : s.heap.NoLimit)
    (hb : ∀ (s : Shared) (v : Value), BindsTo s fd ⟨[v], []⟩ [(x, v)])
    (hkd : scope.kind = .function) (hco : scope.isCoroutine = false) (hgen : scope.isGenerator = false) (hnc : ∀ y ∈ scope.names, y.2 ≠ .cell) (hl : scope.names.lookup x = some .local) (hd : (x == ("__debug__" : Str)) = false) : Key0 prog w A (.ref f) s := by
  intro h tk hs a its u ht hu Q hQ
  obtain ⟨oc, od, dV, kV, doc, pm, an, cdv, ct, osl, rfl, lk, hcd, _, _⟩ := F.ex
  have KX2 : K.In h := KX.keeps hs
  refine wpAny_call ?_
  refine codeAny_call_function hroom (KX2 _ _ lk) rfl hco hgen rfl (PySem.W.codeRec_of KX2 hcd) (hb _ _ _ _ _ _ ?_)
  refine wpAny_newFunctionEnv hnc (fun y hy => ?_) (fun h' hns hsb => ?_) hkd
  · rw [List.mem_singleton.mp hy]; exact hl
  have kp : ∀ b o, h.get? b = some o → h'.get? b = some o := fun b o e => by
    rw [hsb.2 b (Nat.ne_of_lt (Heap.lt_size e))]
    exact Heap.get?_push_of_some _ e
  refine ⟨hlim.keeps fun b o e => kp b o (hs b o e), codeAny_func (wpAny_execs_cons (wpAny_Return_some ?_))⟩
  refine ev_tup0 (m := fun y => ([(x, Value.ref a)] : List (Str × Value)).reverse.lookup y) hkd hl hns (by simp) hd (let ⟨o, h1, h2⟩ := ht; ⟨o, kp _ _ h1, h2⟩) hu fun tk' => ?_
  exact hQ h' tk' kp
end
/-! ### sorted by such a key -/
/-- the first item -/
def key0 : D → D
  | .tuple (x :: _) => x
  | d => d
/-- a tuple whose first item is a tuple of texts, not empty -/
def okKey : D → Bool
  | .tuple (.tuple (.str _ :: ks) :: _) => ks.all fun k => match k with | .str x => PyData.strOk x | _ => false
  | _ => false
def le0 : D → D → Bool := dataLe false key0
def fSort0L (ds : List D) : Res D := if ((ds.all okKey) && ds.all fun d => SeqAt.shaped (key0 d)) = true ∧ ds.length ≤ sizeLine then .ok (.list (ds.mergeSort le0)) else .stuck
def fSort0 : D → Res D
  | .list ds => fSort0L ds
  | .tuple ds => fSort0L ds
  | _ => .stuck
theorem okKey_inv {d : D} (h : okKey d = true) : ∃ ks r, d = .tuple (.tuple (ks.map PyData.str) :: r) ∧ ks ≠ [] := by
  match d, h with
  | .tuple (.tuple (.str x :: ks) :: r), h =>
    have h : (ks.all fun k => match k with | .str x => PyData.strOk x | _ => false) = true := h
    have key : ∀ ks : List D, (ks.all fun k => match k with | .str x => PyData.strOk x | _ => false) = true → ∃ xs : List Str, ks = xs.map PyData.str := by
      intro ks
      induction ks with
      | nil => exact fun _ => ⟨[], rfl⟩
      | cons k ks ih =>
        intro h
        rw [List.all_cons, Bool.and_eq_true] at h
        obtain ⟨xs, rfl⟩ := ih h.2
        match k, h.1 with
        | .str y, _ => exact ⟨y :: xs, rfl⟩
    obtain ⟨xs, rfl⟩ := key ks h
    exact ⟨x :: xs, r, rfl, by simp⟩
theorem alike_strs0 : ∀ xs ys : List Str, alikeAll (xs.map PyData.str) (ys.map PyData.str) = true
  | [], _ => by simp [alikeAll]
  | x :: xs, [] => by simp [alikeAll]
  | x :: xs, y :: ys => by
    rw [List.map_cons, List.map_cons, alikeAll, alike_strs0 xs ys]
    simp [alike]
theorem reads_tup_inv {h : Heap} {v : Value} {ds : List D} {as : List Addr} (r : Reads h v (.tuple ds) as) : ∃ a o vs n, v = .ref a ∧ h.get? a = some o ∧ o.cls = .type "tuple" ∧ o.data = .seq vs n ∧ ReadsAll h vs.toList ds as := by
  cases r with
  | tuple h1 h2 h3 h4 => exact ⟨_, _, _, _, rfl, h1, h2, h3, h4⟩
theorem reads_strs_nil {h : Heap} {v : Value} {ks : List Str} {as : List Addr} (r : Reads h v (.tuple (ks.map PyData.str)) as) : as = [] := by
  obtain ⟨_, _, _, _, _, _, _, _, r⟩ := reads_tup_inv r
  exact readsAll_strs_nil _ _ _ r fun d hd => by
    obtain ⟨x, _, rfl⟩ := List.mem_map.mp hd
    exact ⟨x, rfl⟩
section
variable {X : Cx} {pins : List (Addr × Obj)} {σ : L2.St} {H : Hp} {s : Shared}
theorem Std.tup {G : Hp} (I : Inv X pins σ H s) (sm : Same G H) {v : Value} {ds : List D} (h : Std X.K G v (.tuple ds)) : ∃ a its, v = .ref a ∧ IsTup s.heap a its ∧ EachIs (Std X.K G) its.toList ds := by
  obtain ⟨x, h1, h2⟩ := h
  obtain ⟨a, xs, rfl, hs, ra⟩ := h2.sqT
  obtain ⟨its, rv, ht, hz⟩ := I.tuple (SqT.sm sm hs)
  refine ⟨a, its.toArray, h1, ht, ?_⟩
  simpa using std_each rv ra
theorem okKeys {ds : List D} (h : (ds.all okKey) = true) : AllAlike (ds.map key0) ∧ Sortable (ds.map key0) ∧ ∀ d ∈ ds, (key0 d).depth ≤ 2 := by
  have inv : ∀ d ∈ ds, ∃ ks r, d = .tuple (.tuple (ks.map PyData.str) :: r) ∧ ks ≠ [] := fun d hd => okKey_inv (List.all_eq_true.mp h d hd)
  refine ⟨fun d hd e he => ?_, .inl fun d hd => ?_, fun d hd => ?_⟩
  · obtain ⟨d, hd2, rfl⟩ := List.mem_map.mp hd
    obtain ⟨e, he2, rfl⟩ := List.mem_map.mp he
    obtain ⟨ks, r, rfl, _⟩ := inv d hd2
    obtain ⟨ls, r', rfl, _⟩ := inv e he2
    show alike (.tuple _) (.tuple _) = true
    rw [alike]
    exact alike_strs0 ks ls
  · obtain ⟨d, hd2, rfl⟩ := List.mem_map.mp hd
    obtain ⟨ks, r, rfl, hne⟩ := inv d hd2
    cases ks with
    | nil => exact absurd rfl hne
    | cons k ks => exact ⟨_, _, rfl⟩
  · obtain ⟨ks, r, rfl, _⟩ := inv d hd
    show PyData.depth (.tuple (ks.map PyData.str)) ≤ 2
    have : ∀ ks : List Str, PyData.depthAll (ks.map PyData.str) ≤ 1 := by
      intro ks
      induction ks with
      | nil => simp [PyData.depthAll]
      | cons k ks ih => simp only [List.map_cons, PyData.depthAll, PyData.depth]; omega
    have := this ks
    simp only [PyData.depth]
    omega
theorem sorted_key_core {G : Hp} {vs : List V} {us : List Value} {ds : List D} {l f : Addr} {Q : VK} (hu : X.A.units + 66 < cLine) (I : Inv X pins σ H s) (sm : Same G H) (hl : SeqHeap s.heap l us) (rv : Vals vs us) (ra : RpAll X.K G vs ds)
    (hf : Key0 X.prog X.w X.A.in1.in1 (.ref f) s) (q : PostVO Γ X.K G H Q (fSort0L ds)) :
    wpAny (model X.prog X.w) X.A (call (.builtin "sorted") [.ref l] [(Str.ofString "key", .ref f)]) (EP X pins σ Q) X.xe s := by
  obtain ⟨⟨h0, h2⟩, q⟩ := PostVO.ite q
  obtain ⟨h1, hsh⟩ := Bool.and_eq_true_iff.mp h0
  obtain ⟨hal, hsk, hdp⟩ := okKeys h1
  have e1 := std_each rv ra
  have lus : us.length = ds.length := e1.length
  refine sorted_of_sortD hl (by rw [lus]; exact h2) (ksk_s1 _ _) (fun _ => ksk_l1 _ _) fun E' => ?_
  rw [ksk_t1]
  have up : ∀ {g : Heap}, KeepsBut (s.heap.objs.size + 1) (copyHeap s.heap us) g → ∀ b o, s.heap.get? b = some o → g.get? b = some o := fun {g} kp b o q =>
    kp b o (Nat.ne_of_lt (Nat.lt_succ_of_lt (Heap.lt_size q))) (copyHeap_old q)
  refine keyH_tree (kz := ds.map key0) (s := { s with heap := copyHeap s.heap us }) (copyHeap_at s.heap us) (by rw [List.length_map]; exact lus.symm) (by rw [lus]; exact h2) hal hsk (fun d hd => ?_)
    (keyH_turns (s := { s with heap := copyHeap s.heap us }) (k := key0) e1 fun v d hR hd h tk kp => ?_) fun h' tk out c kp hD ko => ⟨rfl, ?_⟩
  · obtain ⟨e, he, rfl⟩ := List.mem_map.mp hd
    have := hdp e he
    show X.A.units + 1 + 1 + (key0 e).depth < cLine
    omega
  · obtain ⟨ks, r, rfl, _⟩ := okKey_inv (List.all_eq_true.mp h1 d hd)
    obtain ⟨a, its, rfl, ht, hE⟩ := hR.tup I sm
    obtain ⟨u, us', hits, hu0⟩ : ∃ u us', its.toList = u :: us' ∧ Std X.K G u (.tuple (ks.map PyData.str)) := by
      generalize its.toList = L at hE
      cases hE with
      | cons hh _ => exact ⟨_, _, rfl, hh⟩
    obtain ⟨as, hr⟩ := hu0.reads I sm (List.all_eq_true.mp hsh _ hd)
    have has := reads_strs_nil hr
    subst has
    have hix : its[0]? = some u := by
      rw [← Array.getElem?_toList, hits]
      rfl
    obtain ⟨o, ho1, ho2⟩ := ht
    refine hf h tk (up kp) a its u ⟨o, up kp _ _ ho1, ho2⟩ hix _ fun h2 tk2 k2 => ⟨h2, tk2, rfl, k2, ?_⟩
    exact PyProof.Rows.Reads.keeps (fun b o e => k2 b o (up kp b o e)) hr
  · have eo : EachIs (Std X.K G) out (ds.mergeSort le0) := keyedOut_each key0 ko e1
    obtain ⟨xs, h3, h4⟩ := each_std eo
    have hlen : xs.length ≤ sizeLine := by rw [h4.length, List.length_mergeSort]; exact h2
    have hf2 : H (s.heap.objs.size + 1) = none := I.hok.fresh (Nat.le_succ _)
    have I2 := I.laid (o := .lst xs) (t' := tk) (h' := h') (fun b o e => up kp b o e) (Nat.le_succ _) ⟨hlen, _, c, h3, hD⟩
    exact ⟨.ref (s.heap.objs.size + 1), _, I2, rfl, PostVO.now q sm hf2 (.inl ⟨xs, _, rfl, rfl, h4⟩)⟩
end
end De
end

section
set_option Elab.async false
set_option linter.all false
set_option maxRecDepth 100000
/-! De20: a lambda is made; sorted(e, key=lambda x: x[0]), sorted(e, key=f) as rules. -/
namespace De
open PySem PySem.Spec PyProof.Rows L2
section
variable {X : Cx} {pins : List (Addr × Obj)} {σ : L2.St} {H : Hp} {s : Shared}
theorem sameN_table {Γ : Tbs} {P c' : Addr} {q : Str} {ps : Array Value} {pos : Pos} (hP : H P = some (.tbl ps)) (nC : H c' = none) (hq : ∀ p ∈ Γ, p.1 = P → p.2 = q) (ht : TriplesOk ps.toList) :
    SameN Γ H (upd (upd H P (.tbl (ps ++ #[rawInt pos.line, rawInt pos.col, .ref c']))) c' (LamX.CodeO c' q)) := by
  have other : ∀ b, b ≠ P → b ≠ c' → upd (upd H P (.tbl (ps ++ #[rawInt pos.line, rawInt pos.col, .ref c']))) c' (LamX.CodeO c' q) b = H b := fun b z1 z2 => (upd_ne z2).trans (upd_ne z1)
  have nPc : P ≠ c' := ne_of_none hP nC
  have atP : upd (upd H P (.tbl (ps ++ #[rawInt pos.line, rawInt pos.col, .ref c']))) c' (LamX.CodeO c' q) P = some (.tbl (ps ++ #[rawInt pos.line, rawInt pos.col, .ref c'])) := (upd_ne nPc).trans upd_same
  have ext : ∀ b o, H b = some o → noTbl o → upd (upd H P (.tbl (ps ++ #[rawInt pos.line, rawInt pos.col, .ref c']))) c' (LamX.CodeO c' q) b = some o := fun b o e n => by
    refine (other b (fun z => ?_) (ne_of_none e nC)).trans e
    subst z
    rw [hP] at e
    cases e
    exact n ps rfl
  refine ⟨ext, fun b e => ?_, fun b qs e => ?_, fun t p hp => ?_⟩
  · by_cases z2 : b = c'
    · subst z2; exact nC
    · by_cases z1 : b = P
      · subst z1; rw [atP] at e; cases e
      · rwa [other b z1 z2] at e
  · by_cases z1 : b = P
    · subst z1; exact ⟨_, atP⟩
    · exact ⟨qs, (other b z1 (ne_of_none e nC)).trans e⟩
  · obtain ⟨qs, a1, a2, a3⟩ := t p hp
    have codes : ∀ {c0 : Addr}, H c0 = some (LamX.CodeO c0 p.2) → upd (upd H P (.tbl (ps ++ #[rawInt pos.line, rawInt pos.col, .ref c']))) c' (LamX.CodeO c' q) c0 = some (LamX.CodeO c0 p.2) := fun e => ext _ _ e (LamX.codeO_ne · )
    by_cases z1 : p.1 = P
    · have eq := hq p hp z1
      have eL : (ps ++ #[rawInt pos.line, rawInt pos.col, .ref c']).toList = ps.toList ++ [rawInt pos.line, rawInt pos.col, .ref c'] := by simp
      rw [z1, hP] at a1
      cases a1
      refine ⟨_, by rw [z1]; exact atP, by rw [eL]; exact PySem.TriplesOk_snoc _ _ _ _ a2, fun p' cv hcv => ?_⟩
      rw [eL] at hcv
      rcases LamX.among_app _ a2 hcv with z | z
      · obtain ⟨c0, e1, e2⟩ := a3 p' cv z
        exact ⟨c0, e1, codes e2⟩
      · exact ⟨c', z, by rw [eq]; exact upd_same⟩
    · refine ⟨qs, (other _ z1 (ne_of_none a1 nC)).trans a1, a2, fun p' cv hcv => ?_⟩
      obtain ⟨c0, e1, e2⟩ := a3 p' cv hcv
      exact ⟨c0, e1, codes e2⟩
/-- what is asked of the def that makes lambdas: its code object c, its table P, their name -/
structure LamD (Γ : Tbs) (X : Cx) (c P : Addr) : Prop where
  tb : LamX.TabB X.base X.mg c P
  code : X.env.code = .ref c
  mem : (P, X.env.qual ++ "<lambda>") ∈ Γ
  uniq : ∀ p ∈ Γ, p.1 = P → p.2 = X.env.qual ++ "<lambda>"
theorem lam_new {Γ : Tbs} {c P : Addr} {params : Arguments} {body : Expr} {scope : Scope} {pos : Pos} {E : Value → Shared → Prop} {Q : Value → Shared → Prop} (I : Inv X pins σ H s) (D : LamD Γ X c P) (hT : LamX.Tabs Γ H)
    (hdef : defaultsOf params X.env = ([], [])) (hfree : ∀ y ∈ scope.names, y.2 ≠ .free) (hcl : cloFrom X.env.cells scope.names [] = [])
    (h : ∀ (f c' : Addr) (pm ctv : Value) (H1 : Hp) (s' : Shared), Inv X pins σ H1 s' → SameN Γ H H1 → s'.heap.get? f = some (PySem.W.kla_obj "<lambda>" (X.env.qual ++ "<lambda>") params body scope [] pm c' ctv) → s'.heap.CodeRec (.ref c') (X.env.qual ++ "<lambda>") → Q (.ref f) s') :
    wpAny (model X.prog X.w) X.A (eval (.Lambda params body scope pos) X.env) Q E s := by
  obtain ⟨ps, hP, ht, ha⟩ := hT _ D.mem
  have free : ∀ y ∈ scope.names, y.2 = .free → ∃ c, X.env.cells.lookup y.1 = some c := fun y hy e => absurd e (hfree y hy)
  have bP : s.heap.BuiltinsAt X.mg P := D.tb.bm.keeps I.bk
  have hP' : s.heap.get? P = some { cls := .none, data := .fields ps } := I.hok P _ hP
  refine PySem.W.kla_eval hdef ?_
  cases hc : codeAmong pos ps.toList with
  | some cv =>
    obtain ⟨c', rfl, hco⟩ := ha pos cv hc
    obtain ⟨⟨oc, vs, t, o1, o2, o3⟩, _, _⟩ := I.hok c' _ hco
    refine PySem.W.kla_makeFunctionHit (mg := X.mg) (c := c) (P := P) (ps := ps) (closure_ok free) I.ok.glob (I.mod.glob.keeps I.bk) D.code (D.tb.code.keeps I.bk) hP' ht hc bP fun ctv h' tk hx hsz => ?_
    have up : ∀ {ob : Obj} (b : Addr) (o : Obj), s.heap.get? b = some o → (h'.push ob).get? b = some o := fun b o e => Heap.get?_push_of_some _ (hx b o e)
    refine h h'.objs.size c' ((X.mg "__name__").getD .none) ctv H _ (I.kept fun b o e => up b o e) (.refl H) ?_ ⟨c', oc, vs, t, rfl, up _ _ o1, o2, o3⟩
    rw [hcl]
    refine Heap.get?_push_size _ ?_
    rfl
  | none =>
    refine PySem.W.kla_makeFunction (mg := X.mg) (c := c) (P := P) (ps := ps) (closure_ok free) I.ok.glob (I.mod.glob.keeps I.bk) D.code (D.tb.code.keeps I.bk) hP' ht hc D.tb.gP bP fun c' ctv h' tk hx hge hlt hrec htb => ?_
    obtain ⟨c2, oc, vs, t, e2, hoc, hd, hv⟩ := hrec
    cases e2
    have nC : H c' = none := I.hok.fresh hge
    have I1 := LamX.inv_table (q := X.env.qual ++ "<lambda>") (t' := tk) (more := #[rawInt pos.line, rawInt pos.col, .ref c']) (h' := h'.push (PySem.W.kla_obj "<lambda>" (X.env.qual ++ "<lambda>") params body scope (cloFrom X.env.cells scope.names []) ((X.mg "__name__").getD .none) c' ctv)) I hP
      (fun b o hb e => Heap.get?_push_of_some _ (hx b o hb e)) (Heap.get?_push_of_some _ htb) hge ⟨oc, vs, t, Heap.get?_push_of_some _ hoc, hd, hv⟩
    refine h h'.objs.size c' ((X.mg "__name__").getD .none) ctv _ _ I1 (sameN_table hP nC D.uniq ht) ?_ ⟨c', oc, vs, t, rfl, Heap.get?_push_of_some _ hoc, hd, hv⟩
    rw [hcl]
    refine Heap.get?_push_size _ ?_
    rfl
end
/-! ### the rules -/
def f1 (f : D → Res D) : List D → Res D
  | [d] => f d
  | _ => .stuck
def mSort0 (m : MA) : M := fun ρ => (m ρ).bind (f1 fSort0)
theorem PostO.bindA2 {Γ : Tbs} {K : PySem.W.Frag} {mg : Str → Option Value} {W : WX} {G : Hp} {σ : L2.St} {H : Hp} {Q : VK} {r : Res (List D)} {f : D → Res D} (h : PostO Γ K mg W G σ H Q (r.bind (f1 f))) (hp : ∀ d c, f d ≠ .exc c) :
    PostA Γ K mg W G σ H (fun vs H' => ∃ v d G', vs = [v] ∧ GExt Γ G H G' H' ∧ Rp K G' v d ∧ PostVO Γ K G' H' Q (f d)) r := by
  cases r with
  | ok ds =>
    intro vs G' H' x q
    have h : PostO Γ K mg W G σ H Q (f1 f ds) := h
    match ds, h with
    | [d], h =>
      have h : PostO Γ K mg W G σ H Q (f d) := h
      match vs, q with
      | [v], .cons q .nil =>
        refine ⟨v, d, G', rfl, x, q, ?_⟩
        cases e : f d with
        | ok y => rw [e] at h; exact fun a o G2 H2 x2 n1 n2 ha q2 => h a o G2 H2 (x.trans x2) (x.h.free n1) n2 ha q2
        | exc c => exact absurd e (hp d c)
        | stuck => rw [e] at h; exact h
    | [], h => exact h.elim
    | _ :: _ :: _, h => exact h.elim
  | exc c => exact h
  | stuck => exact h
theorem PostVO.ext {Γ : Tbs} {K : PySem.W.Frag} {G H G1 H1 : Hp} {Q : VK} (x : GExt Γ G H G1 H1) : ∀ {r : Res D}, PostVO Γ K G H Q r → PostVO Γ K G1 H1 Q r
  | .ok d, h => fun a o G2 H2 x2 n1 n2 ha q2 => h a o G2 H2 (x.trans x2) (x.h.free n1) n2 ha q2
  | .exc c, h => h
  | .stuck, h => h
theorem fSort0_noexc (d : D) (c : Str) : fSort0 d ≠ .exc c := by
  unfold fSort0
  split
  · unfold fSort0L; split <;> simp
  · unfold fSort0L; split <;> simp
  · simp
theorem fSort0_case {d : D} {Γ : Tbs} {K : PySem.W.Frag} {G H : Hp} {Q : VK} (q : PostVO Γ K G H Q (fSort0 d)) : ∃ ds, (d = .list ds ∨ d = .tuple ds) ∧ PostVO Γ K G H Q (fSort0L ds) := by
  unfold fSort0 at q
  split at q
  · exact ⟨_, .inl rfl, q⟩
  · exact ⟨_, .inr rfl, q⟩
  · exact q.elim
section
variable {X : Cx}
/-- what is sorted: a list or a tuple of the heap -/
theorem seq_of {pins : List (Addr × Obj)} {σ : L2.St} {H G : Hp} {s : Shared} {v : V} {u : Value} {d : D} {ds : List D} (I : Inv X pins σ H s) (sm : Same G H) (r : Rp X.K G v d) (ru : RelV v u) (hd : d = .list ds ∨ d = .tuple ds) :
    ∃ l vs us, u = .ref l ∧ SeqHeap s.heap l us ∧ Vals vs us ∧ RpAll X.K G vs ds := by
  rcases hd with rfl | rfl
  · generalize e : PyData.list ds = d at r
    cases r with
    | lst h1 r1 =>
      cases e
      obtain ⟨its, rv2, pl, hz⟩ := I.list (SqL.sm sm (.of h1) : SqL X.K H _ _)
      exact ⟨_, _, _, ru, .inl pl.isList, rv2, r1⟩
    | _ => cases e
  · obtain ⟨p, vs, rfl, h1, r1⟩ := r.sqT
    obtain ⟨its, rv2, pl, hz⟩ := I.tuple (SqT.sm sm h1)
    exact ⟨_, _, _, ru, .inr pl, rv2, r1⟩
/-- sorted(e, key=lambda x: x[0]) -/
theorem do_sort0L {Γ : Tbs} {c P : Addr} {k : Nat} {e : Expr} {m : MA} {x : Str} {params : Arguments} {scope : Scope} {p p1 p2 p3 lpos kpos pos : Pos} {j : Nat} (hu : X.A.units + 66 < cLine) (hr : Room k X.A) (hg : Gl X "sorted") (hm : X.mg "sorted" = none) (D : LamD Γ X c P) (ha : DA Γ X [e] m)
    (hdef : defaultsOf params X.env = ([], [])) (hfree : ∀ y ∈ scope.names, y.2 ≠ .free) (hcl : cloFrom X.env.cells scope.names [] = [])
    (hbind : ∀ (q : Str) (pm cv ctv v : Value), bindArgs (PySem.W.kla_fn "<lambda>" q params (.Subscript (.Name x p1) (.Constant (.int 0) j p2) p3) scope [] pm cv ctv) ⟨[v], []⟩ = pure [(x, v)])
    (hkd : scope.kind = .function) (hco : scope.isCoroutine = false) (hgen : scope.isGenerator = false) (hnc : ∀ y ∈ scope.names, y.2 ≠ .cell) (hl : scope.names.lookup x = some .local) (hd : (x == ("__debug__" : Str)) = false := by decide)
    (he : backTo pos (starEach [e] X.env) = (false, eval e X.env) :: backTo pos (starEach [] X.env) := by rfl) (hpl : (backTo pos (starEach [e] X.env)).any (·.1) = false := by rfl) :
    DO Γ X (.Call (.Name "sorted" p) [e] [⟨some "key", .Lambda params (.Subscript (.Name x p1) (.Constant (.int 0) j p2) p3) scope lpos, kpos⟩] pos) (mSort0 m) := by
  refine ⟨fun W tk => ⟨fun pins s σ H Q I hq => ?_⟩⟩
  obtain ⟨G, ρ, R, h⟩ := hq
  refine wpAny_Call_Name_kw (ld_blt I hg hm (by rfl) ?_)
  have h1 := PostO.bindA2 h fSort0_noexc
  refine PyProof.Rows.callWith_kw (thn ((ha.run W tk).run pos pins s σ H _ I ⟨G, ρ, R, h1⟩) fun us s1 ⟨vs, H1, I1, rv, v, d, G1, hvs, x1, rp, q1⟩ => ?_) he hpl
  subst hvs
  obtain ⟨u, rfl, ru⟩ := vals1 rv
  have d1 := x1.d R.d
  show wpAny _ _ (evalAll [do let v ← eval (.Lambda params (.Subscript (.Name x p1) (.Constant (.int 0) j p2) p3) scope lpos) X.env; standAt pos; pure v]) _ _ s1
  refine wpAny_evalAll_cons (wpAny_bind (lam_new I1 D d1.2 hdef hfree hcl fun f c' pm ctv H2 s2 I2 sN of hrec => wpAny_bind (wpAny_standAt (wpAny_pure ?_))))
  refine wpAny_evalAll_nil ?_
  have x2 := GExt.heapN x1.s d1.1 sN
  obtain ⟨ds, hds, q2⟩ := fSort0_case (q1.ext x2)
  obtain ⟨l, vs', us, rfl, hsq, rv2, ra2⟩ := seq_of I2 x2.s rp ru hds
  have hf : Key0 X.prog X.w X.A.in1.in1 (.ref f) s2 := key0_lam (by show X.A.depth < _; have := hr.dp; omega) of hrec I2.nolimit (fun v => hbind _ _ _ _ v) hkd hco hgen hnc hl hd
  exact sorted_key_core hu I2 x2.s hsq rv2 ra2 hf q2
/-- sorted(e, key=f), f a def: return x[0] -/
theorem do_sort0D {Γ : Tbs} {k : Nat} {e : Expr} {m : MA} {fx name qual x : Str} {fp p p1 p2 p3 rp kpos pos : Pos} {j : Nat} {f : Addr} {fd : FuncData} {params : Arguments} {scope : Scope} (hu : X.A.units + 66 < cLine) (hr : Room k X.A) (hg : Gl X "sorted") (hm : X.mg "sorted" = none)
    (hgf : Gl X fx) (hmf : X.mg fx = some (.ref f)) (F : FunD X.K name qual params [.Return (some (.Subscript (.Name x p1) (.Constant (.int 0) j p2) p3)) rp] scope [] [] f fd) (ha : DA Γ X [e] m)
    (hb : ∀ (s : Shared) (v : Value), BindsTo s fd ⟨[v], []⟩ [(x, v)])
    (hkd : scope.kind = .function) (hco : scope.isCoroutine = false) (hgen : scope.isGenerator = false) (hnc : ∀ y ∈ scope.names, y.2 ≠ .cell) (hl : scope.names.lookup x = some .local) (hd : (x == ("__debug__" : Str)) = false := by decide)
    (hdf : (fx == ("__debug__" : Str)) = false := by decide)
    (he : backTo pos (starEach [e] X.env) = (false, eval e X.env) :: backTo pos (starEach [] X.env) := by rfl) (hpl : (backTo pos (starEach [e] X.env)).any (·.1) = false := by rfl) :
    DO Γ X (.Call (.Name "sorted" p) [e] [⟨some "key", .Name fx fp, kpos⟩] pos) (mSort0 m) := by
  refine ⟨fun W tk => ⟨fun pins s σ H Q I hq => ?_⟩⟩
  obtain ⟨G, ρ, R, h⟩ := hq
  refine wpAny_Call_Name_kw (ld_blt I hg hm (by rfl) ?_)
  have h1 := PostO.bindA2 h fSort0_noexc
  refine PyProof.Rows.callWith_kw (thn ((ha.run W tk).run pos pins s σ H _ I ⟨G, ρ, R, h1⟩) fun us s1 ⟨vs, H1, I1, rv, v, d, G1, hvs, x1, rp, q1⟩ => ?_) he hpl
  subst hvs
  obtain ⟨u, rfl, ru⟩ := vals1 rv
  show wpAny _ _ (evalAll [do let v ← eval (.Name fx fp) X.env; standAt pos; pure v]) _ _ s1
  refine wpAny_evalAll_cons (wpAny_bind (ld_glob I1 hgf hmf (wpAny_bind (wpAny_standAt (wpAny_pure ?_))) hdf))
  refine wpAny_evalAll_nil ?_
  obtain ⟨ds, hds, q2⟩ := fSort0_case q1
  obtain ⟨l, vs', us, rfl, hsq, rv2, ra2⟩ := seq_of I1 x1.s rp ru hds
  have hf : Key0 X.prog X.w X.A.in1.in1 (.ref f) s1 := key0_def (by show X.A.depth < _; have := hr.dp; omega) F I1.kIn I1.nolimit hb hkd hco hgen hnc hl hd
  exact sorted_key_core hu I1 x1.s hsq rv2 ra2 hf q2
end
end De
end

section
set_option Elab.async false
set_option linter.all false
set_option maxRecDepth 100000
/-! De21: defs that make lambdas; list.remove; a comprehension over one's own list, assigned. -/
namespace De
open PySem PySem.Spec PySem.W PyProof.Rows L2
/-! ### a def by its body, its code object told -/
theorem Room.u70 {k : Nat} {A : Around} (r : Room k A) : A.units + 70 < cLine := by have := r.un; omega

section
variable {P : Program} {w : World} {K : PySem.W.Frag} {mg : Str → Option Value} {base : Heap} {x qual : Str} {pa : Arguments} {bd : List Stmt} {sc : Scope} {f : Addr} {fd : FuncData} {N ps : List Str} {k : Nat} {m : MS} {p : He.Defn}
theorem FunD.okC {CX : CXT} {sp : Sp} (F : FunD K x qual pa bd sc [] [] (He.fAd K p) fd) (S : FnScope N ps sc) (len : ∀ vs H Q E, sp vs H Q E → vs.length = ps.length)
    (hbody : ∀ (A : Around) (outer : List Env) (s : Shared) (H : Hp) (vs : List V) (Q : VK) (E : XK), Room k (A.deeper (envOfC qual sc s.heap.objs.size (He.fAd K p) (.ref (He.codeOf K p)))) → sp vs H Q E →
      ∃ t, PSs (cxOf CX P w K mg base N qual sc (He.fAd K p) (.ref (He.codeOf K p)) A outer s H E) bd t ∧ t { nx := fun _ H' => Q .non H', rt := Q } (L2.start N vs) H) : FnOk P w K mg base CX (k + 1) (He.fAd K p) fd ps sp := by
  obtain ⟨oc, od, dV, kV, doc, pm, an, cdv, ct, osl, rfl, lk, hcd, _, _⟩ := F.ex
  obtain ⟨c, rfl⟩ := He.codeIn_ref hcd
  have hc : He.codeOf K p = c := He.codeOf_eq lk rfl
  subst hc
  exact fn_of lk hcd S len hbody
theorem fnD_ofC (F : FunD K x qual pa bd sc [] [] (He.fAd K p) fd) (hx : mg x = some (.ref (He.fAd K p))) (S : FnScope N ps sc)
    (hb : ∀ (kV doc pm : Value) (an : Option Addr) (cdv ct : Value) (us : List Value), us.length = ps.length → bindArgs (PySem.W.fnOf x qual pa bd sc .none kV doc pm an cdv ct) ⟨us, []⟩ = pure (ps.zip us))
    (body : ∀ (A : Around) (outer : List Env) (s : Shared) (H : Hp) (E : XK), Room k (A.deeper (envOfC qual sc s.heap.objs.size (He.fAd K p) (.ref (He.codeOf K p)))) → DSs Γ (cxOf (L2.CX P w) P w K mg base N qual sc (He.fAd K p) (.ref (He.codeOf K p)) A outer s H E) bd m) :
    FnD Γ P w K mg base (k + 1) x ps.length (fun ds => runD (m (startR N ds))) := by
  refine ⟨_, fd, ps, FunD.okC F S (fun vs H Q E h => h.1) (fun A outer s H vs Q E hr h => ?_), hx, F.kp, F.bindsN hb⟩
  obtain ⟨hl, G, ds, sm, r, q⟩ := h
  dsimp only at q
  refine ⟨_, (body A outer s H E hr).run _ takesD, (G, H), startR N ds, ⟨G, rel_start sm r⟩, ?_⟩
  show PostS Γ K mg _ _ _ (m (startR N ds))
  cases e : m (startR N ds) with
  | next ρ => rw [e] at q; exact fun σ' H' ⟨G', R⟩ => q .non G' H' R.x .non
  | ret d => rw [e] at q; exact fun v G' H' x r => q v G' H' x r
  | exc c d => rw [e] at q; obtain ⟨C, a, b⟩ := q; exact ⟨C, a, fun σ' H' ⟨G', R⟩ => b H' R.x.h⟩
  | _ => rw [e] at q; exact q.elim
theorem okD_ofC (F : FunD K x qual pa bd sc [] [] (He.fAd K p) fd) (S : FnScope N ps sc)
    (body : ∀ (A : Around) (outer : List Env) (s : Shared) (H : Hp) (E : XK), Room k (A.deeper (envOfC qual sc s.heap.objs.size (He.fAd K p) (.ref (He.codeOf K p)))) → DSs Γ (cxOf (L2.CX P w) P w K mg base N qual sc (He.fAd K p) (.ref (He.codeOf K p)) A outer s H E) bd m) :
    FnOk P w K mg base (L2.CX P w) (k + 1) (He.fAd K p) fd ps (spD Γ K mg ps.length (fun ds => runD (m (startR N ds)))) := by
  refine FunD.okC F S (fun vs H Q E h => h.1) (fun A outer s H vs Q E hr h => ?_)
  obtain ⟨hl, G, ds, sm, r, q⟩ := h
  dsimp only at q
  refine ⟨_, (body A outer s H E hr).run _ takesD, (G, H), startR N ds, ⟨G, rel_start sm r⟩, ?_⟩
  show PostS Γ K mg _ _ _ (m (startR N ds))
  cases e : m (startR N ds) with
  | next ρ => rw [e] at q; exact fun σ' H' ⟨G', R⟩ => q .non G' H' R.x .non
  | ret d => rw [e] at q; exact fun v G' H' x r => q v G' H' x r
  | exc c d => rw [e] at q; obtain ⟨C, a, b⟩ := q; exact ⟨C, a, fun σ' H' ⟨G', R⟩ => b H' R.x.h⟩
  | _ => rw [e] at q; exact q.elim
/-- the tables' list for the defs tf: each with the name of its lambdas -/
def tbsOf (K : PySem.W.Frag) (tf : List He.Defn) (q : He.Defn → Str) : Tbs := tf.map fun p => ((He.cT K p).2, q p)
theorem lamD_of {A : Around} {outer : List Env} {s : Shared} {H : Hp} {E : XK} {tf : List He.Defn} {q : He.Defn → Str} (tb : LamX.TabB base mg (He.cT K p).1 (He.cT K p).2) (hp : p ∈ tf) (nd : (tf.map fun p => (He.cT K p).2).Nodup) (hq : q p = (qual ++ ".<locals>.") ++ "<lambda>") :
    LamD (tbsOf K tf q) (cxOf (L2.CX P w) P w K mg base N qual sc (He.fAd K p) (.ref (He.codeOf K p)) A outer s H E) (He.cT K p).1 (He.cT K p).2 := by
  refine ⟨tb, rfl, List.mem_map.mpr ⟨p, hp, by rw [hq]; rfl⟩, fun r hr h => ?_⟩
  obtain ⟨p', hp', rfl⟩ := List.mem_map.mp hr
  have : p' = p := by
    have inj : ∀ (l : List He.Defn), (l.map fun p => (He.cT K p).2).Nodup → ∀ a ∈ l, ∀ b ∈ l, (He.cT K a).2 = (He.cT K b).2 → a = b := by
      intro l
      induction l with
      | nil => intro _ a ha; cases ha
      | cons z l ih =>
        intro hn a ha b hb hab
        rw [List.map_cons, List.nodup_cons] at hn
        have out : ∀ c ∈ l, (He.cT K z).2 = (He.cT K c).2 → False := fun c hc e => hn.1 (e ▸ List.mem_map_of_mem (f := fun p => (He.cT K p).2) hc)
        rcases List.mem_cons.mp ha with ha | ha
        · rcases List.mem_cons.mp hb with hb | hb
          · rw [ha, hb]
          · exact (out b hb (by rw [← ha]; exact hab)).elim
        · rcases List.mem_cons.mp hb with hb | hb
          · exact (out a ha (by rw [← hb]; exact hab.symm)).elim
          · exact ih hn.2 a ha b hb hab
    exact inj tf nd p' hp' p hp h
  rw [this, hq]
  rfl
end
/-! ### list.remove -/
theorem readsAll_of {h : Heap} : ∀ {us : List Value} {ds : List D}, EachIs (fun v d => ∃ as, Reads h v d as) us ds → ∃ as, ReadsAll h us ds as
  | _, _, .nil => ⟨_, .nil⟩
  | _, _, .cons ⟨as, r⟩ t => let ⟨bs, q⟩ := readsAll_of t; ⟨_, .cons r q⟩
theorem shaped_all : ∀ {ds : List D}, (ds.all fun d => SeqAt.shaped d) = true → PyData.plainAll ds = true ∧ PyData.depthAll ds ≤ 64
  | [], _ => ⟨rfl, by simp [PyData.depthAll]⟩
  | d :: ds, h => by
    rw [List.all_cons, Bool.and_eq_true] at h
    obtain ⟨h1, h2⟩ := shaped_all h.2
    refine ⟨?_, ?_⟩
    · show (PyData.plain d && PyData.plainAll ds) = true
      rw [h1, PyData.plain_of_canLay0 d (SeqAt.canLay_of_shaped h.1)]
      rfl
    · have := SeqAt.depth_of_shaped h.1
      simp only [PyData.depthAll]
      omega
section
variable {X : Cx}
def rRemD (X : Cx) : V → List V → Hp → VK → Prop := fun x vs H Q => ∃ (l : Addr) (xs : List V) (y : V) (G : Hp) (ds : List D) (d : D) (j : Nat), x = .ref l ∧ vs = [y] ∧ H l = some (.lst xs) ∧ Same G H ∧ RpAll X.K G xs ds ∧ Rp X.K G y d ∧
  (ds.all fun d => SeqAt.shaped d) = true ∧ SeqAt.shaped d = true ∧ SeqAt.dataPlace ds d = some j ∧ Q .non (upd H l (.lst (xs.eraseIdx j)))
theorem mt_removeD (hu : X.A.units + 70 < cLine) : MtM X "list.remove" (rRemD X) := by
  intro pins s σ H x vs v us Q I rx rv h
  obtain ⟨l, xs, y, G, ds, d, j, rfl, rfl, hH, sm, ra, rd, hs, hd, hj, q⟩ := h
  cases rx
  obtain ⟨u, rfl, ru⟩ := rv.one
  obtain ⟨z, its, n, r, hl, e⟩ := I.lstM hH
  have e1 : EachIs (fun v d => ∃ as, Reads s.heap v d as) its ds := EachIs.imp2 (std_each r ra) fun v d hd' h => h.reads I sm (List.all_eq_true.mp hs d hd')
  obtain ⟨as, r1⟩ := readsAll_of e1
  obtain ⟨bs, r2⟩ : ∃ bs, Reads s.heap u d bs := Std.reads I sm ⟨y, ru, rd⟩ hd
  obtain ⟨p1, p2⟩ := shaped_all hs
  refine SeqAt.remove_list_data (vs := its.toArray) ⟨_, e, rfl, n, rfl⟩ (by simpa using r1) r2 p1 (PyData.plain_of_canLay0 d (SeqAt.canLay_of_shaped hd)) (by have := Nat.min_le_left (PyData.depthAll ds) d.depth; omega) hj (by rw [List.size_toArray]; omega) ?_
  have hjl : j < its.length := by
    have h1 : SeqAt.dataPlace ds d = some j := hj
    unfold SeqAt.dataPlace at h1
    have := (List.findIdx?_eq_some_iff_getElem.mp h1).1
    rw [e1.length]
    exact this
  refine ⟨.non, _, I.lset (its' := its.eraseIdx j) hH e (by simp [Array.eraseIdxIfInBounds, hjl]) (vals_erase r j) (Nat.le_trans (List.length_eraseIdx_le ..) z), rfl, q⟩
where
  vals_erase : ∀ {xs : List V} {us : List Value} (r : Vals xs us) (j : Nat), Vals (xs.eraseIdx j) (us.eraseIdx j)
    | _, _, .nil, _ => .nil
    | _, _, .cons h t, 0 => t
    | _, _, .cons h t, j + 1 => .cons h (vals_erase t j)
theorem RpAll.erase {K : PySem.W.Frag} {G : Hp} : ∀ {vs : List V} {ds : List D} (r : RpAll K G vs ds) (j : Nat), RpAll K G (vs.eraseIdx j) (ds.eraseIdx j)
  | _, _, .nil, _ => .nil
  | _, _, .cons h t, 0 => t
  | _, _, .cons h t, j + 1 => .cons h (RpAll.erase t j)
/-- x.remove(e), x one's own -/
def mRemove (i : Nat) (m : M) : MS := fun ρ => match ρ[i]? with
  | some (some (.own (.list ds))) => (m ρ).st ρ fun d => if ((ds.all fun d => SeqAt.shaped d) && SeqAt.shaped d) = true then (match SeqAt.dataPlace ds d with
    | some j => .next (ρ.set i (some (.own (.list (ds.eraseIdx j)))))
    | none => .stuck) else .stuck
  | _ => .stuck
theorem ds_remove {i : Nat} {e : Expr} {m : M} {pos : Pos} (hcall : ∀ W, Takes X W → PE X e (tBM X.K "list" (rRemD X) (tVar i) (tCons (rdE Γ X.K X.mg W m) tNil))) (hs : swapsWith e none pos.line X.env = pure false := by rfl) : DS Γ X (.Expr e pos) (mRemove i m) := by
  refine ⟨fun W tk => ps_imp (ps_expr (hcall W tk) hs) fun E σ H ⟨B, ρ, ⟨G, R⟩, h⟩ => ?_⟩
  unfold mRemove at h
  split at h
  · rename_i ds e
    obtain ⟨a, xs, h1, ha, hg, r⟩ := R.r.ownL e
    refine ⟨.ref a, h1, .inl ⟨rfl, xs, .of ha⟩, PostS.bind R h fun d v G' H' R' rp q => ?_⟩
    obtain ⟨hc, q⟩ := PostS.ite q
    obtain ⟨hc1, hc2⟩ := Bool.and_eq_true_iff.mp hc
    obtain ⟨a', xs', h1', ha', hg', r'⟩ := R'.r.ownL e
    rw [h1] at h1'
    cases h1'
    split at q
    · rename_i j hj
      exact ⟨a, xs', v, G', ds, d, j, rfl, rfl, ha', R'.r.s, r', rp, hc1, hc2, hj, q σ _ ⟨G', R'.mutate e h1 (.inl ⟨_, _, rfl, rfl, r'.erase j⟩)⟩⟩
    · exact q.elim
  · exact h.elim
theorem rdO_own {K : PySem.W.Frag} {mg : Str → Option Value} {W : WX} {m : M} {i : Nat} {σ : L2.St} {H : Hp} {Q : VK} (h : rdO Γ K mg W (lockR i m flatO) σ H Q) : rdO Γ K mg W m σ H Q := by
  obtain ⟨G, ρ, R, h⟩ := h
  unfold lockR at h
  split at h
  · rename_i d e
    obtain ⟨a, o, h1, ha, hg, q, RV⟩ := R.view e
    refine ⟨_, _, RV, ?_⟩
    cases em : m (viewR i d ρ) with
    | stuck => rw [em] at h; exact h
    | exc c => rw [em] at h; exact h
    | ok r =>
      rw [em] at h
      intro b u G' H' x n1 n2 hb qo
      simp only [Res.bind] at h
      by_cases hf : flatO r = true
      · rw [if_pos hf] at h
        refine h b u _ H' (x.unview hg) n1 ?_ hb (qo.strip (un_tup q x) hf)
        by_cases z : b = a
        · subst z; exact unG_same
        · rw [unG_ne z]; exact n2
      · rw [if_neg hf] at h; exact h.elim
  · exact h.elim
theorem ds_setLcL {i l : Nat} {y : Str} {py : Pos} {elt tg iter : Expr} {ifs : List Expr} {scope : Scope} {own : List (Str × Nat)} {pos spos : Pos} {mi : MI} {t : Tg} {mt : MT} {me : M} (hc : X.calm = true) (hN : X.N.Nodup) (hy : X.N[i]? = some y) (hyl : X.env.scope.names.lookup y = some .local)
    (hsw : swapsWith (.ListComp elt [⟨tg, iter, ifs, 0⟩] scope pos) (some (.Name y py)) spos.line X.env = pure true) (hi : DI Γ X tg iter mi) (ok : blkC X.N X.env.scope scope own = true) (hs : ∀ j ∈ t.slots, j ∈ own.map (·.2))
    (hg : ∀ (s : Shared) (H : Hp) (C : Addr) (cl : List (Str × Addr)) (fp : List Addr), DG Γ (X.blk s H scope (compEnvC scope cl C X.env) fp) tg t) (ht : ∀ (s : Shared) (H : Hp) (C : Addr) (cl : List (Str × Addr)) (fp : List Addr), DTs Γ (X.blk s H scope (compEnvC scope cl C X.env) fp) ifs mt)
    (he : ∀ (s : Shared) (H : Hp) (C : Addr) (cl : List (Str × Addr)) (fp : List Addr), DE Γ (X.blk s H scope (compEnvC scope cl C X.env) fp) elt me) (hf : ∀ x, foldedSetIterable iter X.env x = pure x := by intro _; rfl) :
    DS Γ X (.Assign [.Name y py] (.ListComp elt [⟨tg, iter, ifs, 0⟩] scope pos) spos) (mSet i (lockR l (mLc mi t (own.map (·.2)) mt me) flatO)) :=
  ⟨fun W tk => ps_imp (ps_setLc hc hN hy hyl hsw (hi.run W tk) (blkOk_by ok) (fun s H C cl fp => (hg s H C cl fp).run) (fun s H C cl fp => (ht s H C cl fp).run W0 takes0) (fun s H C cl fp => (he s H C cl fp).run W0 takes0) hf) fun E σ H ⟨B, ρ, ⟨G, R⟩, h⟩ =>
    tLc_of (fun _ _ _ _ z => z) hs (rdO_own <| PostS.bindO R h fun d a o G' H' R' n1 n2 ha q k => k _ H' ⟨upd G' a o, (R'.hold q.nt (R.x.h.free n1) n2 ha fun j e hj => R.fresh n1 j e hj).setDat i (q.rp n2)⟩)⟩
theorem ds_setLcOL {i l : Nat} {y : Str} {py : Pos} {elt tg iter : Expr} {ifs : List Expr} {scope : Scope} {own : List (Str × Nat)} {pos spos : Pos} {mi : MI} {t : Tg} {mt : MT} {me : M} (hc : X.calm = true) (hN : X.N.Nodup) (hy : X.N[i]? = some y) (hyl : X.env.scope.names.lookup y = some .local)
    (hsw : swapsWith (.ListComp elt [⟨tg, iter, ifs, 0⟩] scope pos) (some (.Name y py)) spos.line X.env = pure true) (hi : DI Γ X tg iter mi) (ok : blkC X.N X.env.scope scope own = true) (hs : ∀ j ∈ t.slots, j ∈ own.map (·.2))
    (hg : ∀ (s : Shared) (H : Hp) (C : Addr) (cl : List (Str × Addr)) (fp : List Addr), DG Γ (X.blk s H scope (compEnvC scope cl C X.env) fp) tg t) (ht : ∀ (s : Shared) (H : Hp) (C : Addr) (cl : List (Str × Addr)) (fp : List Addr), DTs Γ (X.blk s H scope (compEnvC scope cl C X.env) fp) ifs mt)
    (he : ∀ (s : Shared) (H : Hp) (C : Addr) (cl : List (Str × Addr)) (fp : List Addr), DE Γ (X.blk s H scope (compEnvC scope cl C X.env) fp) elt me) (hf : ∀ x, foldedSetIterable iter X.env x = pure x := by intro _; rfl) :
    DS Γ X (.Assign [.Name y py] (.ListComp elt [⟨tg, iter, ifs, 0⟩] scope pos) spos) (mSetO i (lockR l (mLc mi t (own.map (·.2)) mt me) flatO)) :=
  ⟨fun W tk => ps_imp (ps_setLc hc hN hy hyl hsw (hi.run W tk) (blkOk_by ok) (fun s H C cl fp => (hg s H C cl fp).run) (fun s H C cl fp => (ht s H C cl fp).run W0 takes0) (fun s H C cl fp => (he s H C cl fp).run W0 takes0) hf) fun E σ H ⟨B, ρ, ⟨G, R⟩, h⟩ =>
    tLc_of (fun _ _ _ _ z => z) hs (rdO_own <| PostS.bindO R h fun d a o G' H' R' n1 n2 ha q k => k _ H' ⟨G', R'.setOwn i ha n2 q (R.x.h.free n1) fun j e _ hj => R.fresh n1 j e hj⟩)⟩
end
end De
end

section
set_option Elab.async false
set_option linter.all false
set_option maxRecDepth 100000
/-! De22: raise X('m'); try .. except X as e; isinstance(e, Y) in the suite; xs.index(True). -/
namespace De
open PySem PySem.Spec PySem.W PyProof.Rows L2
/-! ### raise -/
/-- what is told of an own class of exceptions -/
structure ExF (K : PySem.W.Frag) (mg : Str → Option Value) (c : Str) (C : Addr) : Prop where
  g : mg c = some (.ref C)
  e : PySem.W.excIn K C He.veBase "ValueError.__new__" = true
  k : PySem.W.keepIn K (.ref C) = true
  s : PySem.W.subIn K (.ref C) (.type "BaseException") = some true
  t : PySem.W.typeIn K (.ref C) = some (.type "type")
abbrev ExFa (K : PySem.W.Frag) (mg : Str → Option Value) (c : Str) : Prop := ∃ C, ExF K mg c C
theorem exF_of {K : PySem.W.Frag} {h : Heap} {mg : Str → Option Value} (X : K.In h) (G : h.Ns mainGlobals mg) {c : Str} (g : mg c = some (.ref (He.ga K c))) (f : (He.Fa.exc c).ok K = true) : ExFa K mg c := by
  obtain ⟨h1, h2, h3, h4⟩ := He.exc_ok f
  exact ⟨_, g, h1, h2, h3, h4⟩
def mRaise (c : Str) : MS := fun ρ => .exc c ρ
section
variable {X : Cx}
theorem ds_raise {c m : Str} {j : Nat} {p p2 pos pos' : Pos} (hc : X.calm = true) (F : ExFa X.K X.mg c) (hg : Gl X c := by rfl) (hdb : (c == ("__debug__" : Str)) = false := by decide) :
    DS Γ X (.Raise (some (.Call (.Name c p) [.Constant (.str m) j p2] [] pos)) none pos') (mRaise c) := by
  obtain ⟨C, F⟩ := F
  refine ⟨fun W tk => ps_imp (L2.ps_raise hc tk (pmk_own PySem.F.excBase_ValueError F.e F.g F.k (raises_own F.s F.t) hg hdb)) fun D σ H ⟨B, ρ, R, h⟩ => ?_⟩
  obtain ⟨C', h1, h2⟩ := h
  rw [F.g] at h1
  cases h1
  exact h2 σ H R
/-! ### try -/
/-- slots that nothing is known of -/
theorem RelE.setRaw {K : PySem.W.Frag} {G : Hp} {ρ : Rho} {σ : L2.St} {H : Hp} (R : RelE Γ K G ρ σ H) (i : Nat) (v : V) : RelE Γ K G (ρ.set i (some (.raw v))) (σ.set i (some v)) H := by
  refine ⟨R.s, R.d, by simpa using R.len, fun j x h => ?_, fun j k d' e' v' hjk h1 h2 h3 => ?_⟩
  · rcases get_set h with ⟨rfl, e, hl⟩ | ⟨hj, h⟩
    · cases e
      exact ⟨v, List.getElem?_set_self (by rw [← R.len]; exact hl), rfl⟩
    · obtain ⟨w, h1, h2⟩ := R.at_ j x h
      exact ⟨w, by rw [List.getElem?_set_ne (Ne.symm hj)]; exact h1, h2⟩
  · rcases get_set h1 with ⟨rfl, e, hl⟩ | ⟨hj1, h1⟩
    · cases e
    · rcases get_set h2 with ⟨rfl, e, hl⟩ | ⟨hj2, h2⟩
      · cases e
      · rw [List.getElem?_set_ne (Ne.symm hj1)] at h3
        rw [List.getElem?_set_ne (Ne.symm hj2)]
        exact R.apart j k d' e' v' hjk h1 h2 h3
theorem RelE.setNo {K : PySem.W.Frag} {G : Hp} {ρ : Rho} {σ : L2.St} {H : Hp} (R : RelE Γ K G ρ σ H) (i : Nat) : RelE Γ K G (ρ.set i none) (σ.set i none) H := by
  refine ⟨R.s, R.d, by simpa using R.len, fun j x h => ?_, fun j k d' e' v' hjk h1 h2 h3 => ?_⟩
  · rcases get_set h with ⟨rfl, e, hl⟩ | ⟨hj, h⟩
    · cases e
    · obtain ⟨w, h1, h2⟩ := R.at_ j x h
      exact ⟨w, by rw [List.getElem?_set_ne (Ne.symm hj)]; exact h1, h2⟩
  · rcases get_set h1 with ⟨rfl, e, hl⟩ | ⟨hj1, h1⟩
    · cases e
    · rcases get_set h2 with ⟨rfl, e, hl⟩ | ⟨hj2, h2⟩
      · cases e
      · rw [List.getElem?_set_ne (Ne.symm hj1)] at h3
        rw [List.getElem?_set_ne (Ne.symm hj2)]
        exact R.apart j k d' e' v' hjk h1 h2 h3
theorem RelS.setRaw {K : PySem.W.Frag} {B : Hp × Hp} {ρ : Rho} {σ : L2.St} {H : Hp} (R : RelS Γ K B ρ σ H) (i : Nat) (v : V) : RelS Γ K B (ρ.set i (some (.raw v))) (σ.set i (some v)) H := by
  obtain ⟨G, R⟩ := R
  refine ⟨G, R.x, R.r.setRaw i v, fun j e a h1 h2 => ?_⟩
  rcases get_set h1 with ⟨rfl, e, hl⟩ | ⟨hj, h1⟩
  · cases e
  · rw [List.getElem?_set_ne (Ne.symm hj)] at h2
    exact R.f j e a h1 h2
theorem RelS.setNo {K : PySem.W.Frag} {B : Hp × Hp} {ρ : Rho} {σ : L2.St} {H : Hp} (R : RelS Γ K B ρ σ H) (i : Nat) : RelS Γ K B (ρ.set i none) (σ.set i none) H := by
  obtain ⟨G, R⟩ := R
  refine ⟨G, R.x, R.r.setNo i, fun j e a h1 h2 => ?_⟩
  rcases get_set h1 with ⟨rfl, e, hl⟩ | ⟨hj, h1⟩
  · cases e
  · rw [List.getElem?_set_ne (Ne.symm hj)] at h2
    exact R.f j e a h1 h2
/-- the name of the clause goes -/
def goneR (i : Nat) : RSt → RSt
  | .next ρ => .next (ρ.set i none)
  | .brk ρ => .brk (ρ.set i none)
  | .cont ρ => .cont (ρ.set i none)
  | .exc _ _ => .stuck
  | r => r
/-- try: body, except C as e (slot i): suite; sub c: whether the class c is one of C -/
noncomputable def mTry (i : Nat) (sub : Str → Option Bool) (mb : MS) (ms : Addr → Str → MS) : MS := fun ρ => match mb ρ with
  | .exc c ρ' => match sub c with
    | some true => (open Classical in if h : ∃ r, ∀ a, goneR i (ms a c (ρ'.set i (some (.raw (.ref a))))) = r then h.choose else .stuck)
    | some false => .exc c ρ'
    | none => .stuck
  | r => r
theorem mTry_exc {i : Nat} {sub : Str → Option Bool} {mb : MS} {ms : Addr → Str → MS} {ρ ρ' : Rho} {c : Str} {r : RSt} (h1 : mb ρ = .exc c ρ') (h2 : sub c = some true) (h : ∀ a, goneR i (ms a c (ρ'.set i (some (.raw (.ref a))))) = r) : mTry i sub mb ms ρ = r := by
  unfold mTry
  rw [h1]
  simp only
  rw [h2]
  simp only
  have hh : ∃ r, ∀ a, goneR i (ms a c (ρ'.set i (some (.raw (.ref a))))) = r := ⟨r, h⟩
  rw [dif_pos hh]
  rw [← hh.choose_spec 0]
  exact h 0
theorem mTry_next {i : Nat} {sub : Str → Option Bool} {mb : MS} {ms : Addr → Str → MS} {ρ ρ' : Rho} (h1 : mb ρ = .next ρ') : mTry i sub mb ms ρ = .next ρ' := by
  unfold mTry
  rw [h1]
theorem ds_try {i : Nat} {n x : Str} {CP : Addr} {sub : Str → Option Bool} {mb : MS} {ms : Addr → Str → MS} {body suite : List Stmt} {b₀ : Stmt} {np pos pos' : Pos} (hs : X.stack = X.env :: X.outer) (hf : X.env.frame = some X.env.locals) (hN : X.N.Nodup) (hi : X.N[i]? = some n) (hln : X.env.kindOf n = some .local) (hc : Names X x (.ref CP))
    (hmg : ∀ c b, sub c = some b → ∃ C, X.mg c = some (.ref C) ∧ PySem.W.exmOne X.K (.ref C) (.ref CP) = some b)
    (hb : ∀ (pn : List (Addr × Obj)) (xe : Value → Shared → Prop), DSs Γ (X.tr pn xe) body mb)
    (hsu : ∀ (a : Addr) (oe : Obj) (c : Str) (C : Addr) (pn : List (Addr × Obj)), sub c = some true → X.mg c = some (.ref C) → Zc (.ref C) none oe → (∃ vs, oe.data = .fields vs) → DSs Γ (X.suite a ((a, oe) :: pn)) (b₀ :: suite) (ms a c)) :
    DS Γ X (.Try body [.ExceptHandler (some (.Name x np)) (some n) (b₀ :: suite) pos'] [] [] pos) (mTry i sub mb ms) := by
  refine ⟨fun W tk => ps_imp (L2.ps_try_as (tb := fun W => rdS Γ X.K X.mg W mb) (ts := fun a cls d => fun D σ H => ∃ c C, sub c = some true ∧ X.mg c = some (.ref C) ∧ cls = .ref C ∧ d = none ∧ rdS Γ X.K X.mg W0 (ms a c) D σ H) (i := i) hs hf hN hi hln hc tk
    (fun W pn xe t _ => (hb pn xe).run W t) (fun a oe cls d pn hz hd => ⟨fun pins s σ H D I ⟨c, C, h1, h2, e1, e2, q⟩ => ?_⟩)) fun D σ H ⟨B, ρ, R, h⟩ => ?_⟩
  · subst e1 e2
    exact ((hsu a oe c C pn h1 h2 hz hd).run W0 takes0).run pins s σ H D I q
  · refine ⟨B, ρ, R, ?_⟩
    unfold mTry at h
    cases e : mb ρ with
    | exc c ρ' =>
      rw [e] at h
      simp only at h
      cases e2 : sub c with
      | none => rw [e2] at h; exact h.elim
      | some b =>
        obtain ⟨C, g1, g2⟩ := hmg c b e2
        rw [e2] at h
        refine ⟨C, g1, fun σ' H' R' => ⟨b, g2, fun hb a ha => ?_, fun hb => ?_⟩⟩
        · subst hb
          simp only at h
          split at h
          · rename_i hh
            rw [← hh.choose_spec a] at h
            refine ⟨c, C, e2, g1, rfl, rfl, B, _, R'.setRaw i (.ref a), ?_⟩
            revert h
            cases ms a c (ρ'.set i (some (.raw (.ref a)))) with
            | next ρ2 => exact fun h σ2 H2 R2 => h _ _ (R2.setNo i)
            | brk ρ2 => exact fun h σ2 H2 R2 => h _ _ (R2.setNo i)
            | cont ρ2 => exact fun h σ2 H2 R2 => h _ _ (R2.setNo i)
            | ret d => exact fun h => h
            | reto d => exact fun h => h
            | exc c2 ρ2 => exact fun h => h.elim
            | stuck => exact fun h => h.elim
          · exact h.elim
        · subst hb
          simp only at h
          obtain ⟨C', g3, q⟩ := h
          rw [g1] at g3
          cases g3
          exact q σ' H' R'
    | next ρ2 => rw [e] at h; exact h
    | brk ρ2 => rw [e] at h; exact h
    | cont ρ2 => rw [e] at h; exact h
    | ret d => rw [e] at h; exact h
    | reto d => rw [e] at h; exact h
    | stuck => rw [e] at h; exact h.elim
/-! ### isinstance(e, Y) in the suite -/
def mIsE (i : Nat) (a : Addr) (b : Bool) : M := fun ρ => match ρ[i]? with
  | some (some (.raw (.ref a2))) => if a2 = a then .ok (.bool b) else .stuck
  | _ => .stuck
theorem de_isE {i : Nat} {a C C2 : Addr} {oe : Obj} {pn : List (Addr × Obj)} {y z : Str} {b : Bool} {p p1 p2 pos : Pos} (F : ExcC X.K C) (hz : Zc (.ref C) none oe) (hf : ∃ vs, oe.data = .fields vs) (hm : X.mg "isinstance" = none) (hg : Gl X "isinstance") (hN : X.N[i]? = some y) (hv : Vis X.env.scope y) (hg2 : Gl X z) (hm2 : X.mg z = some (.ref C2))
    (hb : PySem.W.kitOne X.K (.ref C) (.ref C2) = some b) (hd : (y == ("__debug__" : Str)) = false := by decide) (hcd : (y == ("__classdict__" : Str)) = false := by decide) (hd2 : (z == ("__debug__" : Str)) = false := by decide)
    (hs : starEach [.Name y p1, .Name z p2] X.env = (false, eval (.Name y p1) X.env) :: starEach [.Name z p2] X.env := by rfl) (hs2 : starEach [.Name z p2] X.env = (false, eval (.Name z p2) X.env) :: starEach [] X.env := by rfl) (hpl : (backTo pos (starEach [.Name z p2] X.env)).any (·.1) = false := by rfl) :
    DE Γ (X.suite a ((a, oe) :: pn)) (.Call (.Name "isinstance" p) [.Name y p1, .Name z p2] [] pos) (mIsE i a b) :=
  ⟨fun W tk => pe_imp (pe_callB (X := X.suite a ((a, oe) :: pn)) (call_isE F hz hf) hg hm (by rfl) (pa_cons (pe_var hN hv hd hcd) (pa_cons (pe_glob hg2 hm2 (show RelV (.ref C2) (.ref C2) from rfl) hd2) pa_nil hs2) hs) (by decide) (by decide) hs hpl) fun σ H Q ⟨G, ρ, R, h⟩ => by
    unfold mIsE at h
    split at h
    · rename_i a2 e
      obtain ⟨ea, h⟩ := Post.ite h
      obtain ⟨v, h1, h2⟩ := R.at_ i _ e
      have h2 : v = .ref a2 := h2
      refine ⟨v, h1, ?_⟩
      show rIsE X.K C a [v, .ref C2] H Q
      subst h2 ea
      exact ⟨.ref C2, .ref C2, b, rfl, fun u hu => hu, hb, Post.now R.s h (.bl b)⟩
    · exact h.elim⟩
/-! ### xs.index(True), xs a list of truth values -/
def boolsD (bs : List Bool) : List D := bs.map PyData.bool
def fIndexT (d : D) : Res D := match d with
  | .list ds => match asBools ds with
    | some bs => match bs.findIdx? (fun b => b) with
      | some j => .ok (.int (j : Nat))
      | none => .stuck
    | none => .stuck
  | _ => .stuck
theorem flat_bls : ∀ bs : List Bool, (bs.map V.bl).all flatV = true
  | [] => rfl
  | b :: bs => by rw [List.map_cons, List.all_cons, flat_bls bs]; rfl
theorem de_index {e b : Expr} {m : M} {apos pos : Pos} (h : DE Γ X e m) (hb : DE Γ X b (mC (.bool true)))
    (hbase : attributeBase e "index" X.env (eval e X.env) = eval e X.env := by rfl)
    (hfew : ((backTo pos (starEach [b] X.env)).all (fun x => !x.1) && (backToKw pos (keywordEach [] X.env)).all (fun x => x.1.isSome)
      && decide ([b].length + ([] : List Keyword).length + (if ([] : List Keyword).isEmpty then 0 else 1) < 30)) = true := by rfl)
    (hline : (apos.endLine == pos.line) = true := by rfl) (hs : starEach [b] X.env = (false, eval b X.env) :: starEach [] X.env := by rfl) (hplain : (backTo pos (starEach [] X.env)).any (·.1) = false := by rfl) :
    DE Γ X (.Call (.Attribute e "index" apos) [b] [] pos) (mUn fIndexT m) :=
  ⟨fun W tk => pe_imp (pe_bm PySem.F.plainAttrs_list PySem.F.slot_list_index PySem.F.type_list_index mt_index (h.run W tk) (pa_cons (hb.run W tk) pa_nil hs) hbase hfew hline hs hplain) fun σ H Q ⟨G, ρ, R, h⟩ => ⟨G, ρ, R, Post.bind h fun d v G1 H1 ed x1 r1 q1 => by
    have q2 := post_plain q1
    clear q1 ed
    unfold fIndexT at q2
    split at q2
    · rename_i ds
      split at q2
      · rename_i bs eb
        split at q2
        · rename_i j ej
          have : ∃ a xs, v = .ref a ∧ SqL X.K G1 a xs ∧ RpAll X.K G1 xs ds := by
            generalize e : PyData.list ds = d at r1
            cases r1 with
            | lst h1 ra => cases e; exact ⟨_, _, rfl, .of h1, ra⟩
            | _ => cases e
          obtain ⟨a, xs, rfl, hs, ra⟩ := this
          have ex := asBools_rp eb ra
          refine ⟨.inl ⟨rfl, xs, SqL.sm x1.s hs⟩, G1, ρ, R.ext x1, ?_⟩
          intro w G2 H2 x2 r2
          obtain rfl := Rp.bool r2
          obtain ⟨hjl, hjt, hno⟩ := List.findIdx?_eq_some_iff_getElem.mp ej
          subst ex
          refine ⟨a, bs.map V.bl, .bl true, j, .bl true, rfl, rfl, ?_, rfl, flat_bls bs, ?_, rfl, fun m' z' hm hz => ?_, ?_⟩
          · exact SqL.sm (x2.g.trans x2.s) hs
          · rw [List.getElem?_map, List.getElem?_eq_getElem hjl]
            simp only [Option.map_some]
            have : bs[j] = true := hjt
            rw [this]
          · rw [List.getElem?_map] at hz
            have hml : m' < bs.length := by omega
            rw [List.getElem?_eq_getElem hml] at hz
            simp only [Option.map_some, Option.some.injEq] at hz
            have := hno m' hm
            have : bs[m'] = false := by simpa using this
            rw [this] at hz
            subst hz
            rfl
          · exact q2 (.int j) G2 H2 x2 (.int _)
        · exact q2.elim
      · exact q2.elim
    · exact q2.elim⟩⟩
end
end De
end

section
set_option Elab.async false
set_option linter.all false
set_option maxRecDepth 100000
/-! De23: x, y = a, b where a name is a cell (the tuple is built). -/
namespace De
open PySem PySem.Spec PyProof.Rows L2
theorem mkT_rd {K : PySem.W.Frag} {H : Hp} {p : Addr} {k : Bool} {o : Obj} {vs : List V} (h : H p = some (mkT k o vs)) : SqT K H p vs := by
  unfold mkT at h
  cases k
  · exact .inl (.inr ⟨o, h⟩)
  · exact .inl (.inl h)
theorem mkT_noTbl (k : Bool) (o : Obj) (vs : List V) : noTbl (mkT k o vs) := by
  intro ps h
  unfold mkT at h
  cases k <;> cases h
theorem mParU_core {K : PySem.W.Frag} {mg : Str → Option Value} {W : WX} {B : Hp × Hp} {E : Ends} {is : List Nat} {m : MM} {G : Hp} {ρ : Rho} {σ : L2.St} {H : Hp} (R : RelG Γ K B G ρ σ H) (h : PostS Γ K mg W B E (mPar is m ρ)) :
    rdM Γ K mg W m σ H fun vs H' => vs.length = is.length ∧ ∀ p o, H' p = none → E.nx (putV is vs σ) (upd H' p o) := by
  refine PostS.bindM R h fun sls vs G' H' R' ok q => ?_
  split at q
  · rename_i ρ' e
    have hl : sls.length = is.length := by
      clear ok q R' h R
      induction is generalizing sls ρ with
      | nil => cases sls with | nil => rfl | cons a b => simp [putSl] at e
      | cons i is ih => cases sls with
        | nil => simp [putSl] at e
        | cons a b => cases a <;> simp [putSl] at e <;> simp [ih _ e]
    refine ⟨by have := ok.r.len; simp at this; omega, fun p o hp => ?_⟩
    have sm : Same H' (upd H' p o) := fun b u z => (upd_ne (ne_of_none z hp)).trans z
    have x := GExt.heapN R'.r.s R'.r.d.1 (SameN.of (Γ := Γ) sm)
    refine q _ _ ⟨G', putSl_rel (R'.ext x) (ok.r.ext x) (fun i d a h1 h2 => ?_) e⟩
    have hn := ok.f i d a h1 h2
    exact ⟨R.x.h.free hn, fun j e' hj => R.fresh hn j e' hj⟩
  · exact q.elim
section
variable {X : Cx}
theorem ds_parU2 {i j : Nat} {x y : Str} {a b : Expr} {m : MM} {px py pt : Pos} {kt k2 pt2} {pos : Pos} (hc : X.calm = true) (hN : X.N.Nodup) (hi : X.N[i]? = some x) (hj : X.N[j]? = some y) (hx : Loc X.env.scope x) (hy : Loc X.env.scope y) (hfx : X.fn x = true ∨ X.env.scope.names.lookup x = some .local) (hfy : X.fn y = true ∨ X.env.scope.names.lookup y = some .local) (ha : DM Γ X [a, b] m)
    (hs : swapsWithSole [.Tuple [.Name x px, .Name y py] kt pt] (.Tuple [a, b] k2 pt2) pos.line X.env = pure false := by rfl) (hw : swappedStores [.Tuple [.Name x px, .Name y py] kt pt] (.Tuple [a, b] k2 pt2) X.env = pure none := by rfl)
    (h1 : (assignEach [.Tuple [.Name x px, .Name y py] kt pt] X.env).map (·.2) = [assign (.Tuple [.Name x px, .Name y py] kt pt) X.env] := by rfl)
    (q1 : (assignEach [.Name x px, .Name y py] X.env).map (·.2) = assign (.Name x px) X.env :: (assignEach [.Name y py] X.env).map (·.2) := by rfl) (q2 : (assignEach [.Name y py] X.env).map (·.2) = assign (.Name y py) X.env :: (assignEach [] X.env).map (·.2) := by rfl)
    (hn : (assignEach [.Name x px, .Name y py] X.env).length = 2 := by rfl) (hst : (assignEach [.Name x px, .Name y py] X.env).findIdx? (·.1) = none := by rfl) :
    DS Γ X (.Assign [.Tuple [.Name x px, .Name y py] kt pt] (.Tuple [a, b] k2 pt2) pos) (mPar [i, j] m) :=
  ⟨fun W tk => ps_imp (ps_asg (pe_tupK (ha.run W tk)) (pg_tup hc (pgs_cons (pg_name hN hi hx hfx) (pgs_cons (pg_name hN hj hy hfy) pgs_nil q2) q1) hn hst) hs hw h1) fun E σ H ⟨B, ρ, ⟨G, R⟩, h⟩ => by
    obtain ⟨G1, ρ1, R1, q⟩ := mParU_core R h
    refine ⟨G1, ρ1, R1, ?_⟩
    revert q
    cases m ρ1 with
    | ok sls =>
      intro q vs G' H' x ok
      obtain ⟨hl, h2⟩ := q vs G' H' x ok
      match vs, hl with
      | [v, w], _ =>
        refine ⟨by show 2 ≤ sizeLine; rw [sizeLine_eq]; omega, true, fun p o hp po => ?_⟩
        exact ⟨p, [v, w], rfl, mkT_rd (K := X.K) upd_same, rfl, v, [w], rfl, w, [], rfl, rfl, h2 p _ hp⟩
    | exc c => exact fun q => q
    | stuck => exact fun q => q⟩
end
end De
end

section
set_option linter.all false
set_option maxRecDepth 100000
namespace L67
open PySem PySem.Spec PyProof.Rows L2 De
def fuel : Nat := 20000
def es : List Str := ["InvalidAddress", "InvalidChart", "InvalidMode", "InvalidPath"]
def sub_PathError (c : Str) : Option Bool := if c = "InvalidPath" then some true else if c = "InvalidChart" then some true else if c = "InvalidAddress" then some true else if c = "InvalidMode" then some true else none
noncomputable section
def N_is_name : List Str := ["value", "sign"]
def m_is_name : MS :=
  (mRet (mAnd (mIsi "str" (mVar 0)) (mAnd (mChain fLe fLe (mC (.int 1)) (mCallB fLen (mCons (mVar 0) mNil)) (mC (.int 3))) (mCallB fAll (mCons (mLc (mStrI (mVar 0)) (.nm 1) [1] mYes (mOp fIn (mVar 1) (mC (.str "abcdefghijklmnopqrstuvwxyz")))) mNil)))))
def f_is_name (ds : List D) : Res D := runD (m_is_name (startR N_is_name ds))
def N_is_part : List Str := ["value"]
def m_is_part : MS :=
  (mRet (mOr (mCall 1 f_is_name (mCons (mVar 0) mNil)) (mAnd (mIsi "str" (mVar 0)) (mOp fIn (mVar 0) (mTup (mCons (mC (.str ".")) (mCons (mC (.str "..")) mNil)))))))
def f_is_part (ds : List D) : Res D := runD (m_is_part (startR N_is_part ds))
def N_is_path : List Str := ["candidate", "start", "parts", "part"]
def m_is_path : MS :=
  (mSeq (mIfS (mOrT (mNotT (mTest (mIsi "tuple" (mVar 0)))) (mOrT (mTest (mOp fNe (mCallB fLen (mCons (mVar 0) mNil)) (mC (.int 2)))) (mNotT (mTest (mIsi "str" (mOp fIdx (mVar 0) (mC (.int 0))))))))
  (mRet (mC (.bool false)))
  mSkip) (mSeq (mAsg (.tp [1, 2]) (mVar 0)) (mSeq (mIfS (mOrT (mTest (mOp fNotIn (mVar 1) (mTup (mCons (mC (.str "/")) (mCons (mC (.str "")) mNil))))) (mOrT (mNotT (mTest (mIsi "tuple" (mVar 2)))) (mNotT (mTest (mCallB fAll (mCons (mLc (mSeqI (mVar 2)) (.nm 3) [3] mYes (mCall 1 f_is_part (mCons (mVar 3) mNil))) mNil))))))
  (mRet (mC (.bool false)))
  mSkip) (mRet (mAnd (mOp fLe (mCallB fLen (mCons (mVar 2) mNil)) (mC (.int 12))) (mOr (mOp fEq (mVar 1) (mC (.str "/"))) (mOp fNe (mVar 2) (mTup mNil))))))))
def f_is_path (ds : List D) : Res D := runD (m_is_path (startR N_is_path ds))
def N_check_path : List Str := ["value"]
def m_check_path : MS :=
  (mIfS (mNotT (mTest (mCall 1 f_is_path (mCons (mVar 0) mNil))))
  (mRaise "InvalidPath")
  mSkip)
def f_check_path (ds : List D) : Res D := runD (m_check_path (startR N_check_path ds))
def N_is_address : List Str := ["value", "name"]
def m_is_address : MS :=
  (mRet (mAnd (mIsi "tuple" (mVar 0)) (mAnd (mOp fLe (mCallB fLen (mCons (mVar 0) mNil)) (mC (.int 30))) (mCallB fAll (mCons (mLc (mSeqI (mVar 0)) (.nm 1) [1] mYes (mCall 1 f_is_name (mCons (mVar 1) mNil))) mNil)))))
def f_is_address (ds : List D) : Res D := runD (m_is_address (startR N_is_address ds))
def N_is_what : List Str := ["value"]
def m_is_what : MS :=
  (mRet (mOr (mCall 1 f_is_path (mCons (mVar 0) mNil)) (mAnd (mIsi "str" (mVar 0)) (mOp fIn (mVar 0) (mTup (mCons (mC (.str "dir")) (mCons (mC (.str "file")) (mCons (mC (.str "absent")) mNil))))))))
def f_is_what (ds : List D) : Res D := runD (m_is_what (startR N_is_what ds))
def N_is_row : List Str := ["value"]
def m_is_row : MS :=
  (mSeq (mIfS (mOrT (mNotT (mTest (mIsi "tuple" (mVar 0)))) (mOrT (mTest (mOp fNe (mCallB fLen (mCons (mVar 0) mNil)) (mC (.int 2)))) (mNotT (mTest (mCall 1 f_is_address (mCons (mOp fIdx (mVar 0) (mC (.int 0))) mNil))))))
  (mRet (mC (.bool false)))
  mSkip) (mRet (mAnd (mCall 1 f_is_what (mCons (mOp fIdx (mVar 0) (mC (.int 1))) mNil)) (mAnd (mOp fNe (mOp fIdx (mVar 0) (mC (.int 0))) (mTup mNil)) (mOr (mOp fNe (mOp fIdx (mVar 0) (mC (.int 1))) (mC (.str "dir"))) (mOp fLt (mCallB fLen (mCons (mOp fIdx (mVar 0) (mC (.int 0))) mNil)) (mC (.int 30))))))))
def f_is_row (ds : List D) : Res D := runD (m_is_row (startR N_is_row ds))
def N_is_chart : List Str := ["candidate", "known", "row", "one", "other"]
def m_is_chart : MS :=
  (mSeq (mIfS (mOrT (mNotT (mTest (mIsi "tuple" (mVar 0)))) (mOrT (mTest (mOp fGt (mCallB fLen (mCons (mVar 0) mNil)) (mC (.int 60)))) (mNotT (mTest (mCallB fAll (mCons (mLc (mSeqI (mVar 0)) (.nm 2) [2] mYes (mCall 1 f_is_row (mCons (mVar 2) mNil))) mNil))))))
  (mRet (mC (.bool false)))
  mSkip) (mSeq (mIfS (mNotT (mTest (mCallB fAll (mCons (mLc (fun ρ => ((mCons (mVar 0) (mCons (mSl fSl (mVar 0) (mPart (mC (.int 1))) mNo) mNil)) ρ).bind asZip) (.tp [3, 4]) [3, 4] mYes (mOp fLt (mOp fIdx (mVar 3) (mC (.int 0))) (mOp fIdx (mVar 4) (mC (.int 0))))) mNil))))
  (mRet (mC (.bool false)))
  mSkip) (mSeq (mSet 1 (mCallB fDict (mCons (mVar 0) mNil))) (mRet (mCallB fAll (mCons (mLc (mSeqI (mVar 0)) (.nm 2) [2] mYes (mOr (mOp fEq (mCallB fLen (mCons (mOp fIdx (mVar 2) (mC (.int 0))) mNil)) (mC (.int 1))) (mOp fEq (mGet1 (mVar 1) (mSl fSl (mOp fIdx (mVar 2) (mC (.int 0))) mNo (mPart (mUn fNeg (mC (.int 1)))))) (mC (.str "dir"))))) mNil))))))
def f_is_chart (ds : List D) : Res D := runD (m_is_chart (startR N_is_chart ds))
def N_check_chart : List Str := ["value"]
def m_check_chart : MS :=
  (mIfS (mNotT (mTest (mCall 1 f_is_chart (mCons (mVar 0) mNil))))
  (mRaise "InvalidChart")
  mSkip)
def f_check_chart (ds : List D) : Res D := runD (m_check_chart (startR N_check_chart ds))
def N_known_at : List Str := ["known", "address", "size", "what"]
def m_known_at : MS :=
  (mSeq (mFor (fun ρ => ((mCons (mC (.int 1)) (mCons (mCallB fLen (mCons (mVar 1) mNil)) mNil)) ρ).bind asRng2) (.nm 2)
  (mSeq (mSet 3 (mGet2 (mVar 0) (mSl fSl (mVar 1) mNo (mPart (mVar 2))) (mC (.str "unknown")))) (mIfS (mTest (mOp fNe (mVar 3) (mC (.str "dir"))))
  (mRet (mIf (mTest (mOp fEq (mVar 3) (mC (.str "unknown")))) (mC (.str "unknown")) (mC (.str "absent"))))
  mSkip))) (mRet (mIf (mTest (mOp fNe (mVar 1) (mTup mNil))) (mGet2 (mVar 0) (mVar 1) (mC (.str "unknown"))) (mC (.str "dir")))))
def f_known_at (ds : List D) : Res D := runD (m_known_at (startR N_known_at ds))
def N_is_directory : List Str := ["chart", "value"]
def m_is_directory : MS :=
  (mRet (mAnd (mCall 1 f_is_address (mCons (mVar 1) mNil)) (mOp fEq (mCall 2 f_known_at (mCons (mCallB fDict (mCons (mVar 0) mNil)) (mCons (mVar 1) mNil))) (mC (.str "dir")))))
def f_is_directory (ds : List D) : Res D := runD (m_is_directory (startR N_is_directory ds))
def N_check_directory : List Str := ["chart", "value"]
def m_check_directory : MS :=
  (mIfS (mNotT (mTest (mCall 2 f_is_directory (mCons (mVar 0) (mCons (mVar 1) mNil)))))
  (mRaise "InvalidAddress")
  mSkip)
def f_check_directory (ds : List D) : Res D := runD (m_check_directory (startR N_check_directory ds))
def N_check_mode : List Str := ["value"]
def m_check_mode : MS :=
  (mIfS (mOrT (mNotT (mTest (mIsi "str" (mVar 0)))) (mTest (mOp fNotIn (mVar 0) (mTup (mCons (mC (.str "follow")) (mCons (mC (.str "keep")) mNil))))))
  (mRaise "InvalidMode")
  mSkip)
def f_check_mode (ds : List D) : Res D := runD (m_check_mode (startR N_check_mode ds))
def N_remaining : List Str := ["tasks", "task"]
def m_remaining : MS :=
  (mRet (mCallB fTuple (mCons (mLc (mSeqI (mVar 0)) (.nm 1) [1] (mTest (mIsi "str" (mVar 1))) (mVar 1)) mNil)))
def f_remaining (ds : List D) : Res D := runD (m_remaining (startR N_remaining ds))
def N_end_at : List Str := ["what", "address", "tasks", "mode", "rest"]
def m_end_at : MS :=
  (mSeq (mSet 4 (mCall 1 f_remaining (mCons (mVar 2) mNil))) (mSeq (mIfS (mTest (mOp fEq (mVar 0) (mC (.str "unknown"))))
  (mRet (mTup (mCons (mC (.str "unknown")) (mCons (mVar 1) (mCons (mVar 4) mNil)))))
  mSkip) (mSeq (mIfS (mTest (mOp fEq (mVar 0) (mC (.str "absent"))))
  (mRet (mTup (mCons (mC (.str "missing")) mNil)))
  mSkip) (mSeq (mIfS (mTest (mOp fEq (mVar 0) (mC (.str "file"))))
  (mRet (mIf (mTest (mOp fEq (mVar 4) (mTup mNil))) (mTup (mCons (mC (.str "found")) (mCons (mVar 1) mNil))) (mTup (mCons (mC (.str "file")) mNil))))
  mSkip) (mSeq (mIfS (mAndT (mTest (mOp fNe (mVar 0) (mC (.str "dir")))) (mAndT (mTest (mOp fEq (mVar 4) (mTup mNil))) (mTest (mOp fEq (mVar 3) (mC (.str "keep"))))))
  (mRet (mTup (mCons (mC (.str "found")) (mCons (mVar 1) mNil))))
  mSkip) (mRet (mC .none)))))))
def f_end_at (ds : List D) : Res D := runD (m_end_at (startR N_end_at ds))
def N_walk_steps : List Str := ["known", "here", "path", "mode", "missing", "place", "tasks", "looked", "active", "ends", "task", "address", "what", "result"]
def m_walk_steps : MS :=
  (mSeq (mSet 5 (mIf (mTest (mOp fEq (mOp fIdx (mVar 2) (mC (.int 0))) (mC (.str "/")))) (mTup mNil) (mVar 1))) (mSeq (mPar [6, 7] (mmOwn (mCallB fList (mCons (mOp fIdx (mVar 2) (mC (.int 1))) mNil)) (mmOwn (mLst mNil) mmNil))) (mSeq (mPar [8, 9] (mmOwn (mC (.dict [])) (mmOwn (mC (.dict [])) mmNil))) (mSeq (whileN (lockR 6 (mTest (mOp fNe (mVar 6) (mLst mNil))) fun _ => true)
  (mSeq (mPop0 10 6) (mIfS (mNotT (mTest (mIsi "str" (mVar 10))))
  (mPutPop 9 8 (mVar 10) (mVar 5))
  (mIfS (mTest (mOp fEq (mVar 10) (mC (.str ".."))))
  (mSet 5 (mSl fSl (mVar 5) mNo (mPart (mUn fNeg (mC (.int 1))))))
  (mIfS (mTest (mOp fNe (mVar 10) (mC (.str "."))))
  (mSeq (mSet 11 (mOp fAdd (mVar 5) (mTup (mCons (mVar 10) mNil)))) (mSeq (mAppend 7 (mVar 11)) (mSeq (mSet 12 (mCall 2 f_known_at (mCons (mVar 0) (mCons (mVar 11) mNil)))) (mSeq (mSet 12 (mIf (mTest (mOp fEq (mVar 12) (mC (.str "unknown")))) (mVar 4) (mVar 12))) (mSeq (mSet 13 (lockR 6 (lockR 8 (mIf (mTest (mOp fIn (mVar 11) (mVar 8))) (mC (.tuple [(.str "loop")])) (mCall 4 f_end_at (mCons (mVar 12) (mCons (mVar 11) (mCons (mVar 6) (mCons (mVar 3) mNil)))))) flat) flat)) (mSeq (mIfS (mTest (mOp fIsNot (mVar 13) (mC .none)))
  (fun ρ => (mRet (mTup (mCons (mVar 13) (mCons (mVar 7) mNil)))) (frzR 7 ρ))
  mSkip) (mIfS (lockR 9 (mOrT (mTest (mOp fEq (mVar 12) (mC (.str "dir")))) (mTest (mOp fIn (mVar 11) (mVar 9)))) fun _ => true)
  (mSet 5 (lockR 9 (mGet2 (mVar 9) (mVar 11) (mVar 11)) flat))
  (mSeq (mDPut 8 (mVar 11) (mVar 11)) (mSeq (mSetO 6 (lockR 6 (mOp fCat (mOp fCat (mCallB fList (mCons (mOp fIdx (mVar 12) (mC (.int 1))) mNil)) (mLst (mCons (mVar 11) mNil))) (mVar 6)) flatO)) (mSet 5 (mIf (mTest (mOp fEq (mOp fIdx (mVar 12) (mC (.int 0))) (mC (.str "/")))) (mTup mNil) (mVar 5))))))))))))
  mSkip)))) fuel) (fun ρ => (mRet (mTup (mCons (mTup (mCons (mC (.str "found")) (mCons (mVar 5) mNil))) (mCons (mVar 7) mNil)))) (frzR 7 ρ))))))
def f_walk_steps (ds : List D) : Res D := runD (m_walk_steps (startR N_walk_steps ds))
def N_check_walk : List Str := ["chart", "here", "path", "mode"]
def m_check_walk : MS :=
  (mSeq (mExpr (mCall 1 f_check_chart (mCons (mVar 0) mNil))) (mSeq (mExpr (mCall 2 f_check_directory (mCons (mVar 0) (mCons (mVar 1) mNil)))) (mSeq (mExpr (mCall 1 f_check_path (mCons (mVar 2) mNil))) (mExpr (mCall 1 f_check_mode (mCons (mVar 3) mNil))))))
def f_check_walk (ds : List D) : Res D := runD (m_check_walk (startR N_check_walk ds))
def N_result_of : List Str := ["chart", "here", "path", "mode", "result", "looked"]
def m_result_of : MS :=
  (mSeq (mAsg (.tp [4, 5]) (mCall 5 f_walk_steps (mCons (mCallB fDict (mCons (mVar 0) mNil)) (mCons (mVar 1) (mCons (mVar 2) (mCons (mVar 3) (mCons (mC (.str "unknown")) mNil))))))) (mRet (mVar 4)))
def f_result_of (ds : List D) : Res D := runD (m_result_of (startR N_result_of ds))
def N_walk : List Str := ["chart", "here", "path", "mode"]
def m_walk : MS :=
  (mSeq (mExpr (mCall 4 f_check_walk (mCons (mVar 0) (mCons (mVar 1) (mCons (mVar 2) (mCons (mVar 3) mNil)))))) (mRet (mCall 4 f_result_of (mCons (mVar 0) (mCons (mVar 1) (mCons (mVar 2) (mCons (mVar 3) mNil)))))))
def f_walk (ds : List D) : Res D := runD (m_walk (startR N_walk ds))
def N_is_link : List Str := ["what"]
def m_is_link : MS :=
  (mRet (mOp fNotIn (mVar 0) (mTup (mCons (mC (.str "dir")) (mCons (mC (.str "file")) (mCons (mC (.str "absent")) mNil))))))
def f_is_link (ds : List D) : Res D := runD (m_is_link (startR N_is_link ds))
def N_find_links : List Str := ["chart", "address", "what"]
def m_find_links : MS :=
  (mRet (mLc (mSeqI (mVar 0)) (.tp [1, 2]) [1, 2] (mTest (mCall 1 f_is_link (mCons (mVar 2) mNil))) (mVar 1)))
def f_find_links (ds : List D) : Res D := runD (m_find_links (startR N_find_links ds))
def N_links : List Str := ["chart"]
def m_links : MS :=
  (mSeq (mExpr (mCall 1 f_check_chart (mCons (mVar 0) mNil))) (mRet (mCall 1 f_find_links (mCons (mVar 0) mNil))))
def f_links (ds : List D) : Res D := runD (m_links (startR N_links ds))
def N_find_end : List Str := ["chart", "address"]
def m_find_end : MS :=
  (mRet (mCall 4 f_result_of (mCons (mVar 0) (mCons (mSl fSl (mVar 1) mNo (mPart (mUn fNeg (mC (.int 1))))) (mCons (mTup (mCons (mC (.str "")) (mCons (mSl fSl (mVar 1) (mPart (mUn fNeg (mC (.int 1)))) mNo) mNil))) (mCons (mC (.str "follow")) mNil))))))
def f_find_end (ds : List D) : Res D := runD (m_find_end (startR N_find_end ds))
def N_find_endless : List Str := ["chart", "address"]
def m_find_endless : MS :=
  (mRet (mLc (mSeqI (mCall 1 f_find_links (mCons (mVar 0) mNil))) (.nm 1) [1] (mTest (mOp fEq (mCall 2 f_find_end (mCons (mVar 0) (mCons (mVar 1) mNil))) (mC (.tuple [(.str "loop")])))) (mVar 1)))
def f_find_endless (ds : List D) : Res D := runD (m_find_endless (startR N_find_endless ds))
def N_endless : List Str := ["chart"]
def m_endless : MS :=
  (mSeq (mExpr (mCall 1 f_check_chart (mCons (mVar 0) mNil))) (mRet (mCall 1 f_find_endless (mCons (mVar 0) mNil))))
def f_endless (ds : List D) : Res D := runD (m_endless (startR N_endless ds))
def N_replace_links : List Str := ["known", "here", "path", "mode", "place", "parts", "replaced", "part", "address", "what"]
def m_replace_links : MS :=
  (mSeq (mPar [4, 5, 6] (mmDat (mIf (mTest (mOp fEq (mOp fIdx (mVar 2) (mC (.int 0))) (mC (.str "/")))) (mTup mNil) (mVar 1)) (mmDat (mOp fIdx (mVar 2) (mC (.int 1))) (mmDat (mC (.int 0)) mmNil)))) (mSeq (whileN (mTest (mOp fNe (mVar 5) (mTup mNil)))
  (mSeq (mPar [7, 5] (mmDat (mOp fIdx (mVar 5) (mC (.int 0))) (mmDat (mSl fSl (mVar 5) (mPart (mC (.int 1))) mNo) mmNil))) (mIfS (mTest (mOp fEq (mVar 7) (mC (.str ".."))))
  (mSet 4 (mSl fSl (mVar 4) mNo (mPart (mUn fNeg (mC (.int 1))))))
  (mIfS (mTest (mOp fNe (mVar 7) (mC (.str "."))))
  (mSeq (mSet 8 (mOp fAdd (mVar 4) (mTup (mCons (mVar 7) mNil)))) (mSeq (mSet 9 (mCall 2 f_known_at (mCons (mVar 0) (mCons (mVar 8) mNil)))) (mSeq (mIfS (mTest (mOp fEq (mVar 9) (mC (.str "unknown"))))
  (mRet (mTup (mCons (mC (.str "unknown")) (mCons (mVar 8) (mCons (mVar 5) mNil)))))
  mSkip) (mSeq (mIfS (mTest (mOp fEq (mVar 9) (mC (.str "absent"))))
  (mRet (mTup (mCons (mC (.str "missing")) mNil)))
  mSkip) (mSeq (mIfS (mTest (mOp fEq (mVar 9) (mC (.str "file"))))
  (mRet (mIf (mTest (mOp fEq (mVar 5) (mTup mNil))) (mTup (mCons (mC (.str "found")) (mCons (mVar 8) mNil))) (mTup (mCons (mC (.str "file")) mNil))))
  mSkip) (mIfS (mTest (mOp fEq (mVar 9) (mC (.str "dir"))))
  (mSet 4 (mVar 8))
  (mIfS (mAndT (mTest (mOp fEq (mVar 5) (mTup mNil))) (mTest (mOp fEq (mVar 3) (mC (.str "keep")))))
  (mRet (mTup (mCons (mC (.str "found")) (mCons (mVar 8) mNil))))
  (mIfS (mTest (mOp fEq (mVar 6) (mC (.int 3000))))
  (mRet (mC (.tuple [(.str "loop")])))
  (mSeq (mSet 6 (mOp fAdd (mVar 6) (mC (.int 1)))) (mPar [4, 5] (mmDat (mIf (mTest (mOp fEq (mOp fIdx (mVar 9) (mC (.int 0))) (mC (.str "/")))) (mTup mNil) (mVar 4)) (mmDat (mOp fAdd (mOp fIdx (mVar 9) (mC (.int 1))) (mVar 5)) mmNil))))))))))))
  mSkip))) fuel) (mRet (mTup (mCons (mC (.str "found")) (mCons (mVar 4) mNil))))))
def f_replace_links (ds : List D) : Res D := runD (m_replace_links (startR N_replace_links ds))
def N_naive_walk : List Str := ["chart", "here", "path", "mode"]
def m_naive_walk : MS :=
  (mSeq (mExpr (mCall 4 f_check_walk (mCons (mVar 0) (mCons (mVar 1) (mCons (mVar 2) (mCons (mVar 3) mNil)))))) (mRet (mCall 4 f_replace_links (mCons (mCallB fDict (mCons (mVar 0) mNil)) (mCons (mVar 1) (mCons (mVar 2) (mCons (mVar 3) mNil)))))))
def f_naive_walk (ds : List D) : Res D := runD (m_naive_walk (startR N_naive_walk ds))
def N_naive_endless : List Str := ["chart", "known", "found", "address"]
def m_naive_endless : MS :=
  (mSeq (mExpr (mCall 1 f_check_chart (mCons (mVar 0) mNil))) (mSeq (mPar [1, 2] (mmDat (mCallB fDict (mCons (mVar 0) mNil)) (mmOwn (mLst mNil) mmNil))) (mSeq (mFor (mSeqI (mCall 1 f_find_links (mCons (mVar 0) mNil))) (.nm 3)
  (mIfS (mTest (mOp fEq (mCall 4 f_replace_links (mCons (mVar 1) (mCons (mSl fSl (mVar 3) mNo (mPart (mUn fNeg (mC (.int 1))))) (mCons (mTup (mCons (mC (.str "")) (mCons (mSl fSl (mVar 3) (mPart (mUn fNeg (mC (.int 1)))) mNo) mNil))) (mCons (mC (.str "follow")) mNil))))) (mC (.tuple [(.str "loop")]))))
  (mAppend 2 (mVar 3))
  mSkip)) (mRetF 2))))
def f_naive_endless (ds : List D) : Res D := runD (m_naive_endless (startR N_naive_endless ds))
def N__law_drawn : List Str := ["_law_script", "_law_k", "_law_many", "_law_cell", "_law_turn", "_law_rest"]
def m__law_drawn : MS :=
  (mSeq (mSet 3 (mOp fMul (mC (.int 7)) (mVar 1))) (mSeq (mIfS (mTest (mOp fNe (mVar 0) (mLst mNil)))
  (mSeq (mSet 3 (mOp fIdx (mVar 0) (mOp fMod (mVar 1) (mCallB fLen (mCons (mVar 0) mNil))))) (mSeq (mSet 4 (mOp fDiv (mVar 1) (mCallB fLen (mCons (mVar 0) mNil)))) (mSeq (mIfS (mAndT (mTest (mOp fGe (mVar 3) (mOp fPow (mC (.int 10)) (mC (.int 18))))) (mTest (mOp fLt (mVar 4) (mC (.int 60)))))
  (mSeq (mSet 5 (mOp fDiv (mVar 3) (mOp fPow (mC (.int 10)) (mC (.int 18))))) (mSeq (whileN (mAndT (mTest (mOp fGt (mVar 5) (mC (.int 0)))) (mTest (mOp fGt (mVar 4) (mC (.int 0)))))
  (mSeq (mSet 5 (mOp fDiv (mVar 5) (mC (.int 1000000)))) (mSet 4 (mOp fSub (mVar 4) (mC (.int 1))))) fuel) (mIfS (mTest (mOp fGt (mVar 5) (mC (.int 0))))
  (mRet (mOp fMod (mOp fMod (mVar 5) (mC (.int 1000000))) (mVar 2)))
  mSkip)))
  mSkip) (mSet 3 (mOp fAdd (mVar 3) (mOp fMul (mC (.int 6553)) (mOp fDiv (mVar 1) (mCallB fLen (mCons (mVar 0) mNil)))))))))
  mSkip) (mSeq (mSet 3 (mOp fMod (mOp fAdd (mOp fMul (mOp fMod (mVar 3) (mC (.int 2147483563))) (mC (.int 69069))) (mOp fMul (mC (.int 104723)) (mOp fAdd (mVar 1) (mC (.int 1))))) (mC (.int 2147483563)))) (mSeq (mSet 3 (mOp fMod (mOp fAdd (mOp fMul (mVar 3) (mVar 3)) (mOp fDiv (mVar 3) (mC (.int 3)))) (mC (.int 2147483399)))) (mRet (mOp fMod (mOp fDiv (mOp fMod (mOp fAdd (mOp fMul (mVar 3) (mVar 3)) (mOp fDiv (mVar 3) (mC (.int 7)))) (mC (.int 2147483647))) (mC (.int 11))) (mVar 2)))))))
def f__law_drawn (ds : List D) : Res D := runD (m__law_drawn (startR N__law_drawn ds))
def N__law_path : List Str := ["_law_script", "_law_at", "_law_most", "_law_start", "_law_parts", "_law_k"]
def m__law_path : MS :=
  (mSeq (mSet 3 (mOp fIdx (mLst (mCons (mC (.str "")) (mCons (mC (.str "/")) (mCons (mC (.str "")) mNil)))) (mCall 3 f__law_drawn (mCons (mVar 0) (mCons (mVar 1) (mCons (mC (.int 3)) mNil)))))) (mSeq (mSetO 4 (mLst mNil)) (mSeq (mFor (fun ρ => ((mCons (mOp fAdd (mC (.int 1)) (mCall 3 f__law_drawn (mCons (mVar 0) (mCons (mOp fAdd (mVar 1) (mC (.int 1))) (mCons (mVar 2) mNil))))) mNil) ρ).bind asRng1) (.nm 5)
  (mAppend 4 (mOp fIdx (mLst (mCons (mC (.str "a")) (mCons (mC (.str "b")) (mCons (mC (.str "c")) (mCons (mC (.str "..")) (mCons (mC (.str "a")) (mCons (mC (.str ".")) (mCons (mC (.str "b")) (mCons (mC (.str "..")) mNil))))))))) (mCall 3 f__law_drawn (mCons (mVar 0) (mCons (mOp fAdd (mOp fAdd (mVar 1) (mC (.int 2))) (mVar 5)) (mCons (mC (.int 8)) mNil))))))) (mRet (lockR 4 (mTup (mCons (mVar 3) (mCons (mCallB fTuple (mCons (mVar 4) mNil)) mNil))) flat)))))
def f__law_path (ds : List D) : Res D := runD (m__law_path (startR N__law_path ds))
def N__law_key : List Str := ["_law_row"]
def m__law_key : MS :=
  (mRet (mOp fIdx (mVar 0) (mC (.int 0))))
def f__law_key (ds : List D) : Res D := runD (m__law_key (startR N__law_key ds))
def N__law_chart : List Str := ["_law_script", "_law_at", "_law_most", "_law_whats", "_law_rows", "_law_places_here", "_law_k", "_law_here", "_law_place", "_law_what_here"]
def m__law_chart : MS :=
  (mSeq (mPar [4, 5] (mmOwn (mC (.dict [])) (mmDat (mLst (mCons (mTup mNil) mNil)) mmNil))) (mSeq (mFor (fun ρ => ((mCons (mCall 3 f__law_drawn (mCons (mVar 0) (mCons (mVar 1) (mCons (mOp fAdd (mVar 2) (mC (.int 1))) mNil)))) mNil) ρ).bind asRng1) (.nm 6)
  (mSeq (mSet 7 (mOp fAdd (mOp fAdd (mVar 1) (mC (.int 1))) (mOp fMul (mC (.int 8)) (mVar 6)))) (mSeq (mSet 8 (mOp fAdd (mOp fIdx (mVar 5) (mCall 3 f__law_drawn (mCons (mVar 0) (mCons (mVar 7) (mCons (mCallB fLen (mCons (mVar 5) mNil)) mNil))))) (mTup (mCons (mOp fIdx (mC (.str "abc")) (mCall 3 f__law_drawn (mCons (mVar 0) (mCons (mOp fAdd (mVar 7) (mC (.int 1))) (mCons (mC (.int 3)) mNil))))) mNil)))) (mSeq (mSet 9 (mOp fIdx (mVar 3) (mCall 3 f__law_drawn (mCons (mVar 0) (mCons (mOp fAdd (mVar 7) (mC (.int 2))) (mCons (mCallB fLen (mCons (mVar 3) mNil)) mNil)))))) (mIfS (lockR 4 (mAndT (mTest (mOp fNotIn (mVar 8) (mVar 4))) (mTest (mOp fLt (mCallB fLen (mCons (mVar 8) mNil)) (mC (.int 4))))) fun _ => true)
  (mSeq (mDPut 4 (mVar 8) (mIf (mTest (mOp fEq (mVar 9) (mC (.str "link")))) (mCall 3 f__law_path (mCons (mVar 0) (mCons (mOp fAdd (mVar 7) (mC (.int 3))) (mCons (mC (.int 2)) mNil)))) (mVar 9))) (mSet 5 (mOp fCat (mVar 5) (mIf (mTest (mOp fEq (mVar 9) (mC (.str "dir")))) (mLst (mCons (mVar 8) mNil)) (mLst mNil)))))
  mSkip))))) (mRet (lckR 4 (mCallB fTuple (mCons (mSort0 (mCons (mLc (mKeys 4) (.nm 8) [8] mYes (mTup (mCons (mVar 8) (mCons (mOp dgetK (mVar 4) (mVar 8)) mNil)))) mNil)) mNil)) flat))))
def f__law_chart (ds : List D) : Res D := runD (m__law_chart (startR N__law_chart ds))
def N__law_what : List Str := ["_law_rows", "_law_place", "_law_missing", "_law_known", "_law_k", "_law_what_here"]
def m__law_what : MS :=
  (mSeq (mSet 3 (mCallB fDict (mCons (mVar 0) mNil))) (mSeq (mFor (fun ρ => ((mCons (mC (.int 1)) (mCons (mOp fAdd (mCallB fLen (mCons (mVar 1) mNil)) (mC (.int 1))) mNil)) ρ).bind asRng2) (.nm 4)
  (mSeq (mSet 5 (mGet2 (mVar 3) (mSl fSl (mVar 1) mNo (mPart (mVar 4))) (mVar 2))) (mIfS (mAndT (mTest (mOp fLt (mVar 4) (mCallB fLen (mCons (mVar 1) mNil)))) (mTest (mOp fNe (mVar 5) (mC (.str "dir")))))
  (mRet (mIf (mTest (mOp fEq (mVar 5) (mC (.str "unknown")))) (mVar 2) (mC (.str "absent"))))
  mSkip))) (mRet (mIf (mTest (mOp fEq (mVar 1) (mTup mNil))) (mC (.str "dir")) (mGet2 (mVar 3) (mVar 1) (mVar 2))))))
def f__law_what (ds : List D) : Res D := runD (m__law_what (startR N__law_what ds))
def N__law_walk : List Str := ["_law_rows", "_law_here", "_law_path_here", "_law_mode", "_law_missing", "_law_place", "_law_parts", "_law_turn", "_law_part", "_law_what_here"]
def m__law_walk : MS :=
  (mSeq (mPar [5, 6] (mmDat (mIf (mTest (mOp fEq (mOp fIdx (mVar 2) (mC (.int 0))) (mC (.str "/")))) (mTup mNil) (mVar 1)) (mmDat (mOp fIdx (mVar 2) (mC (.int 1))) mmNil))) (mSeq (mFor (fun ρ => ((mCons (mC (.int 700)) mNil) ρ).bind asRng1) (.nm 7)
  (mSeq (mIfS (mTest (mOp fEq (mVar 6) (mTup mNil)))
  (mRet (mTup (mCons (mC (.str "found")) (mCons (mVar 5) mNil))))
  mSkip) (mSeq (mPar [8, 6] (mmDat (mOp fIdx (mVar 6) (mC (.int 0))) (mmDat (mSl fSl (mVar 6) (mPart (mC (.int 1))) mNo) mmNil))) (mIfS (mTest (mOp fEq (mVar 8) (mC (.str ".."))))
  (mSet 5 (mSl fSl (mVar 5) mNo (mPart (mUn fNeg (mC (.int 1))))))
  (mIfS (mTest (mOp fNe (mVar 8) (mC (.str "."))))
  (mSeq (mSet 9 (mCall 3 f__law_what (mCons (mVar 0) (mCons (mOp fAdd (mVar 5) (mTup (mCons (mVar 8) mNil))) (mCons (mVar 4) mNil))))) (mSeq (mIfS (mTest (mOp fEq (mVar 9) (mC (.str "unknown"))))
  (mRet (mTup (mCons (mVar 9) (mCons (mOp fAdd (mVar 5) (mTup (mCons (mVar 8) mNil))) (mCons (mVar 6) mNil)))))
  mSkip) (mSeq (mIfS (mTest (mOp fEq (mVar 9) (mC (.str "absent"))))
  (mRet (mTup (mCons (mC (.str "missing")) mNil)))
  mSkip) (mSeq (mIfS (mTest (mOp fEq (mVar 9) (mC (.str "file"))))
  (mRet (mIf (mTest (mOp fEq (mVar 6) (mTup mNil))) (mTup (mCons (mC (.str "found")) (mCons (mOp fAdd (mVar 5) (mTup (mCons (mVar 8) mNil))) mNil))) (mTup (mCons (mC (.str "file")) mNil))))
  mSkip) (mIfS (mTest (mOp fEq (mVar 9) (mC (.str "dir"))))
  (mSet 5 (mOp fAdd (mVar 5) (mTup (mCons (mVar 8) mNil))))
  (mIfS (mAndT (mTest (mOp fEq (mVar 6) (mTup mNil))) (mTest (mOp fEq (mVar 3) (mC (.str "keep")))))
  (mRet (mTup (mCons (mC (.str "found")) (mCons (mOp fAdd (mVar 5) (mTup (mCons (mVar 8) mNil))) mNil))))
  (mSeq (mSet 5 (mIf (mTest (mOp fEq (mOp fIdx (mVar 9) (mC (.int 0))) (mC (.str "/")))) (mTup mNil) (mVar 5))) (mSet 6 (mOp fAdd (mOp fIdx (mVar 9) (mC (.int 1))) (mVar 6))))))))))
  mSkip))))) (mRet (mTup (mCons (mC (.str "loop")) mNil)))))
def f__law_walk (ds : List D) : Res D := runD (m__law_walk (startR N__law_walk ds))
def N__law_places : List Str := ["_law_rows", "_law_place", "_law_what_here"]
def m__law_places : MS :=
  (mRet (mOp fCat (mLst (mCons (mTup mNil) mNil)) (mLc (mSeqI (mVar 0)) (.tp [1, 2]) [1, 2] (mTest (mOp fEq (mVar 2) (mC (.str "dir")))) (mVar 1))))
def f__law_places (ds : List D) : Res D := runD (m__law_places (startR N__law_places ds))
def N__law_error : List Str := ["_law_way", "_law_values", "e", "_law_flags"]
def m__law_error : MS :=
  (mSeq (mTry 2 sub_PathError (mIfS (mTest (mOp fEq (mVar 0) (mC (.int 0))))
  (mExpr (mCall 4 f_naive_walk (mCons (mOp fIdx (mVar 1) (mC (.int 0))) (mCons (mOp fIdx (mVar 1) (mC (.int 1))) (mCons (mOp fIdx (mVar 1) (mC (.int 2))) (mCons (mOp fIdx (mVar 1) (mC (.int 3))) mNil))))))
  (mExpr (mCall 1 f_naive_endless (mCons (mOp fIdx (mVar 1) (mC (.int 0))) mNil))))
  (fun a c => (mSeq (mSet 3 (mLst (mCons (mIsE 2 a (decide (c = "InvalidChart"))) (mCons (mIsE 2 a (decide (c = "InvalidAddress"))) mNil)))) (mRet (mUn fIndexT (mOp fCat (mVar 3) (mLst (mCons (mIsE 2 a (decide (c = "InvalidPath"))) (mCons (mIsE 2 a (decide (c = "InvalidMode"))) mNil))))))))) (mRet (mC .none)))
def f__law_error (ds : List D) : Res D := runD (m__law_error (startR N__law_error ds))
def N_law : List Str := ["_law_script", "_law_rows", "_law_places_here", "_law_k", "_law_odd", "_law_bad", "_law_values", "_law_told", "_law_here", "_law_path_here", "_law_mode", "_law_due", "_law_link"]
def m_law : MS :=
  (mSeq (mPar [1, 2] (mmDat (mCall 4 f__law_chart (mCons (mVar 0) (mCons (mC (.int 10)) (mCons (mC (.int 6)) (mCons (mLst (mCons (mC (.str "link")) (mCons (mC (.str "dir")) (mCons (mC (.str "file")) (mCons (mC (.str "link")) (mCons (mC (.str "dir")) (mCons (mC (.str "absent")) mNil))))))) mNil))))) (mmDat (mLst mNil) mmNil))) (mSeq (mSet 2 (mCall 1 f__law_places (mCons (mVar 1) mNil))) (mSeq (mFor (fun ρ => ((mCons (mC (.int 3)) mNil) ρ).bind asRng1) (.nm 3)
  (mSeq (mPar [8, 9] (mmDat (mOp fIdx (mVar 2) (mCall 3 f__law_drawn (mCons (mVar 0) (mCons (mOp fAdd (mC (.int 70)) (mOp fMul (mC (.int 12)) (mVar 3))) (mCons (mCallB fLen (mCons (mVar 2) mNil)) mNil))))) (mmDat (mCall 3 f__law_path (mCons (mVar 0) (mCons (mOp fAdd (mC (.int 71)) (mOp fMul (mC (.int 12)) (mVar 3))) (mCons (mC (.int 5)) mNil)))) mmNil))) (mFor (mSeqI (mTup (mCons (mC (.str "follow")) (mCons (mC (.str "keep")) mNil)))) (.nm 10)
  (mSeq (mSet 11 (mCall 5 f__law_walk (mCons (mVar 1) (mCons (mVar 8) (mCons (mVar 9) (mCons (mVar 10) (mCons (mC (.str "unknown")) mNil))))))) (mIfS (mOrT (mTest (mOp fNe (mCall 4 f_walk (mCons (mVar 1) (mCons (mVar 8) (mCons (mVar 9) (mCons (mVar 10) mNil))))) (mVar 11))) (mTest (mOp fNe (mCall 4 f_naive_walk (mCons (mVar 1) (mCons (mVar 8) (mCons (mVar 9) (mCons (mVar 10) mNil))))) (mVar 11))))
  (mRet (mC (.bool false)))
  mSkip))))) (mSeq (mIfS (mTest (mOp fLt (mCallB fLen (mCons (mCall 1 f_links (mCons (mVar 1) mNil)) mNil)) (mC (.int 3))))
  (mSeq (mSet 11 (mLc (mSeqI (mCall 1 f_links (mCons (mVar 1) mNil))) (.nm 12) [12] (mTest (mOp fEq (mCall 5 f__law_walk (mCons (mVar 1) (mCons (mTup mNil) (mCons (mTup (mCons (mC (.str "/")) (mCons (mVar 12) mNil))) (mCons (mC (.str "follow")) (mCons (mC (.str "unknown")) mNil)))))) (mTup (mCons (mC (.str "loop")) mNil)))) (mVar 12))) (mIfS (mOrT (mTest (mOp fNe (mCall 1 f_naive_endless (mCons (mVar 1) mNil)) (mVar 11))) (mTest (mOp fNe (mCall 1 f_endless (mCons (mVar 1) mNil)) (mVar 11))))
  (mRet (mC (.bool false)))
  mSkip))
  mSkip) (mSeq (mSet 4 (mOp fIdx (mLst (mCons (mC .none) (mCons (mC (.str "a")) (mCons (mTup (mCons (mC (.str "")) (mCons (mTup mNil) mNil))) (mCons (mTup (mCons (mC (.str "")) (mCons (mLst (mCons (mC (.str "a")) mNil)) mNil))) (mCons (mTup (mCons (mC (.str "x")) (mCons (mTup (mCons (mC (.str "a")) mNil)) mNil))) (mCons (mC (.int 7)) mNil))))))) (mCall 3 f__law_drawn (mCons (mVar 0) (mCons (mC (.int 1)) (mCons (mC (.int 6)) mNil)))))) (mSeq (mSet 5 (mLst (mCons (mTup (mCons (mTup (mCons (mTup (mCons (mC (.str "a")) (mCons (mC (.str "b")) mNil))) (mCons (mC (.str "file")) mNil))) mNil)) (mCons (mOp fIdx (mLst (mCons (mTup (mCons (mC (.str "zz")) mNil)) (mCons (mC .none) (mCons (mLst (mCons (mC (.str "a")) mNil)) (mCons (mC (.str "a")) mNil))))) (mCall 3 f__law_drawn (mCons (mVar 0) (mCons (mC (.int 2)) (mCons (mC (.int 4)) mNil))))) mNil)))) (mSeq (mSet 5 (mOp fCat (mVar 5) (mLst (mCons (mVar 4) (mCons (mOp fIdx (mLst (mCons (mC .none) (mCons (mC (.str "")) (mCons (mC (.str "both")) (mCons (mC (.int 0)) mNil))))) (mCall 3 f__law_drawn (mCons (mVar 0) (mCons (mC (.int 3)) (mCons (mC (.int 4)) mNil))))) mNil))))) (mSeq (mPar [6, 7] (mmDat (mLst (mCons (mVar 1) (mCons (mTup mNil) (mCons (mTup (mCons (mC (.str "/")) (mCons (mTup (mCons (mC (.str "a")) mNil)) mNil))) (mCons (mC (.str "keep")) mNil))))) (mmOwn (mLst mNil) mmNil))) (mSeq (mFor (fun ρ => ((mCons (mC (.int 4)) mNil) ρ).bind asRng1) (.nm 3)
  (mAppend 7 (mCall 2 f__law_error (mCons (mC (.int 0)) (mCons (mOp fCat (mSl fSlL (mVar 6) mNo (mPart (mVar 3))) (mSl fSlL (mVar 5) (mPart (mVar 3)) mNo)) mNil))))) (mRet (lockR 7 (mAnd (mOp fEq (mVar 7) (mLst (mCons (mC (.int 0)) (mCons (mC (.int 1)) (mCons (mC (.int 2)) (mCons (mC (.int 3)) mNil)))))) (mAnd (mOp fEq (mCall 2 f__law_error (mCons (mC (.int 1)) (mCons (mVar 5) mNil))) (mC (.int 0))) (mOp fIs (mCall 2 f__law_error (mCons (mC (.int 0)) (mCons (mVar 6) mNil))) (mC .none)))) flat)))))))))))
def f_law (ds : List D) : Res D := runD (m_law (startR N_law ds))
end
end L67
end

section
set_option Elab.async false
set_option linter.all false
set_option maxRecDepth 100000
namespace L67
open PySem PySem.Spec PyProof.Rows L2 De
def top (i : Nat) : Stmt := PySem.Challenge.pw_everytree_k67_whole_naive.main.body.getD i (.Pass ⟨0, 0, 0, 0⟩)
structure Facts (K : PySem.W.Frag) (mg : Str → Option Value) : Prop where
  c_ABSENT : GlobD K mg "ABSENT" (.str "absent")
  c_DIRECTORY : GlobD K mg "DIRECTORY" (.str "dir")
  c_FILE : GlobD K mg "FILE" (.str "file")
  c_FOLLOW : GlobD K mg "FOLLOW" (.str "follow")
  c_FOUND : GlobD K mg "FOUND" (.str "found")
  c_KEEP : GlobD K mg "KEEP" (.str "keep")
  c_LETTERS : GlobD K mg "LETTERS" (.str "abcdefghijklmnopqrstuvwxyz")
  c_LOOP : GlobD K mg "LOOP" (.tuple [(.str "loop")])
  c_MAX_DEPTH : GlobD K mg "MAX_DEPTH" (.int 30)
  c_MAX_NAME : GlobD K mg "MAX_NAME" (.int 3)
  c_MAX_PARTS : GlobD K mg "MAX_PARTS" (.int 12)
  c_MAX_REPLACED : GlobD K mg "MAX_REPLACED" (.int 3000)
  c_MAX_ROWS : GlobD K mg "MAX_ROWS" (.int 60)
  c_ROOT : GlobD K mg "ROOT" (.str "/")
  c_SELF : GlobD K mg "SELF" (.str ".")
  c_UNKNOWN : GlobD K mg "UNKNOWN" (.str "unknown")
  c_UP : GlobD K mg "UP" (.str "..")
  x_InvalidAddress : ExF K mg "InvalidAddress" (He.ga K "InvalidAddress")
  x_InvalidChart : ExF K mg "InvalidChart" (He.ga K "InvalidChart")
  x_InvalidMode : ExF K mg "InvalidMode" (He.ga K "InvalidMode")
  x_InvalidPath : ExF K mg "InvalidPath" (He.ga K "InvalidPath")
  x_PathError : ExF K mg "PathError" (He.ga K "PathError")
  n_all : mg "all" = none
  n_dict : mg "dict" = none
  n_isinstance : mg "isinstance" = none
  n_len : mg "len" = none
  n_list : mg "list" = none
  n_range : mg "range" = none
  n_sorted : mg "sorted" = none
  n_str : mg "str" = none
  n_tuple : mg "tuple" = none
  n_zip : mg "zip" = none
  m_PathError_InvalidPath : PySem.W.exmOne K (.ref (He.ga K "InvalidPath")) (.ref (He.ga K "PathError")) = some true
  m_PathError_InvalidChart : PySem.W.exmOne K (.ref (He.ga K "InvalidChart")) (.ref (He.ga K "PathError")) = some true
  m_PathError_InvalidAddress : PySem.W.exmOne K (.ref (He.ga K "InvalidAddress")) (.ref (He.ga K "PathError")) = some true
  m_PathError_InvalidMode : PySem.W.exmOne K (.ref (He.ga K "InvalidMode")) (.ref (He.ga K "PathError")) = some true
  k_PathError : ∀ c ∈ es, PySem.W.kitOne K (.ref (He.ga K c)) (.ref (He.ga K c)) = PySem.W.kitOne K (.ref (He.ga K c)) (.ref (He.ga K c)) ∧ ExcC K (He.ga K c) ∧ ∀ d ∈ es, PySem.W.kitOne K (.ref (He.ga K c)) (.ref (He.ga K d)) = some (decide (c = d))
section
variable {P : Program} {w : World} {K : PySem.W.Frag} {mg : Str → Option Value} {base : Heap} {Γ : Tbs}
theorem sub_ok_PathError (g : Facts K mg) : ∀ c b, sub_PathError c = some b → ∃ C, mg c = some (.ref C) ∧ PySem.W.exmOne K (.ref C) (.ref (He.ga K "PathError")) = some b := by
  intro c b h
  unfold sub_PathError at h
  by_cases e_InvalidPath : c = "InvalidPath"
  · subst e_InvalidPath; rw [if_pos rfl] at h; cases h; exact ⟨_, g.x_InvalidPath.g, g.m_PathError_InvalidPath⟩
  rw [if_neg e_InvalidPath] at h
  by_cases e_InvalidChart : c = "InvalidChart"
  · subst e_InvalidChart; rw [if_pos rfl] at h; cases h; exact ⟨_, g.x_InvalidChart.g, g.m_PathError_InvalidChart⟩
  rw [if_neg e_InvalidChart] at h
  by_cases e_InvalidAddress : c = "InvalidAddress"
  · subst e_InvalidAddress; rw [if_pos rfl] at h; cases h; exact ⟨_, g.x_InvalidAddress.g, g.m_PathError_InvalidAddress⟩
  rw [if_neg e_InvalidAddress] at h
  by_cases e_InvalidMode : c = "InvalidMode"
  · subst e_InvalidMode; rw [if_pos rfl] at h; cases h; exact ⟨_, g.x_InvalidMode.g, g.m_PathError_InvalidMode⟩
  rw [if_neg e_InvalidMode] at h
  cases h
theorem ex_of_PathError (g : Facts K mg) : ∀ c C, sub_PathError c = some true → mg c = some (.ref C) → ExcC K C ∧ ∀ d ∈ es, PySem.W.kitOne K (.ref C) (.ref (He.ga K d)) = some (decide (c = d)) := by
  intro c C h hm
  unfold sub_PathError at h
  by_cases e_InvalidPath : c = "InvalidPath"
  · subst e_InvalidPath; rw [g.x_InvalidPath.g] at hm; cases hm; exact (g.k_PathError _ (by decide)).2
  rw [if_neg e_InvalidPath] at h
  by_cases e_InvalidChart : c = "InvalidChart"
  · subst e_InvalidChart; rw [g.x_InvalidChart.g] at hm; cases hm; exact (g.k_PathError _ (by decide)).2
  rw [if_neg e_InvalidChart] at h
  by_cases e_InvalidAddress : c = "InvalidAddress"
  · subst e_InvalidAddress; rw [g.x_InvalidAddress.g] at hm; cases hm; exact (g.k_PathError _ (by decide)).2
  rw [if_neg e_InvalidAddress] at h
  by_cases e_InvalidMode : c = "InvalidMode"
  · subst e_InvalidMode; rw [g.x_InvalidMode.g] at hm; cases hm; exact (g.k_PathError _ (by decide)).2
  rw [if_neg e_InvalidMode] at h
  cases h
abbrev s_is_name : Stmt := top 13
theorem S_is_name : FnScope N_is_name ["value"] (defScope s_is_name) := ⟨rfl, rfl, rfl, by decide +kernel, rfl, by decide +kernel, by decide +kernel⟩
theorem d_is_name (g : Facts K mg)  {f : Addr} {fd : FuncData} (F : FunD K "is_name" "is_name" (defArgs s_is_name) (defBody s_is_name) (defScope s_is_name) [] [] f fd) (hx : mg "is_name" = some (.ref f)) : FnD Γ P w K mg base 1 "is_name" 1 f_is_name := by
  refine fnD_ofD (ps := ["value"]) (m := m_is_name) F hx S_is_name (fun _ _ _ _ _ _ us hl => match us, hl with | [_], _ => rfl) fun cdv A outer s H E hr => ?_
  exact (dss_one (ds_ret (de_and (xisi "str" g.n_isinstance g.n_str (xv 0)) (de_and (de_chain op_fLe op_fLe de_int (xB call_fLen g.n_len (da_cons (xv 0) da_nil)) (xg g.c_MAX_NAME)) (de_one (xB (call_fAll rfl) g.n_all (da_cons (de_of_do (do_lc (own := [("sign", 1)]) rfl S_is_name.nd (di_str (xv 0)) (by show blkC N_is_name (defScope s_is_name) _ _ = true; decide +kernel) (by decide) (fun _ _ _ _ _ => (dg_name (i := 1) S_is_name.nd rfl (by first | exact Or.inl rfl | exact Or.inr rfl))) (fun _ _ _ _ _ => dts_nil) (fun _ _ _ _ _ => (xcmp (op_fIn (De.Room.u66 hr)) (xv 1) (xg g.c_LETTERS))))) da_nil)))))))
abbrev s_is_part : Stmt := top 14
theorem S_is_part : FnScope N_is_part ["value"] (defScope s_is_part) := ⟨rfl, rfl, rfl, by decide +kernel, rfl, by decide +kernel, by decide +kernel⟩
theorem d_is_part (g : Facts K mg) (c_is_name : FnD Γ P w K mg base 1 "is_name" 1 f_is_name) {f : Addr} {fd : FuncData} (F : FunD K "is_part" "is_part" (defArgs s_is_part) (defBody s_is_part) (defScope s_is_part) [] [] f fd) (hx : mg "is_part" = some (.ref f)) : FnD Γ P w K mg base 2 "is_part" 1 f_is_part := by
  refine fnD_ofD (ps := ["value"]) (m := m_is_part) F hx S_is_part (fun _ _ _ _ _ _ us hl => match us, hl with | [_], _ => rfl) fun cdv A outer s H E hr => ?_
  exact (dss_one (ds_ret (de_or (xcall c_is_name hr (da_cons (xv 0) da_nil)) (de_one (de_and (xisi "str" g.n_isinstance g.n_str (xv 0)) (de_one (xcmp (op_fIn (De.Room.u66 hr)) (xv 0) (de_tup (da_cons (xg g.c_SELF) (da_cons (xg g.c_UP) da_nil))))))))))
abbrev s_is_path : Stmt := top 15
theorem S_is_path : FnScope N_is_path ["candidate"] (defScope s_is_path) := ⟨rfl, rfl, rfl, by decide +kernel, rfl, by decide +kernel, by decide +kernel⟩
theorem d_is_path (g : Facts K mg) (c_is_part : FnD Γ P w K mg base 2 "is_part" 1 f_is_part) {f : Addr} {fd : FuncData} (F : FunD K "is_path" "is_path" (defArgs s_is_path) (defBody s_is_path) (defScope s_is_path) [] [] f fd) (hx : mg "is_path" = some (.ref f)) : FnD Γ P w K mg base 3 "is_path" 1 f_is_path := by
  refine fnD_ofD (ps := ["candidate"]) (m := m_is_path) F hx S_is_path (fun _ _ _ _ _ _ us hl => match us, hl with | [_], _ => rfl) fun cdv A outer s H E hr => ?_
  exact (dss_cons (ds_if (DW.dt (dw_or (dt_not (dt_val (xisi "tuple" g.n_isinstance g.n_tuple (xv 0)))) (dw_or (tcmp (op_fNe (De.Room.u66 hr)) (xB call_fLen g.n_len (da_cons (xv 0) da_nil)) de_int) (dw_or1 (dt_not (dt_val (xisi "str" g.n_isinstance g.n_str (xix ix_fIdx (xv 0) de_int))))))))
  (dss_one (ds_ret de_bl))
  dss_nil)
  (dss_cons (ds_asg (dg_tup rfl (dgs_cons (i := 1) S_is_path.nd rfl (by first | exact Or.inl rfl | exact Or.inr rfl) (dgs_cons (i := 2) S_is_path.nd rfl (by first | exact Or.inl rfl | exact Or.inr rfl) dgs_nil))) (xv 0))
  (dss_cons (ds_if (DW.dt (dw_or (tcmp (op_fNotIn (De.Room.u66 hr)) (xv 1) (de_tup (da_cons (xg g.c_ROOT) (da_cons de_str da_nil)))) (dw_or (dt_not (dt_val (xisi "tuple" g.n_isinstance g.n_tuple (xv 2)))) (dw_or1 (dt_not (dt_val (xB (call_fAll rfl) g.n_all (da_cons (de_of_do (do_lc (own := [("part", 3)]) rfl S_is_path.nd (di_seq (xv 2)) (by show blkC N_is_path (defScope s_is_path) _ _ = true; decide +kernel) (by decide) (fun _ _ _ _ _ => (dg_name (i := 3) S_is_path.nd rfl (by first | exact Or.inl rfl | exact Or.inr rfl))) (fun _ _ _ _ _ => dts_nil) (fun _ _ _ _ _ => (xcall c_is_part hr (da_cons (xv 3) da_nil))))) da_nil))))))))
  (dss_one (ds_ret de_bl))
  dss_nil)
  (dss_one (ds_ret (de_and (xcmp op_fLe (xB call_fLen g.n_len (da_cons (xv 2) da_nil)) (xg g.c_MAX_PARTS)) (de_one (de_or (xcmp (op_fEq (De.Room.u66 hr)) (xv 1) (xg g.c_ROOT)) (de_one (xcmp (op_fNe (De.Room.u66 hr)) (xv 2) (de_tup da_nil)))))))))))
abbrev s_check_path : Stmt := top 16
theorem S_check_path : FnScope N_check_path ["value"] (defScope s_check_path) := ⟨rfl, rfl, rfl, by decide +kernel, rfl, by decide +kernel, by decide +kernel⟩
theorem d_check_path (g : Facts K mg) (c_is_path : FnD Γ P w K mg base 3 "is_path" 1 f_is_path) {f : Addr} {fd : FuncData} (F : FunD K "check_path" "check_path" (defArgs s_check_path) (defBody s_check_path) (defScope s_check_path) [] [] f fd) (hx : mg "check_path" = some (.ref f)) : FnD Γ P w K mg base 4 "check_path" 1 f_check_path := by
  refine fnD_ofD (ps := ["value"]) (m := m_check_path) F hx S_check_path (fun _ _ _ _ _ _ us hl => match us, hl with | [_], _ => rfl) fun cdv A outer s H E hr => ?_
  exact (dss_one (ds_if (dt_not (dt_val (xcall c_is_path hr (da_cons (xv 0) da_nil))))
  (dss_one (ds_raise rfl ⟨_, g.x_InvalidPath⟩))
  dss_nil))
abbrev s_is_address : Stmt := top 24
theorem S_is_address : FnScope N_is_address ["value"] (defScope s_is_address) := ⟨rfl, rfl, rfl, by decide +kernel, rfl, by decide +kernel, by decide +kernel⟩
theorem d_is_address (g : Facts K mg) (c_is_name : FnD Γ P w K mg base 1 "is_name" 1 f_is_name) {f : Addr} {fd : FuncData} (F : FunD K "is_address" "is_address" (defArgs s_is_address) (defBody s_is_address) (defScope s_is_address) [] [] f fd) (hx : mg "is_address" = some (.ref f)) : FnD Γ P w K mg base 2 "is_address" 1 f_is_address := by
  refine fnD_ofD (ps := ["value"]) (m := m_is_address) F hx S_is_address (fun _ _ _ _ _ _ us hl => match us, hl with | [_], _ => rfl) fun cdv A outer s H E hr => ?_
  exact (dss_one (ds_ret (de_and (xisi "tuple" g.n_isinstance g.n_tuple (xv 0)) (de_and (xcmp op_fLe (xB call_fLen g.n_len (da_cons (xv 0) da_nil)) (xg g.c_MAX_DEPTH)) (de_one (xB (call_fAll rfl) g.n_all (da_cons (de_of_do (do_lc (own := [("name", 1)]) rfl S_is_address.nd (di_seq (xv 0)) (by show blkC N_is_address (defScope s_is_address) _ _ = true; decide +kernel) (by decide) (fun _ _ _ _ _ => (dg_name (i := 1) S_is_address.nd rfl (by first | exact Or.inl rfl | exact Or.inr rfl))) (fun _ _ _ _ _ => dts_nil) (fun _ _ _ _ _ => (xcall c_is_name hr (da_cons (xv 1) da_nil))))) da_nil)))))))
abbrev s_is_what : Stmt := top 25
theorem S_is_what : FnScope N_is_what ["value"] (defScope s_is_what) := ⟨rfl, rfl, rfl, by decide +kernel, rfl, by decide +kernel, by decide +kernel⟩
theorem d_is_what (g : Facts K mg) (c_is_path : FnD Γ P w K mg base 3 "is_path" 1 f_is_path) {f : Addr} {fd : FuncData} (F : FunD K "is_what" "is_what" (defArgs s_is_what) (defBody s_is_what) (defScope s_is_what) [] [] f fd) (hx : mg "is_what" = some (.ref f)) : FnD Γ P w K mg base 4 "is_what" 1 f_is_what := by
  refine fnD_ofD (ps := ["value"]) (m := m_is_what) F hx S_is_what (fun _ _ _ _ _ _ us hl => match us, hl with | [_], _ => rfl) fun cdv A outer s H E hr => ?_
  exact (dss_one (ds_ret (de_or (xcall c_is_path hr (da_cons (xv 0) da_nil)) (de_one (de_and (xisi "str" g.n_isinstance g.n_str (xv 0)) (de_one (xcmp (op_fIn (De.Room.u66 hr)) (xv 0) (de_tup (da_cons (xg g.c_DIRECTORY) (da_cons (xg g.c_FILE) (da_cons (xg g.c_ABSENT) da_nil)))))))))))
abbrev s_is_row : Stmt := top 26
theorem S_is_row : FnScope N_is_row ["value"] (defScope s_is_row) := ⟨rfl, rfl, rfl, by decide +kernel, rfl, by decide +kernel, by decide +kernel⟩
theorem d_is_row (g : Facts K mg) (c_is_address : FnD Γ P w K mg base 2 "is_address" 1 f_is_address) (c_is_what : FnD Γ P w K mg base 4 "is_what" 1 f_is_what) {f : Addr} {fd : FuncData} (F : FunD K "is_row" "is_row" (defArgs s_is_row) (defBody s_is_row) (defScope s_is_row) [] [] f fd) (hx : mg "is_row" = some (.ref f)) : FnD Γ P w K mg base 5 "is_row" 1 f_is_row := by
  refine fnD_ofD (ps := ["value"]) (m := m_is_row) F hx S_is_row (fun _ _ _ _ _ _ us hl => match us, hl with | [_], _ => rfl) fun cdv A outer s H E hr => ?_
  exact (dss_cons (ds_if (DW.dt (dw_or (dt_not (dt_val (xisi "tuple" g.n_isinstance g.n_tuple (xv 0)))) (dw_or (tcmp (op_fNe (De.Room.u66 hr)) (xB call_fLen g.n_len (da_cons (xv 0) da_nil)) de_int) (dw_or1 (dt_not (dt_val (xcall c_is_address hr (da_cons (xix ix_fIdx (xv 0) de_int) da_nil))))))))
  (dss_one (ds_ret de_bl))
  dss_nil)
  (dss_one (ds_ret (de_and (xcall c_is_what hr (da_cons (xix ix_fIdx (xv 0) de_int) da_nil)) (de_and (xcmp (op_fNe (De.Room.u66 hr)) (xix ix_fIdx (xv 0) de_int) (de_tup da_nil)) (de_one (de_or (xcmp (op_fNe (De.Room.u66 hr)) (xix ix_fIdx (xv 0) de_int) (xg g.c_DIRECTORY)) (de_one (xcmp (op_fLt (De.Room.u66 hr)) (xB call_fLen g.n_len (da_cons (xix ix_fIdx (xv 0) de_int) da_nil)) (xg g.c_MAX_DEPTH))))))))))
abbrev s_is_chart : Stmt := top 27
theorem S_is_chart : FnScope N_is_chart ["candidate"] (defScope s_is_chart) := ⟨rfl, rfl, rfl, by decide +kernel, rfl, by decide +kernel, by decide +kernel⟩
theorem d_is_chart (g : Facts K mg) (c_is_row : FnD Γ P w K mg base 5 "is_row" 1 f_is_row) {f : Addr} {fd : FuncData} (F : FunD K "is_chart" "is_chart" (defArgs s_is_chart) (defBody s_is_chart) (defScope s_is_chart) [] [] f fd) (hx : mg "is_chart" = some (.ref f)) : FnD Γ P w K mg base 6 "is_chart" 1 f_is_chart := by
  refine fnD_ofD (ps := ["candidate"]) (m := m_is_chart) F hx S_is_chart (fun _ _ _ _ _ _ us hl => match us, hl with | [_], _ => rfl) fun cdv A outer s H E hr => ?_
  exact (dss_cons (ds_if (DW.dt (dw_or (dt_not (dt_val (xisi "tuple" g.n_isinstance g.n_tuple (xv 0)))) (dw_or (tcmp op_fGt (xB call_fLen g.n_len (da_cons (xv 0) da_nil)) (xg g.c_MAX_ROWS)) (dw_or1 (dt_not (dt_val (xB (call_fAll rfl) g.n_all (da_cons (de_of_do (do_lc (own := [("row", 2)]) rfl S_is_chart.nd (di_seq (xv 0)) (by show blkC N_is_chart (defScope s_is_chart) _ _ = true; decide +kernel) (by decide) (fun _ _ _ _ _ => (dg_name (i := 2) S_is_chart.nd rfl (by first | exact Or.inl rfl | exact Or.inr rfl))) (fun _ _ _ _ _ => dts_nil) (fun _ _ _ _ _ => (xcall c_is_row hr (da_cons (xv 2) da_nil))))) da_nil))))))))
  (dss_one (ds_ret de_bl))
  dss_nil)
  (dss_cons (ds_if (dt_not (dt_val (xB (call_fAll rfl) g.n_all (da_cons (de_of_do (do_lc (own := [("one", 3), ("other", 4)]) rfl S_is_chart.nd (di_zip rfl g.n_zip (da_cons (xv 0) (da_cons (de_sl sl_fSl (xv 0) (dp_some de_int) dp_none) da_nil))) (by show blkC N_is_chart (defScope s_is_chart) _ _ = true; decide +kernel) (by decide) (fun _ _ _ _ _ => (dg_tup rfl (dgs_cons (i := 3) S_is_chart.nd rfl (by first | exact Or.inl rfl | exact Or.inr rfl) (dgs_cons (i := 4) S_is_chart.nd rfl (by first | exact Or.inl rfl | exact Or.inr rfl) dgs_nil)))) (fun _ _ _ _ _ => dts_nil) (fun _ _ _ _ _ => (xcmp (op_fLt (De.Room.u66 hr)) (xix ix_fIdx (xv 3) de_int) (xix ix_fIdx (xv 4) de_int))))) da_nil))))
  (dss_one (ds_ret de_bl))
  dss_nil)
  (dss_cons (ds_set (i := 1) S_is_chart.nd rfl (by first | exact Or.inl rfl | exact Or.inr rfl) (de_of_do (oT (call_fDict rfl (De.Room.u66 hr)) g.n_dict (da_cons (xv 0) da_nil))))
  (dss_one (ds_ret (xB (call_fAll rfl) g.n_all (da_cons (de_of_do (do_lc (own := [("row", 2)]) rfl S_is_chart.nd (di_seq (xv 0)) (by show blkC N_is_chart (defScope s_is_chart) _ _ = true; decide +kernel) (by decide) (fun _ _ _ _ _ => (dg_name (i := 2) S_is_chart.nd rfl (by first | exact Or.inl rfl | exact Or.inr rfl))) (fun _ _ _ _ _ => dts_nil) (fun _ _ _ _ _ => (de_or (xcmp (op_fEq (De.Room.u66 hr)) (xB call_fLen g.n_len (da_cons (xix ix_fIdx (xv 2) de_int) da_nil)) de_int) (de_one (xcmp (op_fEq (De.Room.u66 hr)) (xget1 (De.Room.u66 hr) (xv 1) (de_sl sl_fSl (xix ix_fIdx (xv 2) de_int) dp_none (dp_some (de_neg de_int)))) (xg g.c_DIRECTORY))))))) da_nil)))))))
abbrev s_check_chart : Stmt := top 28
theorem S_check_chart : FnScope N_check_chart ["value"] (defScope s_check_chart) := ⟨rfl, rfl, rfl, by decide +kernel, rfl, by decide +kernel, by decide +kernel⟩
theorem d_check_chart (g : Facts K mg) (c_is_chart : FnD Γ P w K mg base 6 "is_chart" 1 f_is_chart) {f : Addr} {fd : FuncData} (F : FunD K "check_chart" "check_chart" (defArgs s_check_chart) (defBody s_check_chart) (defScope s_check_chart) [] [] f fd) (hx : mg "check_chart" = some (.ref f)) : FnD Γ P w K mg base 7 "check_chart" 1 f_check_chart := by
  refine fnD_ofD (ps := ["value"]) (m := m_check_chart) F hx S_check_chart (fun _ _ _ _ _ _ us hl => match us, hl with | [_], _ => rfl) fun cdv A outer s H E hr => ?_
  exact (dss_one (ds_if (dt_not (dt_val (xcall c_is_chart hr (da_cons (xv 0) da_nil))))
  (dss_one (ds_raise rfl ⟨_, g.x_InvalidChart⟩))
  dss_nil))
abbrev s_known_at : Stmt := top 29
theorem S_known_at : FnScope N_known_at ["known", "address"] (defScope s_known_at) := ⟨rfl, rfl, rfl, by decide +kernel, rfl, by decide +kernel, by decide +kernel⟩
theorem d_known_at (g : Facts K mg)  {f : Addr} {fd : FuncData} (F : FunD K "known_at" "known_at" (defArgs s_known_at) (defBody s_known_at) (defScope s_known_at) [] [] f fd) (hx : mg "known_at" = some (.ref f)) : FnD Γ P w K mg base 1 "known_at" 2 f_known_at := by
  refine fnD_ofD (ps := ["known", "address"]) (m := m_known_at) F hx S_known_at (fun _ _ _ _ _ _ us hl => match us, hl with | [_, _], _ => rfl) fun cdv A outer s H E hr => ?_
  exact (dss_cons (ds_for (passes_of rfl) rfl (di_range2 rfl g.n_range (da_cons de_int (da_cons (xB call_fLen g.n_len (da_cons (xv 1) da_nil)) da_nil))) (dg_name (i := 2) S_known_at.nd rfl (by first | exact Or.inl rfl | exact Or.inr rfl))
  (dss_cons (ds_set (i := 3) S_known_at.nd rfl (by first | exact Or.inl rfl | exact Or.inr rfl) (xget2 (De.Room.u66 hr) (xv 0) (de_sl sl_fSl (xv 1) dp_none (dp_some (xv 2))) (xg g.c_UNKNOWN)))
  (dss_one (ds_if (tcmp (op_fNe (De.Room.u66 hr)) (xv 3) (xg g.c_DIRECTORY))
  (dss_one (ds_ret (de_if (tcmp (op_fEq (De.Room.u66 hr)) (xv 3) (xg g.c_UNKNOWN)) (xg g.c_UNKNOWN) (xg g.c_ABSENT))))
  dss_nil))))
  (dss_one (ds_ret (de_if (tcmp (op_fNe (De.Room.u66 hr)) (xv 1) (de_tup da_nil)) (xget2 (De.Room.u66 hr) (xv 0) (xv 1) (xg g.c_UNKNOWN)) (xg g.c_DIRECTORY)))))
abbrev s_is_directory : Stmt := top 30
theorem S_is_directory : FnScope N_is_directory ["chart", "value"] (defScope s_is_directory) := ⟨rfl, rfl, rfl, by decide +kernel, rfl, by decide +kernel, by decide +kernel⟩
theorem d_is_directory (g : Facts K mg) (c_is_address : FnD Γ P w K mg base 2 "is_address" 1 f_is_address) (c_known_at : FnD Γ P w K mg base 1 "known_at" 2 f_known_at) {f : Addr} {fd : FuncData} (F : FunD K "is_directory" "is_directory" (defArgs s_is_directory) (defBody s_is_directory) (defScope s_is_directory) [] [] f fd) (hx : mg "is_directory" = some (.ref f)) : FnD Γ P w K mg base 3 "is_directory" 2 f_is_directory := by
  refine fnD_ofD (ps := ["chart", "value"]) (m := m_is_directory) F hx S_is_directory (fun _ _ _ _ _ _ us hl => match us, hl with | [_, _], _ => rfl) fun cdv A outer s H E hr => ?_
  exact (dss_one (ds_ret (de_and (xcall c_is_address hr (da_cons (xv 1) da_nil)) (de_one (xcmp (op_fEq (De.Room.u66 hr)) (xcall c_known_at hr (da_cons (de_of_do (oT (call_fDict rfl (De.Room.u66 hr)) g.n_dict (da_cons (xv 0) da_nil))) (da_cons (xv 1) da_nil))) (xg g.c_DIRECTORY))))))
abbrev s_check_directory : Stmt := top 31
theorem S_check_directory : FnScope N_check_directory ["chart", "value"] (defScope s_check_directory) := ⟨rfl, rfl, rfl, by decide +kernel, rfl, by decide +kernel, by decide +kernel⟩
theorem d_check_directory (g : Facts K mg) (c_is_directory : FnD Γ P w K mg base 3 "is_directory" 2 f_is_directory) {f : Addr} {fd : FuncData} (F : FunD K "check_directory" "check_directory" (defArgs s_check_directory) (defBody s_check_directory) (defScope s_check_directory) [] [] f fd) (hx : mg "check_directory" = some (.ref f)) : FnD Γ P w K mg base 4 "check_directory" 2 f_check_directory := by
  refine fnD_ofD (ps := ["chart", "value"]) (m := m_check_directory) F hx S_check_directory (fun _ _ _ _ _ _ us hl => match us, hl with | [_, _], _ => rfl) fun cdv A outer s H E hr => ?_
  exact (dss_one (ds_if (dt_not (dt_val (xcall c_is_directory hr (da_cons (xv 0) (da_cons (xv 1) da_nil)))))
  (dss_one (ds_raise rfl ⟨_, g.x_InvalidAddress⟩))
  dss_nil))
abbrev s_check_mode : Stmt := top 37
theorem S_check_mode : FnScope N_check_mode ["value"] (defScope s_check_mode) := ⟨rfl, rfl, rfl, by decide +kernel, rfl, by decide +kernel, by decide +kernel⟩
theorem d_check_mode (g : Facts K mg)  {f : Addr} {fd : FuncData} (F : FunD K "check_mode" "check_mode" (defArgs s_check_mode) (defBody s_check_mode) (defScope s_check_mode) [] [] f fd) (hx : mg "check_mode" = some (.ref f)) : FnD Γ P w K mg base 1 "check_mode" 1 f_check_mode := by
  refine fnD_ofD (ps := ["value"]) (m := m_check_mode) F hx S_check_mode (fun _ _ _ _ _ _ us hl => match us, hl with | [_], _ => rfl) fun cdv A outer s H E hr => ?_
  exact (dss_one (ds_if (DW.dt (dw_or (dt_not (dt_val (xisi "str" g.n_isinstance g.n_str (xv 0)))) (dw_or1 (tcmp (op_fNotIn (De.Room.u66 hr)) (xv 0) (de_tup (da_cons (xg g.c_FOLLOW) (da_cons (xg g.c_KEEP) da_nil)))))))
  (dss_one (ds_raise rfl ⟨_, g.x_InvalidMode⟩))
  dss_nil))
abbrev s_remaining : Stmt := top 38
theorem S_remaining : FnScope N_remaining ["tasks"] (defScope s_remaining) := ⟨rfl, rfl, rfl, by decide +kernel, rfl, by decide +kernel, by decide +kernel⟩
theorem d_remaining (g : Facts K mg)  {f : Addr} {fd : FuncData} (F : FunD K "remaining" "remaining" (defArgs s_remaining) (defBody s_remaining) (defScope s_remaining) [] [] f fd) (hx : mg "remaining" = some (.ref f)) : FnD Γ P w K mg base 1 "remaining" 1 f_remaining := by
  refine fnD_ofD (ps := ["tasks"]) (m := m_remaining) F hx S_remaining (fun _ _ _ _ _ _ us hl => match us, hl with | [_], _ => rfl) fun cdv A outer s H E hr => ?_
  exact (dss_one (ds_ret (xT call_fTuple g.n_tuple (da_cons (de_of_do (do_lc (own := [("task", 1)]) rfl S_remaining.nd (di_seq (xv 0)) (by show blkC N_remaining (defScope s_remaining) _ _ = true; decide +kernel) (by decide) (fun _ _ _ _ _ => (dg_name (i := 1) S_remaining.nd rfl (by first | exact Or.inl rfl | exact Or.inr rfl))) (fun _ _ _ _ _ => (dts_one (dt_val (xisi "str" g.n_isinstance g.n_str (xv 1))))) (fun _ _ _ _ _ => (xv 1)))) da_nil))))
abbrev s_end_at : Stmt := top 39
theorem S_end_at : FnScope N_end_at ["what", "address", "tasks", "mode"] (defScope s_end_at) := ⟨rfl, rfl, rfl, by decide +kernel, rfl, by decide +kernel, by decide +kernel⟩
theorem d_end_at (g : Facts K mg) (c_remaining : FnD Γ P w K mg base 1 "remaining" 1 f_remaining) {f : Addr} {fd : FuncData} (F : FunD K "end_at" "end_at" (defArgs s_end_at) (defBody s_end_at) (defScope s_end_at) [] [] f fd) (hx : mg "end_at" = some (.ref f)) : FnD Γ P w K mg base 2 "end_at" 4 f_end_at := by
  refine fnD_ofD (ps := ["what", "address", "tasks", "mode"]) (m := m_end_at) F hx S_end_at (fun _ _ _ _ _ _ us hl => match us, hl with | [_, _, _, _], _ => rfl) fun cdv A outer s H E hr => ?_
  exact (dss_cons (ds_set (i := 4) S_end_at.nd rfl (by first | exact Or.inl rfl | exact Or.inr rfl) (xcall c_remaining hr (da_cons (xv 2) da_nil)))
  (dss_cons (ds_if (tcmp (op_fEq (De.Room.u66 hr)) (xv 0) (xg g.c_UNKNOWN))
  (dss_one (ds_ret (de_tup (da_cons (xg g.c_UNKNOWN) (da_cons (xv 1) (da_cons (xv 4) da_nil))))))
  dss_nil)
  (dss_cons (ds_if (tcmp (op_fEq (De.Room.u66 hr)) (xv 0) (xg g.c_ABSENT))
  (dss_one (ds_ret (de_tup (da_cons de_str da_nil))))
  dss_nil)
  (dss_cons (ds_if (tcmp (op_fEq (De.Room.u66 hr)) (xv 0) (xg g.c_FILE))
  (dss_one (ds_ret (de_if (tcmp (op_fEq (De.Room.u66 hr)) (xv 4) (de_tup da_nil)) (de_tup (da_cons (xg g.c_FOUND) (da_cons (xv 1) da_nil))) (de_tup (da_cons (xg g.c_FILE) da_nil)))))
  dss_nil)
  (dss_cons (ds_if (DW.dt (dw_and (tcmp (op_fNe (De.Room.u66 hr)) (xv 0) (xg g.c_DIRECTORY)) (dw_and (tcmp (op_fEq (De.Room.u66 hr)) (xv 4) (de_tup da_nil)) (dw_and1 (tcmp (op_fEq (De.Room.u66 hr)) (xv 3) (xg g.c_KEEP))))))
  (dss_one (ds_ret (de_tup (da_cons (xg g.c_FOUND) (da_cons (xv 1) da_nil)))))
  dss_nil)
  (dss_one (ds_ret de_non)))))))
abbrev s_walk_steps : Stmt := top 40
theorem S_walk_steps : FnScope N_walk_steps ["known", "here", "path", "mode", "missing"] (defScope s_walk_steps) := ⟨rfl, rfl, rfl, by decide +kernel, rfl, by decide +kernel, by decide +kernel⟩
theorem d_walk_steps (g : Facts K mg) (c_known_at : FnD Γ P w K mg base 1 "known_at" 2 f_known_at) (c_end_at : FnD Γ P w K mg base 2 "end_at" 4 f_end_at) {f : Addr} {fd : FuncData} (F : FunD K "walk_steps" "walk_steps" (defArgs s_walk_steps) (defBody s_walk_steps) (defScope s_walk_steps) [] [] f fd) (hx : mg "walk_steps" = some (.ref f)) : FnD Γ P w K mg base 3 "walk_steps" 5 f_walk_steps := by
  refine fnD_ofD (ps := ["known", "here", "path", "mode", "missing"]) (m := m_walk_steps) F hx S_walk_steps (fun _ _ _ _ _ _ us hl => match us, hl with | [_, _, _, _, _], _ => rfl) fun cdv A outer s H E hr => ?_
  exact (dss_cons (ds_set (i := 5) S_walk_steps.nd rfl (by first | exact Or.inl rfl | exact Or.inr rfl) (de_if (tcmp (op_fEq (De.Room.u66 hr)) (xix ix_fIdx (xv 2) de_int) (xg g.c_ROOT)) (de_tup da_nil) (xv 1)))
  (dss_cons (ds_par2 (i := 6) (j := 7) rfl S_walk_steps.nd rfl rfl (by decide) rfl rfl (dm_own (oT call_fList g.n_list (da_cons (xix ix_fIdx (xv 2) de_int) da_nil)) (dm_own (do_lst da_nil) dm_nil)) rfl)
  (dss_cons (ds_par2 (i := 8) (j := 9) rfl S_walk_steps.nd rfl rfl (by decide) rfl rfl (dm_own do_dnew (dm_own do_dnew dm_nil)) rfl)
  (dss_cons (ds_while fuel (passes_of rfl) (dt_lock 6 (tcmp (op_fNe (De.Room.u66 hr)) (xv 6) (de_of_do (do_lst da_nil))))
  (dss_cons (ds_pop0 (i := 10) S_walk_steps.nd rfl (by first | exact Or.inl rfl | exact Or.inr rfl) (pe_bm PySem.F.plainAttrs_list PySem.F.slot_list_pop PySem.F.type_list_pop mt_popAt (pv 6) (pa_cons pe_int pa_nil)))
  (dss_one (ds_if (dt_not (dt_val (xisi "str" g.n_isinstance g.n_str (xv 10))))
  (dss_one (ds_putPop (i := 9) (j := 8) (De.Room.u66 hr) rfl (by first | exact Or.inl rfl | exact Or.inr (Or.inl rfl) | exact Or.inr (Or.inr rfl)) rfl (by first | exact Or.inl rfl | exact Or.inr (Or.inl rfl) | exact Or.inr (Or.inr rfl)) (xv 10) (xv 5) (fun W tk => pe_bm PySem.F.plainAttrs_dict PySem.F.slot_dict_pop PySem.F.type_dict_pop (mt_popT1 (De.Room.u66 hr)) (pv 8) (pa_cons ((xv 10).run W tk) pa_nil))))
  (dss_one (ds_if (tcmp (op_fEq (De.Room.u66 hr)) (xv 10) (xg g.c_UP))
  (dss_one (ds_set (i := 5) S_walk_steps.nd rfl (by first | exact Or.inl rfl | exact Or.inr rfl) (de_sl sl_fSl (xv 5) dp_none (dp_some (de_neg de_int)))))
  (dss_one (ds_if (tcmp (op_fNe (De.Room.u66 hr)) (xv 10) (xg g.c_SELF))
  (dss_cons (ds_set (i := 11) S_walk_steps.nd rfl (by first | exact Or.inl rfl | exact Or.inr rfl) (de_op op_fAdd (xv 5) (de_tup (da_cons (xv 10) da_nil))))
  (dss_cons (ds_append (i := 7) (fun W tk => pe_bm PySem.F.plainAttrs_list PySem.F.slot_list_append PySem.F.type_list_append mt_append (pv 7) (pa_cons (De.DE.run (xv 11) W tk) pa_nil)))
  (dss_cons (ds_set (i := 12) S_walk_steps.nd rfl (by first | exact Or.inl rfl | exact Or.inr rfl) (xcall c_known_at hr (da_cons (xv 0) (da_cons (xv 11) da_nil))))
  (dss_cons (ds_set (i := 12) S_walk_steps.nd rfl (by first | exact Or.inl rfl | exact Or.inr rfl) (de_if (tcmp (op_fEq (De.Room.u66 hr)) (xv 12) (xg g.c_UNKNOWN)) (xv 4) (xv 12)))
  (dss_cons (ds_set (i := 13) S_walk_steps.nd rfl (by first | exact Or.inl rfl | exact Or.inr rfl) (de_lock 6 (de_lock 8 (de_if (tcmp (op_fIn (De.Room.u66 hr)) (xv 11) (xv 8)) (xg g.c_LOOP) (xcall c_end_at hr (da_cons (xv 12) (da_cons (xv 11) (da_cons (xv 6) (da_cons (xv 3) da_nil)))))))))
  (dss_cons (ds_if (tcmp op_fIsNot (xv 13) de_non)
  (dss_one (ds_frz 7 (ds_ret (de_tup (da_cons (xv 13) (da_cons (xv 7) da_nil))))))
  dss_nil)
  (dss_one (ds_if (dt_lock 9 (DW.dt (dw_or (tcmp (op_fEq (De.Room.u66 hr)) (xv 12) (xg g.c_DIRECTORY)) (dw_or1 (tcmp (op_fIn (De.Room.u66 hr)) (xv 11) (xv 9))))))
  (dss_one (ds_set (i := 5) S_walk_steps.nd rfl (by first | exact Or.inl rfl | exact Or.inr rfl) (de_lock 9 (xget2 (De.Room.u66 hr) (xv 9) (xv 11) (xv 11)))))
  (dss_cons (ds_dput (i := 8) (De.Room.u66 hr) rfl (by first | exact Or.inl rfl | exact Or.inr (Or.inl rfl) | exact Or.inr (Or.inr rfl)) (xv 11) (xv 11))
  (dss_cons (ds_seto (i := 6) S_walk_steps.nd rfl (by first | exact Or.inl rfl | exact Or.inr rfl) (do_lock 6 (do_op op_fCat (de_of_do (do_op op_fCat (de_of_do (oT call_fList g.n_list (da_cons (xix ix_fIdx (xv 12) de_int) da_nil))) (de_of_do (do_lst (da_cons (xv 11) da_nil))))) (xv 6))))
  (dss_one (ds_set (i := 5) S_walk_steps.nd rfl (by first | exact Or.inl rfl | exact Or.inr rfl) (de_if (tcmp (op_fEq (De.Room.u66 hr)) (xix ix_fIdx (xv 12) de_int) (xg g.c_ROOT)) (de_tup da_nil) (xv 5))))))))))))))
  dss_nil))))))))
  (dss_one (ds_frz 7 (ds_ret (de_tup (da_cons (de_tup (da_cons (xg g.c_FOUND) (da_cons (xv 5) da_nil))) (da_cons (xv 7) da_nil))))))))))
abbrev s_check_walk : Stmt := top 41
theorem S_check_walk : FnScope N_check_walk ["chart", "here", "path", "mode"] (defScope s_check_walk) := ⟨rfl, rfl, rfl, by decide +kernel, rfl, by decide +kernel, by decide +kernel⟩
theorem d_check_walk (g : Facts K mg) (c_check_path : FnD Γ P w K mg base 4 "check_path" 1 f_check_path) (c_check_chart : FnD Γ P w K mg base 7 "check_chart" 1 f_check_chart) (c_check_directory : FnD Γ P w K mg base 4 "check_directory" 2 f_check_directory) (c_check_mode : FnD Γ P w K mg base 1 "check_mode" 1 f_check_mode) {f : Addr} {fd : FuncData} (F : FunD K "check_walk" "check_walk" (defArgs s_check_walk) (defBody s_check_walk) (defScope s_check_walk) [] [] f fd) (hx : mg "check_walk" = some (.ref f)) : FnD Γ P w K mg base 8 "check_walk" 4 f_check_walk := by
  refine fnD_ofD (ps := ["chart", "here", "path", "mode"]) (m := m_check_walk) F hx S_check_walk (fun _ _ _ _ _ _ us hl => match us, hl with | [_, _, _, _], _ => rfl) fun cdv A outer s H E hr => ?_
  exact (dss_cons (ds_expr (xcall c_check_chart hr (da_cons (xv 0) da_nil)))
  (dss_cons (ds_expr (xcall c_check_directory hr (da_cons (xv 0) (da_cons (xv 1) da_nil))))
  (dss_cons (ds_expr (xcall c_check_path hr (da_cons (xv 2) da_nil)))
  (dss_one (ds_expr (xcall c_check_mode hr (da_cons (xv 3) da_nil)))))))
abbrev s_result_of : Stmt := top 42
theorem S_result_of : FnScope N_result_of ["chart", "here", "path", "mode"] (defScope s_result_of) := ⟨rfl, rfl, rfl, by decide +kernel, rfl, by decide +kernel, by decide +kernel⟩
theorem d_result_of (g : Facts K mg) (c_walk_steps : FnD Γ P w K mg base 3 "walk_steps" 5 f_walk_steps) {f : Addr} {fd : FuncData} (F : FunD K "result_of" "result_of" (defArgs s_result_of) (defBody s_result_of) (defScope s_result_of) [] [] f fd) (hx : mg "result_of" = some (.ref f)) : FnD Γ P w K mg base 4 "result_of" 4 f_result_of := by
  refine fnD_ofD (ps := ["chart", "here", "path", "mode"]) (m := m_result_of) F hx S_result_of (fun _ _ _ _ _ _ us hl => match us, hl with | [_, _, _, _], _ => rfl) fun cdv A outer s H E hr => ?_
  exact (dss_cons (ds_asg (dg_tup rfl (dgs_cons (i := 4) S_result_of.nd rfl (by first | exact Or.inl rfl | exact Or.inr rfl) (dgs_cons (i := 5) S_result_of.nd rfl (by first | exact Or.inl rfl | exact Or.inr rfl) dgs_nil))) (xcall c_walk_steps hr (da_cons (de_of_do (oT (call_fDict rfl (De.Room.u66 hr)) g.n_dict (da_cons (xv 0) da_nil))) (da_cons (xv 1) (da_cons (xv 2) (da_cons (xv 3) (da_cons (xg g.c_UNKNOWN) da_nil)))))))
  (dss_one (ds_ret (xv 4))))
abbrev s_walk : Stmt := top 43
theorem S_walk : FnScope N_walk ["chart", "here", "path", "mode"] (defScope s_walk) := ⟨rfl, rfl, rfl, by decide +kernel, rfl, by decide +kernel, by decide +kernel⟩
theorem d_walk (g : Facts K mg) (c_check_walk : FnD Γ P w K mg base 8 "check_walk" 4 f_check_walk) (c_result_of : FnD Γ P w K mg base 4 "result_of" 4 f_result_of) {f : Addr} {fd : FuncData} (F : FunD K "walk" "walk" (defArgs s_walk) (defBody s_walk) (defScope s_walk) [] [] f fd) (hx : mg "walk" = some (.ref f)) : FnD Γ P w K mg base 9 "walk" 4 f_walk := by
  refine fnD_ofD (ps := ["chart", "here", "path", "mode"]) (m := m_walk) F hx S_walk (fun _ _ _ _ _ _ us hl => match us, hl with | [_, _, _, _], _ => rfl) fun cdv A outer s H E hr => ?_
  exact (dss_cons (ds_expr (xcall c_check_walk hr (da_cons (xv 0) (da_cons (xv 1) (da_cons (xv 2) (da_cons (xv 3) da_nil))))))
  (dss_one (ds_ret (xcall c_result_of hr (da_cons (xv 0) (da_cons (xv 1) (da_cons (xv 2) (da_cons (xv 3) da_nil))))))))
abbrev s_is_link : Stmt := top 45
theorem S_is_link : FnScope N_is_link ["what"] (defScope s_is_link) := ⟨rfl, rfl, rfl, by decide +kernel, rfl, by decide +kernel, by decide +kernel⟩
theorem d_is_link (g : Facts K mg)  {f : Addr} {fd : FuncData} (F : FunD K "is_link" "is_link" (defArgs s_is_link) (defBody s_is_link) (defScope s_is_link) [] [] f fd) (hx : mg "is_link" = some (.ref f)) : FnD Γ P w K mg base 1 "is_link" 1 f_is_link := by
  refine fnD_ofD (ps := ["what"]) (m := m_is_link) F hx S_is_link (fun _ _ _ _ _ _ us hl => match us, hl with | [_], _ => rfl) fun cdv A outer s H E hr => ?_
  exact (dss_one (ds_ret (xcmp (op_fNotIn (De.Room.u66 hr)) (xv 0) (de_tup (da_cons (xg g.c_DIRECTORY) (da_cons (xg g.c_FILE) (da_cons (xg g.c_ABSENT) da_nil)))))))
abbrev s_find_links : Stmt := top 46
theorem S_find_links : FnScope N_find_links ["chart"] (defScope s_find_links) := ⟨rfl, rfl, rfl, by decide +kernel, rfl, by decide +kernel, by decide +kernel⟩
theorem d_find_links (g : Facts K mg) (c_is_link : FnD Γ P w K mg base 1 "is_link" 1 f_is_link) {f : Addr} {fd : FuncData} (F : FunD K "find_links" "find_links" (defArgs s_find_links) (defBody s_find_links) (defScope s_find_links) [] [] f fd) (hx : mg "find_links" = some (.ref f)) : FnD Γ P w K mg base 2 "find_links" 1 f_find_links := by
  refine fnD_ofD (ps := ["chart"]) (m := m_find_links) F hx S_find_links (fun _ _ _ _ _ _ us hl => match us, hl with | [_], _ => rfl) fun cdv A outer s H E hr => ?_
  exact (dss_one (ds_ret (de_of_do (do_lc (own := [("address", 1), ("what", 2)]) rfl S_find_links.nd (di_seq (xv 0)) (by show blkC N_find_links (defScope s_find_links) _ _ = true; decide +kernel) (by decide) (fun _ _ _ _ _ => (dg_tup rfl (dgs_cons (i := 1) S_find_links.nd rfl (by first | exact Or.inl rfl | exact Or.inr rfl) (dgs_cons (i := 2) S_find_links.nd rfl (by first | exact Or.inl rfl | exact Or.inr rfl) dgs_nil)))) (fun _ _ _ _ _ => (dts_one (dt_val (xcall c_is_link hr (da_cons (xv 2) da_nil))))) (fun _ _ _ _ _ => (xv 1))))))
abbrev s_links : Stmt := top 47
theorem S_links : FnScope N_links ["chart"] (defScope s_links) := ⟨rfl, rfl, rfl, by decide +kernel, rfl, by decide +kernel, by decide +kernel⟩
theorem d_links (g : Facts K mg) (c_check_chart : FnD Γ P w K mg base 7 "check_chart" 1 f_check_chart) (c_find_links : FnD Γ P w K mg base 2 "find_links" 1 f_find_links) {f : Addr} {fd : FuncData} (F : FunD K "links" "links" (defArgs s_links) (defBody s_links) (defScope s_links) [] [] f fd) (hx : mg "links" = some (.ref f)) : FnD Γ P w K mg base 8 "links" 1 f_links := by
  refine fnD_ofD (ps := ["chart"]) (m := m_links) F hx S_links (fun _ _ _ _ _ _ us hl => match us, hl with | [_], _ => rfl) fun cdv A outer s H E hr => ?_
  exact (dss_cons (ds_expr (xcall c_check_chart hr (da_cons (xv 0) da_nil)))
  (dss_one (ds_ret (xcall c_find_links hr (da_cons (xv 0) da_nil)))))
abbrev s_find_end : Stmt := top 48
theorem S_find_end : FnScope N_find_end ["chart", "address"] (defScope s_find_end) := ⟨rfl, rfl, rfl, by decide +kernel, rfl, by decide +kernel, by decide +kernel⟩
theorem d_find_end (g : Facts K mg) (c_result_of : FnD Γ P w K mg base 4 "result_of" 4 f_result_of) {f : Addr} {fd : FuncData} (F : FunD K "find_end" "find_end" (defArgs s_find_end) (defBody s_find_end) (defScope s_find_end) [] [] f fd) (hx : mg "find_end" = some (.ref f)) : FnD Γ P w K mg base 5 "find_end" 2 f_find_end := by
  refine fnD_ofD (ps := ["chart", "address"]) (m := m_find_end) F hx S_find_end (fun _ _ _ _ _ _ us hl => match us, hl with | [_, _], _ => rfl) fun cdv A outer s H E hr => ?_
  exact (dss_one (ds_ret (xcall c_result_of hr (da_cons (xv 0) (da_cons (de_sl sl_fSl (xv 1) dp_none (dp_some (de_neg de_int))) (da_cons (de_tup (da_cons de_str (da_cons (de_sl sl_fSl (xv 1) (dp_some (de_neg de_int)) dp_none) da_nil))) (da_cons (xg g.c_FOLLOW) da_nil)))))))
abbrev s_find_endless : Stmt := top 49
theorem S_find_endless : FnScope N_find_endless ["chart"] (defScope s_find_endless) := ⟨rfl, rfl, rfl, by decide +kernel, rfl, by decide +kernel, by decide +kernel⟩
theorem d_find_endless (g : Facts K mg) (c_find_links : FnD Γ P w K mg base 2 "find_links" 1 f_find_links) (c_find_end : FnD Γ P w K mg base 5 "find_end" 2 f_find_end) {f : Addr} {fd : FuncData} (F : FunD K "find_endless" "find_endless" (defArgs s_find_endless) (defBody s_find_endless) (defScope s_find_endless) [] [] f fd) (hx : mg "find_endless" = some (.ref f)) : FnD Γ P w K mg base 6 "find_endless" 1 f_find_endless := by
  refine fnD_ofD (ps := ["chart"]) (m := m_find_endless) F hx S_find_endless (fun _ _ _ _ _ _ us hl => match us, hl with | [_], _ => rfl) fun cdv A outer s H E hr => ?_
  exact (dss_one (ds_ret (de_of_do (do_lc (own := [("address", 1)]) rfl S_find_endless.nd (di_seq (xcall c_find_links hr (da_cons (xv 0) da_nil))) (by show blkC N_find_endless (defScope s_find_endless) _ _ = true; decide +kernel) (by decide) (fun _ _ _ _ _ => (dg_name (i := 1) S_find_endless.nd rfl (by first | exact Or.inl rfl | exact Or.inr rfl))) (fun _ _ _ _ _ => (dts_one (tcmp (op_fEq (De.Room.u66 hr)) (xcall c_find_end hr (da_cons (xv 0) (da_cons (xv 1) da_nil))) (xg g.c_LOOP)))) (fun _ _ _ _ _ => (xv 1))))))
abbrev s_endless : Stmt := top 50
theorem S_endless : FnScope N_endless ["chart"] (defScope s_endless) := ⟨rfl, rfl, rfl, by decide +kernel, rfl, by decide +kernel, by decide +kernel⟩
theorem d_endless (g : Facts K mg) (c_check_chart : FnD Γ P w K mg base 7 "check_chart" 1 f_check_chart) (c_find_endless : FnD Γ P w K mg base 6 "find_endless" 1 f_find_endless) {f : Addr} {fd : FuncData} (F : FunD K "endless" "endless" (defArgs s_endless) (defBody s_endless) (defScope s_endless) [] [] f fd) (hx : mg "endless" = some (.ref f)) : FnD Γ P w K mg base 8 "endless" 1 f_endless := by
  refine fnD_ofD (ps := ["chart"]) (m := m_endless) F hx S_endless (fun _ _ _ _ _ _ us hl => match us, hl with | [_], _ => rfl) fun cdv A outer s H E hr => ?_
  exact (dss_cons (ds_expr (xcall c_check_chart hr (da_cons (xv 0) da_nil)))
  (dss_one (ds_ret (xcall c_find_endless hr (da_cons (xv 0) da_nil)))))
abbrev s_replace_links : Stmt := top 53
theorem S_replace_links : FnScope N_replace_links ["known", "here", "path", "mode"] (defScope s_replace_links) := ⟨rfl, rfl, rfl, by decide +kernel, rfl, by decide +kernel, by decide +kernel⟩
theorem d_replace_links (g : Facts K mg) (c_known_at : FnD Γ P w K mg base 1 "known_at" 2 f_known_at) {f : Addr} {fd : FuncData} (F : FunD K "replace_links" "replace_links" (defArgs s_replace_links) (defBody s_replace_links) (defScope s_replace_links) [] [] f fd) (hx : mg "replace_links" = some (.ref f)) : FnD Γ P w K mg base 2 "replace_links" 4 f_replace_links := by
  refine fnD_ofD (ps := ["known", "here", "path", "mode"]) (m := m_replace_links) F hx S_replace_links (fun _ _ _ _ _ _ us hl => match us, hl with | [_, _, _, _], _ => rfl) fun cdv A outer s H E hr => ?_
  exact (dss_cons (ds_par3 (i := 4) (j := 5) (l := 6) rfl S_replace_links.nd rfl rfl rfl (by decide) (by decide) (by decide) rfl rfl rfl (dm_dat (de_if (tcmp (op_fEq (De.Room.u66 hr)) (xix ix_fIdx (xv 2) de_int) (xg g.c_ROOT)) (de_tup da_nil) (xv 1)) (dm_dat (xix ix_fIdx (xv 2) de_int) (dm_dat de_int dm_nil))) rfl)
  (dss_cons (ds_while fuel (passes_of rfl) (tcmp (op_fNe (De.Room.u66 hr)) (xv 5) (de_tup da_nil))
  (dss_cons (ds_par2 (i := 7) (j := 5) rfl S_replace_links.nd rfl rfl (by decide) rfl rfl (dm_dat (xix ix_fIdx (xv 5) de_int) (dm_dat (de_sl sl_fSl (xv 5) (dp_some de_int) dp_none) dm_nil)) rfl)
  (dss_one (ds_if (tcmp (op_fEq (De.Room.u66 hr)) (xv 7) (xg g.c_UP))
  (dss_one (ds_set (i := 4) S_replace_links.nd rfl (by first | exact Or.inl rfl | exact Or.inr rfl) (de_sl sl_fSl (xv 4) dp_none (dp_some (de_neg de_int)))))
  (dss_one (ds_if (tcmp (op_fNe (De.Room.u66 hr)) (xv 7) (xg g.c_SELF))
  (dss_cons (ds_set (i := 8) S_replace_links.nd rfl (by first | exact Or.inl rfl | exact Or.inr rfl) (de_op op_fAdd (xv 4) (de_tup (da_cons (xv 7) da_nil))))
  (dss_cons (ds_set (i := 9) S_replace_links.nd rfl (by first | exact Or.inl rfl | exact Or.inr rfl) (xcall c_known_at hr (da_cons (xv 0) (da_cons (xv 8) da_nil))))
  (dss_cons (ds_if (tcmp (op_fEq (De.Room.u66 hr)) (xv 9) (xg g.c_UNKNOWN))
  (dss_one (ds_ret (de_tup (da_cons (xg g.c_UNKNOWN) (da_cons (xv 8) (da_cons (xv 5) da_nil))))))
  dss_nil)
  (dss_cons (ds_if (tcmp (op_fEq (De.Room.u66 hr)) (xv 9) (xg g.c_ABSENT))
  (dss_one (ds_ret (de_tup (da_cons de_str da_nil))))
  dss_nil)
  (dss_cons (ds_if (tcmp (op_fEq (De.Room.u66 hr)) (xv 9) (xg g.c_FILE))
  (dss_one (ds_ret (de_if (tcmp (op_fEq (De.Room.u66 hr)) (xv 5) (de_tup da_nil)) (de_tup (da_cons (xg g.c_FOUND) (da_cons (xv 8) da_nil))) (de_tup (da_cons (xg g.c_FILE) da_nil)))))
  dss_nil)
  (dss_one (ds_if (tcmp (op_fEq (De.Room.u66 hr)) (xv 9) (xg g.c_DIRECTORY))
  (dss_one (ds_set (i := 4) S_replace_links.nd rfl (by first | exact Or.inl rfl | exact Or.inr rfl) (xv 8)))
  (dss_one (ds_if (DW.dt (dw_and (tcmp (op_fEq (De.Room.u66 hr)) (xv 5) (de_tup da_nil)) (dw_and1 (tcmp (op_fEq (De.Room.u66 hr)) (xv 3) (xg g.c_KEEP)))))
  (dss_one (ds_ret (de_tup (da_cons (xg g.c_FOUND) (da_cons (xv 8) da_nil)))))
  (dss_one (ds_if (tcmp (op_fEq (De.Room.u66 hr)) (xv 6) (xg g.c_MAX_REPLACED))
  (dss_one (ds_ret (xg g.c_LOOP)))
  (dss_cons (ds_set (i := 6) S_replace_links.nd rfl (by first | exact Or.inl rfl | exact Or.inr rfl) (de_op op_fAdd (xv 6) de_int))
  (dss_one (ds_par2 (i := 4) (j := 5) rfl S_replace_links.nd rfl rfl (by decide) rfl rfl (dm_dat (de_if (tcmp (op_fEq (De.Room.u66 hr)) (xix ix_fIdx (xv 9) de_int) (xg g.c_ROOT)) (de_tup da_nil) (xv 4)) (dm_dat (de_op op_fAdd (xix ix_fIdx (xv 9) de_int) (xv 5)) dm_nil)) rfl))))))))))))))
  dss_nil))))))
  (dss_one (ds_ret (de_tup (da_cons (xg g.c_FOUND) (da_cons (xv 4) da_nil)))))))
abbrev s_naive_walk : Stmt := top 54
theorem S_naive_walk : FnScope N_naive_walk ["chart", "here", "path", "mode"] (defScope s_naive_walk) := ⟨rfl, rfl, rfl, by decide +kernel, rfl, by decide +kernel, by decide +kernel⟩
theorem d_naive_walk (g : Facts K mg) (c_check_walk : FnD Γ P w K mg base 8 "check_walk" 4 f_check_walk) (c_replace_links : FnD Γ P w K mg base 2 "replace_links" 4 f_replace_links) {f : Addr} {fd : FuncData} (F : FunD K "naive_walk" "naive_walk" (defArgs s_naive_walk) (defBody s_naive_walk) (defScope s_naive_walk) [] [] f fd) (hx : mg "naive_walk" = some (.ref f)) : FnD Γ P w K mg base 9 "naive_walk" 4 f_naive_walk := by
  refine fnD_ofD (ps := ["chart", "here", "path", "mode"]) (m := m_naive_walk) F hx S_naive_walk (fun _ _ _ _ _ _ us hl => match us, hl with | [_, _, _, _], _ => rfl) fun cdv A outer s H E hr => ?_
  exact (dss_cons (ds_expr (xcall c_check_walk hr (da_cons (xv 0) (da_cons (xv 1) (da_cons (xv 2) (da_cons (xv 3) da_nil))))))
  (dss_one (ds_ret (xcall c_replace_links hr (da_cons (de_of_do (oT (call_fDict rfl (De.Room.u66 hr)) g.n_dict (da_cons (xv 0) da_nil))) (da_cons (xv 1) (da_cons (xv 2) (da_cons (xv 3) da_nil))))))))
abbrev s_naive_endless : Stmt := top 55
theorem S_naive_endless : FnScope N_naive_endless ["chart"] (defScope s_naive_endless) := ⟨rfl, rfl, rfl, by decide +kernel, rfl, by decide +kernel, by decide +kernel⟩
theorem d_naive_endless (g : Facts K mg) (c_check_chart : FnD Γ P w K mg base 7 "check_chart" 1 f_check_chart) (c_find_links : FnD Γ P w K mg base 2 "find_links" 1 f_find_links) (c_replace_links : FnD Γ P w K mg base 2 "replace_links" 4 f_replace_links) {f : Addr} {fd : FuncData} (F : FunD K "naive_endless" "naive_endless" (defArgs s_naive_endless) (defBody s_naive_endless) (defScope s_naive_endless) [] [] f fd) (hx : mg "naive_endless" = some (.ref f)) : FnD Γ P w K mg base 8 "naive_endless" 1 f_naive_endless := by
  refine fnD_ofD (ps := ["chart"]) (m := m_naive_endless) F hx S_naive_endless (fun _ _ _ _ _ _ us hl => match us, hl with | [_], _ => rfl) fun cdv A outer s H E hr => ?_
  exact (dss_cons (ds_expr (xcall c_check_chart hr (da_cons (xv 0) da_nil)))
  (dss_cons (ds_par2 (i := 1) (j := 2) rfl S_naive_endless.nd rfl rfl (by decide) rfl rfl (dm_dat (de_of_do (oT (call_fDict rfl (De.Room.u66 hr)) g.n_dict (da_cons (xv 0) da_nil))) (dm_own (do_lst da_nil) dm_nil)) rfl)
  (dss_cons (ds_for (passes_of rfl) rfl (di_seq (xcall c_find_links hr (da_cons (xv 0) da_nil))) (dg_name (i := 3) S_naive_endless.nd rfl (by first | exact Or.inl rfl | exact Or.inr rfl))
  (dss_one (ds_if (tcmp (op_fEq (De.Room.u66 hr)) (xcall c_replace_links hr (da_cons (xv 1) (da_cons (de_sl sl_fSl (xv 3) dp_none (dp_some (de_neg de_int))) (da_cons (de_tup (da_cons de_str (da_cons (de_sl sl_fSl (xv 3) (dp_some (de_neg de_int)) dp_none) da_nil))) (da_cons (xg g.c_FOLLOW) da_nil))))) (xg g.c_LOOP))
  (dss_one (ds_append (i := 2) (fun W tk => pe_bm PySem.F.plainAttrs_list PySem.F.slot_list_append PySem.F.type_list_append mt_append (pv 2) (pa_cons (De.DE.run (xv 3) W tk) pa_nil))))
  dss_nil)))
  (dss_one (ds_retf (i := 2) rfl (by first | exact Or.inl rfl | exact Or.inr (Or.inl rfl) | exact Or.inr (Or.inr rfl)))))))
abbrev s__law_drawn : Stmt := top 57
theorem S__law_drawn : FnScope N__law_drawn ["_law_script", "_law_k", "_law_many"] (defScope s__law_drawn) := ⟨rfl, rfl, rfl, by decide +kernel, rfl, by decide +kernel, by decide +kernel⟩
theorem d__law_drawn (g : Facts K mg)  {f : Addr} {fd : FuncData} (F : FunD K "_law_drawn" "_law_drawn" (defArgs s__law_drawn) (defBody s__law_drawn) (defScope s__law_drawn) [] [] f fd) (hx : mg "_law_drawn" = some (.ref f)) : FnD Γ P w K mg base 1 "_law_drawn" 3 f__law_drawn := by
  refine fnD_ofD (ps := ["_law_script", "_law_k", "_law_many"]) (m := m__law_drawn) F hx S__law_drawn (fun _ _ _ _ _ _ us hl => match us, hl with | [_, _, _], _ => rfl) fun cdv A outer s H E hr => ?_
  exact (dss_cons (ds_set (i := 3) S__law_drawn.nd rfl (by first | exact Or.inl rfl | exact Or.inr rfl) (de_op op_fMul de_int (xv 1)))
  (dss_cons (ds_if (tcmp (op_fNe (De.Room.u66 hr)) (xv 0) (de_of_do (do_lst da_nil)))
  (dss_cons (ds_set (i := 3) S__law_drawn.nd rfl (by first | exact Or.inl rfl | exact Or.inr rfl) (xix ix_fIdx (xv 0) (de_op op_fMod (xv 1) (xB call_fLen g.n_len (da_cons (xv 0) da_nil)))))
  (dss_cons (ds_set (i := 4) S__law_drawn.nd rfl (by first | exact Or.inl rfl | exact Or.inr rfl) (de_op op_fDiv (xv 1) (xB call_fLen g.n_len (da_cons (xv 0) da_nil))))
  (dss_cons (ds_if (DW.dt (dw_and (tcmp op_fGe (xv 3) (de_op op_fPow de_int de_int)) (dw_and1 (tcmp (op_fLt (De.Room.u66 hr)) (xv 4) de_int))))
  (dss_cons (ds_set (i := 5) S__law_drawn.nd rfl (by first | exact Or.inl rfl | exact Or.inr rfl) (de_op op_fDiv (xv 3) (de_op op_fPow de_int de_int)))
  (dss_cons (ds_while fuel (passes_of rfl) (DW.dt (dw_and (tcmp op_fGt (xv 5) de_int) (dw_and1 (tcmp op_fGt (xv 4) de_int))))
  (dss_cons (ds_set (i := 5) S__law_drawn.nd rfl (by first | exact Or.inl rfl | exact Or.inr rfl) (de_op op_fDiv (xv 5) de_int))
  (dss_one (ds_set (i := 4) S__law_drawn.nd rfl (by first | exact Or.inl rfl | exact Or.inr rfl) (de_op op_fSub (xv 4) de_int)))))
  (dss_one (ds_if (tcmp op_fGt (xv 5) de_int)
  (dss_one (ds_ret (de_op op_fMod (de_op op_fMod (xv 5) de_int) (xv 2))))
  dss_nil))))
  dss_nil)
  (dss_one (ds_set (i := 3) S__law_drawn.nd rfl (by first | exact Or.inl rfl | exact Or.inr rfl) (de_op op_fAdd (xv 3) (de_op op_fMul de_int (de_op op_fDiv (xv 1) (xB call_fLen g.n_len (da_cons (xv 0) da_nil))))))))))
  dss_nil)
  (dss_cons (ds_set (i := 3) S__law_drawn.nd rfl (by first | exact Or.inl rfl | exact Or.inr rfl) (de_op op_fMod (de_op op_fAdd (de_op op_fMul (de_op op_fMod (xv 3) de_int) de_int) (de_op op_fMul de_int (de_op op_fAdd (xv 1) de_int))) de_int))
  (dss_cons (ds_set (i := 3) S__law_drawn.nd rfl (by first | exact Or.inl rfl | exact Or.inr rfl) (de_op op_fMod (de_op op_fAdd (de_op op_fMul (xv 3) (xv 3)) (de_op op_fDiv (xv 3) de_int)) de_int))
  (dss_one (ds_ret (de_op op_fMod (de_op op_fDiv (de_op op_fMod (de_op op_fAdd (de_op op_fMul (xv 3) (xv 3)) (de_op op_fDiv (xv 3) de_int)) de_int) de_int) (xv 2))))))))
abbrev s__law_path : Stmt := top 58
theorem S__law_path : FnScope N__law_path ["_law_script", "_law_at", "_law_most"] (defScope s__law_path) := ⟨rfl, rfl, rfl, by decide +kernel, rfl, by decide +kernel, by decide +kernel⟩
theorem d__law_path (g : Facts K mg) (c__law_drawn : FnD Γ P w K mg base 1 "_law_drawn" 3 f__law_drawn) {f : Addr} {fd : FuncData} (F : FunD K "_law_path" "_law_path" (defArgs s__law_path) (defBody s__law_path) (defScope s__law_path) [] [] f fd) (hx : mg "_law_path" = some (.ref f)) : FnD Γ P w K mg base 2 "_law_path" 3 f__law_path := by
  refine fnD_ofD (ps := ["_law_script", "_law_at", "_law_most"]) (m := m__law_path) F hx S__law_path (fun _ _ _ _ _ _ us hl => match us, hl with | [_, _, _], _ => rfl) fun cdv A outer s H E hr => ?_
  exact (dss_cons (ds_set (i := 3) S__law_path.nd rfl (by first | exact Or.inl rfl | exact Or.inr rfl) (xix ix_fIdx (de_of_do (do_lst (da_cons de_str (da_cons de_str (da_cons de_str da_nil))))) (xcall c__law_drawn hr (da_cons (xv 0) (da_cons (xv 1) (da_cons de_int da_nil))))))
  (dss_cons (ds_seto (i := 4) S__law_path.nd rfl (by first | exact Or.inl rfl | exact Or.inr rfl) (do_lst da_nil))
  (dss_cons (ds_for (passes_of rfl) rfl (di_range1 rfl g.n_range (da_cons (de_op op_fAdd de_int (xcall c__law_drawn hr (da_cons (xv 0) (da_cons (de_op op_fAdd (xv 1) de_int) (da_cons (xv 2) da_nil))))) da_nil)) (dg_name (i := 5) S__law_path.nd rfl (by first | exact Or.inl rfl | exact Or.inr rfl))
  (dss_one (ds_append (i := 4) (fun W tk => pe_bm PySem.F.plainAttrs_list PySem.F.slot_list_append PySem.F.type_list_append mt_append (pv 4) (pa_cons (De.DE.run (xix ix_fIdx (de_of_do (do_lst (da_cons de_str (da_cons de_str (da_cons de_str (da_cons de_str (da_cons de_str (da_cons de_str (da_cons de_str (da_cons de_str da_nil)))))))))) (xcall c__law_drawn hr (da_cons (xv 0) (da_cons (de_op op_fAdd (de_op op_fAdd (xv 1) de_int) (xv 5)) (da_cons de_int da_nil))))) W tk) pa_nil)))))
  (dss_one (ds_ret (de_lock 4 (de_tup (da_cons (xv 3) (da_cons (xT call_fTuple g.n_tuple (da_cons (xv 4) da_nil)) da_nil)))))))))
abbrev s__law_key : Stmt := top 59
theorem S__law_key : FnScope N__law_key ["_law_row"] (defScope s__law_key) := ⟨rfl, rfl, rfl, by decide +kernel, rfl, by decide +kernel, by decide +kernel⟩
theorem d__law_key (g : Facts K mg)  {f : Addr} {fd : FuncData} (F : FunD K "_law_key" "_law_key" (defArgs s__law_key) (defBody s__law_key) (defScope s__law_key) [] [] f fd) (hx : mg "_law_key" = some (.ref f)) : FnD Γ P w K mg base 1 "_law_key" 1 f__law_key := by
  refine fnD_ofD (ps := ["_law_row"]) (m := m__law_key) F hx S__law_key (fun _ _ _ _ _ _ us hl => match us, hl with | [_], _ => rfl) fun cdv A outer s H E hr => ?_
  exact (dss_one (ds_ret (xix ix_fIdx (xv 0) de_int)))
abbrev s__law_chart : Stmt := top 60
theorem S__law_chart : FnScope N__law_chart ["_law_script", "_law_at", "_law_most", "_law_whats"] (defScope s__law_chart) := ⟨rfl, rfl, rfl, by decide +kernel, rfl, by decide +kernel, by decide +kernel⟩
theorem d__law_chart (g : Facts K mg) {fk__law_key : Addr} {fdk__law_key : FuncData} (F__law_key : FunD K "_law_key" "_law_key" (defArgs s__law_key) (defBody s__law_key) (defScope s__law_key) [] [] fk__law_key fdk__law_key) (hk__law_key : mg "_law_key" = some (.ref fk__law_key)) (c__law_drawn : FnD Γ P w K mg base 1 "_law_drawn" 3 f__law_drawn) (c__law_path : FnD Γ P w K mg base 2 "_law_path" 3 f__law_path) {f : Addr} {fd : FuncData} (F : FunD K "_law_chart" "_law_chart" (defArgs s__law_chart) (defBody s__law_chart) (defScope s__law_chart) [] [] f fd) (hx : mg "_law_chart" = some (.ref f)) : FnD Γ P w K mg base 3 "_law_chart" 4 f__law_chart := by
  refine fnD_ofD (ps := ["_law_script", "_law_at", "_law_most", "_law_whats"]) (m := m__law_chart) F hx S__law_chart (fun _ _ _ _ _ _ us hl => match us, hl with | [_, _, _, _], _ => rfl) fun cdv A outer s H E hr => ?_
  exact (dss_cons (ds_parU2 (i := 4) (j := 5) rfl S__law_chart.nd rfl rfl (by first | exact Or.inl rfl | exact Or.inr rfl) (by first | exact Or.inl rfl | exact Or.inr rfl) (by first | exact Or.inl rfl | exact Or.inr rfl) (by first | exact Or.inl rfl | exact Or.inr rfl) (dm_own do_dnew (dm_dat (de_of_do (do_lst (da_cons (de_tup da_nil) da_nil))) dm_nil)))
  (dss_cons (ds_for (passes_of rfl) rfl (di_range1 rfl g.n_range (da_cons (xcall c__law_drawn hr (da_cons (xv 0) (da_cons (xv 1) (da_cons (de_op op_fAdd (xv 2) de_int) da_nil)))) da_nil)) (dg_name (i := 6) S__law_chart.nd rfl (by first | exact Or.inl rfl | exact Or.inr rfl))
  (dss_cons (ds_set (i := 7) S__law_chart.nd rfl (by first | exact Or.inl rfl | exact Or.inr rfl) (de_op op_fAdd (de_op op_fAdd (xv 1) de_int) (de_op op_fMul de_int (xv 6))))
  (dss_cons (ds_set (i := 8) S__law_chart.nd rfl (by first | exact Or.inl rfl | exact Or.inr rfl) (de_op op_fAdd (xix ix_fIdx (xv 5) (xcall c__law_drawn hr (da_cons (xv 0) (da_cons (xv 7) (da_cons (xB call_fLen g.n_len (da_cons (xv 5) da_nil)) da_nil))))) (de_tup (da_cons (xix ix_fIdx de_str (xcall c__law_drawn hr (da_cons (xv 0) (da_cons (de_op op_fAdd (xv 7) de_int) (da_cons de_int da_nil))))) da_nil))))
  (dss_cons (ds_set (i := 9) S__law_chart.nd rfl (by first | exact Or.inl rfl | exact Or.inr rfl) (xix ix_fIdx (xv 3) (xcall c__law_drawn hr (da_cons (xv 0) (da_cons (de_op op_fAdd (xv 7) de_int) (da_cons (xB call_fLen g.n_len (da_cons (xv 3) da_nil)) da_nil))))))
  (dss_one (ds_if (dt_lock 4 (DW.dt (dw_and (tcmp (op_fNotIn (De.Room.u66 hr)) (xv 8) (xv 4)) (dw_and1 (tcmp (op_fLt (De.Room.u66 hr)) (xB call_fLen g.n_len (da_cons (xv 8) da_nil)) de_int)))))
  (dss_cons (ds_dput (i := 4) (De.Room.u66 hr) rfl (by first | exact Or.inl rfl | exact Or.inr (Or.inl rfl) | exact Or.inr (Or.inr rfl)) (xv 8) (de_if (tcmp (op_fEq (De.Room.u66 hr)) (xv 9) de_str) (xcall c__law_path hr (da_cons (xv 0) (da_cons (de_op op_fAdd (xv 7) de_int) (da_cons de_int da_nil)))) (xv 9)))
  (dss_one (ds_set (i := 5) S__law_chart.nd rfl (by first | exact Or.inl rfl | exact Or.inr rfl) (de_of_do (do_op op_fCat (xv 5) (de_of_do (do_if (tcmp (op_fEq (De.Room.u66 hr)) (xv 9) de_str) (do_lst (da_cons (xv 8) da_nil)) (do_lst da_nil))))))))
  dss_nil))))))
  (dss_one (ds_ret (de_lckK 4 (xT call_fTuple g.n_tuple (da_cons (de_of_do (do_sort0D (De.Room.u66 hr) hr rfl g.n_sorted rfl hk__law_key F__law_key (da_cons (de_of_do (do_lc (own := [("_law_place", 8)]) rfl S__law_chart.nd (di_keys (i := 4) rfl (by first | exact Or.inl rfl | exact Or.inr (Or.inl rfl) | exact Or.inr (Or.inr rfl))) (by show blkC N__law_chart (defScope s__law_chart) _ _ = true; decide +kernel) (by decide) (fun _ _ _ _ _ => (dg_name (i := 8) S__law_chart.nd rfl (by first | exact Or.inl rfl | exact Or.inr rfl))) (fun _ _ _ _ _ => dts_nil) (fun _ _ _ _ _ => (de_tup (da_cons (xv 8) (da_cons (xdg (De.Room.u66 hr) (xv 4) (xv 8)) da_nil)))))) da_nil) (fun s v => FunD.bindsA (ps := [_]) F__law_key (fun _ _ _ _ _ _ us hl => match us, hl with | [_], _ => rfl) s [v] rfl) rfl rfl rfl (by decide +kernel) rfl)) da_nil)))))))
abbrev s__law_what : Stmt := top 61
theorem S__law_what : FnScope N__law_what ["_law_rows", "_law_place", "_law_missing"] (defScope s__law_what) := ⟨rfl, rfl, rfl, by decide +kernel, rfl, by decide +kernel, by decide +kernel⟩
theorem d__law_what (g : Facts K mg)  {f : Addr} {fd : FuncData} (F : FunD K "_law_what" "_law_what" (defArgs s__law_what) (defBody s__law_what) (defScope s__law_what) [] [] f fd) (hx : mg "_law_what" = some (.ref f)) : FnD Γ P w K mg base 1 "_law_what" 3 f__law_what := by
  refine fnD_ofD (ps := ["_law_rows", "_law_place", "_law_missing"]) (m := m__law_what) F hx S__law_what (fun _ _ _ _ _ _ us hl => match us, hl with | [_, _, _], _ => rfl) fun cdv A outer s H E hr => ?_
  exact (dss_cons (ds_set (i := 3) S__law_what.nd rfl (by first | exact Or.inl rfl | exact Or.inr rfl) (de_of_do (oT (call_fDict rfl (De.Room.u66 hr)) g.n_dict (da_cons (xv 0) da_nil))))
  (dss_cons (ds_for (passes_of rfl) rfl (di_range2 rfl g.n_range (da_cons de_int (da_cons (de_op op_fAdd (xB call_fLen g.n_len (da_cons (xv 1) da_nil)) de_int) da_nil))) (dg_name (i := 4) S__law_what.nd rfl (by first | exact Or.inl rfl | exact Or.inr rfl))
  (dss_cons (ds_set (i := 5) S__law_what.nd rfl (by first | exact Or.inl rfl | exact Or.inr rfl) (xget2 (De.Room.u66 hr) (xv 3) (de_sl sl_fSl (xv 1) dp_none (dp_some (xv 4))) (xv 2)))
  (dss_one (ds_if (DW.dt (dw_and (tcmp (op_fLt (De.Room.u66 hr)) (xv 4) (xB call_fLen g.n_len (da_cons (xv 1) da_nil))) (dw_and1 (tcmp (op_fNe (De.Room.u66 hr)) (xv 5) de_str))))
  (dss_one (ds_ret (de_if (tcmp (op_fEq (De.Room.u66 hr)) (xv 5) de_str) (xv 2) de_str)))
  dss_nil))))
  (dss_one (ds_ret (de_if (tcmp (op_fEq (De.Room.u66 hr)) (xv 1) (de_tup da_nil)) de_str (xget2 (De.Room.u66 hr) (xv 3) (xv 1) (xv 2)))))))
abbrev s__law_walk : Stmt := top 62
theorem S__law_walk : FnScope N__law_walk ["_law_rows", "_law_here", "_law_path_here", "_law_mode", "_law_missing"] (defScope s__law_walk) := ⟨rfl, rfl, rfl, by decide +kernel, rfl, by decide +kernel, by decide +kernel⟩
theorem d__law_walk (g : Facts K mg) (c__law_what : FnD Γ P w K mg base 1 "_law_what" 3 f__law_what) {f : Addr} {fd : FuncData} (F : FunD K "_law_walk" "_law_walk" (defArgs s__law_walk) (defBody s__law_walk) (defScope s__law_walk) [] [] f fd) (hx : mg "_law_walk" = some (.ref f)) : FnD Γ P w K mg base 2 "_law_walk" 5 f__law_walk := by
  refine fnD_ofD (ps := ["_law_rows", "_law_here", "_law_path_here", "_law_mode", "_law_missing"]) (m := m__law_walk) F hx S__law_walk (fun _ _ _ _ _ _ us hl => match us, hl with | [_, _, _, _, _], _ => rfl) fun cdv A outer s H E hr => ?_
  exact (dss_cons (ds_par2 (i := 5) (j := 6) rfl S__law_walk.nd rfl rfl (by decide) rfl rfl (dm_dat (de_if (tcmp (op_fEq (De.Room.u66 hr)) (xix ix_fIdx (xv 2) de_int) de_str) (de_tup da_nil) (xv 1)) (dm_dat (xix ix_fIdx (xv 2) de_int) dm_nil)) rfl)
  (dss_cons (ds_for (passes_of rfl) rfl (di_range1 rfl g.n_range (da_cons de_int da_nil)) (dg_name (i := 7) S__law_walk.nd rfl (by first | exact Or.inl rfl | exact Or.inr rfl))
  (dss_cons (ds_if (tcmp (op_fEq (De.Room.u66 hr)) (xv 6) (de_tup da_nil))
  (dss_one (ds_ret (de_tup (da_cons de_str (da_cons (xv 5) da_nil)))))
  dss_nil)
  (dss_cons (ds_par2 (i := 8) (j := 6) rfl S__law_walk.nd rfl rfl (by decide) rfl rfl (dm_dat (xix ix_fIdx (xv 6) de_int) (dm_dat (de_sl sl_fSl (xv 6) (dp_some de_int) dp_none) dm_nil)) rfl)
  (dss_one (ds_if (tcmp (op_fEq (De.Room.u66 hr)) (xv 8) de_str)
  (dss_one (ds_set (i := 5) S__law_walk.nd rfl (by first | exact Or.inl rfl | exact Or.inr rfl) (de_sl sl_fSl (xv 5) dp_none (dp_some (de_neg de_int)))))
  (dss_one (ds_if (tcmp (op_fNe (De.Room.u66 hr)) (xv 8) de_str)
  (dss_cons (ds_set (i := 9) S__law_walk.nd rfl (by first | exact Or.inl rfl | exact Or.inr rfl) (xcall c__law_what hr (da_cons (xv 0) (da_cons (de_op op_fAdd (xv 5) (de_tup (da_cons (xv 8) da_nil))) (da_cons (xv 4) da_nil)))))
  (dss_cons (ds_if (tcmp (op_fEq (De.Room.u66 hr)) (xv 9) de_str)
  (dss_one (ds_ret (de_tup (da_cons (xv 9) (da_cons (de_op op_fAdd (xv 5) (de_tup (da_cons (xv 8) da_nil))) (da_cons (xv 6) da_nil))))))
  dss_nil)
  (dss_cons (ds_if (tcmp (op_fEq (De.Room.u66 hr)) (xv 9) de_str)
  (dss_one (ds_ret (de_tup (da_cons de_str da_nil))))
  dss_nil)
  (dss_cons (ds_if (tcmp (op_fEq (De.Room.u66 hr)) (xv 9) de_str)
  (dss_one (ds_ret (de_if (tcmp (op_fEq (De.Room.u66 hr)) (xv 6) (de_tup da_nil)) (de_tup (da_cons de_str (da_cons (de_op op_fAdd (xv 5) (de_tup (da_cons (xv 8) da_nil))) da_nil))) (de_tup (da_cons de_str da_nil)))))
  dss_nil)
  (dss_one (ds_if (tcmp (op_fEq (De.Room.u66 hr)) (xv 9) de_str)
  (dss_one (ds_set (i := 5) S__law_walk.nd rfl (by first | exact Or.inl rfl | exact Or.inr rfl) (de_op op_fAdd (xv 5) (de_tup (da_cons (xv 8) da_nil)))))
  (dss_one (ds_if (DW.dt (dw_and (tcmp (op_fEq (De.Room.u66 hr)) (xv 6) (de_tup da_nil)) (dw_and1 (tcmp (op_fEq (De.Room.u66 hr)) (xv 3) de_str))))
  (dss_one (ds_ret (de_tup (da_cons de_str (da_cons (de_op op_fAdd (xv 5) (de_tup (da_cons (xv 8) da_nil))) da_nil)))))
  (dss_cons (ds_set (i := 5) S__law_walk.nd rfl (by first | exact Or.inl rfl | exact Or.inr rfl) (de_if (tcmp (op_fEq (De.Room.u66 hr)) (xix ix_fIdx (xv 9) de_int) de_str) (de_tup da_nil) (xv 5)))
  (dss_one (ds_set (i := 6) S__law_walk.nd rfl (by first | exact Or.inl rfl | exact Or.inr rfl) (de_op op_fAdd (xix ix_fIdx (xv 9) de_int) (xv 6)))))))))))))
  dss_nil)))))))
  (dss_one (ds_ret (de_tup (da_cons de_str da_nil))))))
abbrev s__law_places : Stmt := top 63
theorem S__law_places : FnScope N__law_places ["_law_rows"] (defScope s__law_places) := ⟨rfl, rfl, rfl, by decide +kernel, rfl, by decide +kernel, by decide +kernel⟩
theorem d__law_places (g : Facts K mg)  {f : Addr} {fd : FuncData} (F : FunD K "_law_places" "_law_places" (defArgs s__law_places) (defBody s__law_places) (defScope s__law_places) [] [] f fd) (hx : mg "_law_places" = some (.ref f)) : FnD Γ P w K mg base 1 "_law_places" 1 f__law_places := by
  refine fnD_ofD (ps := ["_law_rows"]) (m := m__law_places) F hx S__law_places (fun _ _ _ _ _ _ us hl => match us, hl with | [_], _ => rfl) fun cdv A outer s H E hr => ?_
  exact (dss_one (ds_ret (de_of_do (do_op op_fCat (de_of_do (do_lst (da_cons (de_tup da_nil) da_nil))) (de_of_do (do_lc (own := [("_law_place", 1), ("_law_what_here", 2)]) rfl S__law_places.nd (di_seq (xv 0)) (by show blkC N__law_places (defScope s__law_places) _ _ = true; decide +kernel) (by decide) (fun _ _ _ _ _ => (dg_tup rfl (dgs_cons (i := 1) S__law_places.nd rfl (by first | exact Or.inl rfl | exact Or.inr rfl) (dgs_cons (i := 2) S__law_places.nd rfl (by first | exact Or.inl rfl | exact Or.inr rfl) dgs_nil)))) (fun _ _ _ _ _ => (dts_one (tcmp (op_fEq (De.Room.u66 hr)) (xv 2) de_str))) (fun _ _ _ _ _ => (xv 1))))))))
abbrev s__law_error : Stmt := top 64
theorem S__law_error : FnScope N__law_error ["_law_way", "_law_values"] (defScope s__law_error) := ⟨rfl, rfl, rfl, by decide +kernel, rfl, by decide +kernel, by decide +kernel⟩
theorem d__law_error (g : Facts K mg) (c_naive_walk : FnD Γ P w K mg base 9 "naive_walk" 4 f_naive_walk) (c_naive_endless : FnD Γ P w K mg base 8 "naive_endless" 1 f_naive_endless) {f : Addr} {fd : FuncData} (F : FunD K "_law_error" "_law_error" (defArgs s__law_error) (defBody s__law_error) (defScope s__law_error) [] [] f fd) (hx : mg "_law_error" = some (.ref f)) : FnD Γ P w K mg base 10 "_law_error" 2 f__law_error := by
  refine fnD_ofD (ps := ["_law_way", "_law_values"]) (m := m__law_error) F hx S__law_error (fun _ _ _ _ _ _ us hl => match us, hl with | [_, _], _ => rfl) fun cdv A outer s H E hr => ?_
  exact (dss_cons (ds_try (i := 2) rfl rfl S__law_error.nd rfl rfl ⟨rfl, by decide, .inl g.x_PathError.g⟩ (sub_ok_PathError g) (fun pn xe => (dss_one (ds_if (tcmp (op_fEq (De.Room.u66 hr)) (xv 0) de_int)
  (dss_one (ds_expr (xcall c_naive_walk hr (da_cons (xix ix_fIdx (xv 1) de_int) (da_cons (xix ix_fIdx (xv 1) de_int) (da_cons (xix ix_fIdx (xv 1) de_int) (da_cons (xix ix_fIdx (xv 1) de_int) da_nil)))))))
  (dss_one (ds_expr (xcall c_naive_endless hr (da_cons (xix ix_fIdx (xv 1) de_int) da_nil)))))))
  (fun a oe c C pn h1 h2 hz hd => by
    obtain ⟨EC, EK⟩ := ex_of_PathError g c C h1 h2
    exact (dss_cons (ds_set (i := 3) S__law_error.nd rfl (by first | exact Or.inl rfl | exact Or.inr rfl) (de_of_do (do_lst (da_cons (de_isE (i := 2) EC hz hd g.n_isinstance rfl rfl (by first | exact Or.inl rfl | exact Or.inr (Or.inl rfl) | exact Or.inr (Or.inr rfl)) rfl g.x_InvalidChart.g (EK "InvalidChart" (by decide))) (da_cons (de_isE (i := 2) EC hz hd g.n_isinstance rfl rfl (by first | exact Or.inl rfl | exact Or.inr (Or.inl rfl) | exact Or.inr (Or.inr rfl)) rfl g.x_InvalidAddress.g (EK "InvalidAddress" (by decide))) da_nil)))))
  (dss_one (ds_ret (de_index (de_of_do (do_op op_fCat (xv 3) (de_of_do (do_lst (da_cons (de_isE (i := 2) EC hz hd g.n_isinstance rfl rfl (by first | exact Or.inl rfl | exact Or.inr (Or.inl rfl) | exact Or.inr (Or.inr rfl)) rfl g.x_InvalidPath.g (EK "InvalidPath" (by decide))) (da_cons (de_isE (i := 2) EC hz hd g.n_isinstance rfl rfl (by first | exact Or.inl rfl | exact Or.inr (Or.inl rfl) | exact Or.inr (Or.inr rfl)) rfl g.x_InvalidMode.g (EK "InvalidMode" (by decide))) da_nil)))))) de_bl))))))
  (dss_one (ds_ret de_non)))
abbrev s_law : Stmt := top 65
theorem S_law : FnScope N_law ["_law_script"] (defScope s_law) := ⟨rfl, rfl, rfl, by decide +kernel, rfl, by decide +kernel, by decide +kernel⟩
theorem ok_law (g : Facts K mg) (c_walk : FnD Γ P w K mg base 9 "walk" 4 f_walk) (c_links : FnD Γ P w K mg base 8 "links" 1 f_links) (c_endless : FnD Γ P w K mg base 8 "endless" 1 f_endless) (c_naive_walk : FnD Γ P w K mg base 9 "naive_walk" 4 f_naive_walk) (c_naive_endless : FnD Γ P w K mg base 8 "naive_endless" 1 f_naive_endless) (c__law_drawn : FnD Γ P w K mg base 1 "_law_drawn" 3 f__law_drawn) (c__law_path : FnD Γ P w K mg base 2 "_law_path" 3 f__law_path) (c__law_chart : FnD Γ P w K mg base 3 "_law_chart" 4 f__law_chart) (c__law_walk : FnD Γ P w K mg base 2 "_law_walk" 5 f__law_walk) (c__law_places : FnD Γ P w K mg base 1 "_law_places" 1 f__law_places) (c__law_error : FnD Γ P w K mg base 10 "_law_error" 2 f__law_error) {f : Addr} {fd : FuncData} (F : FunD K "law" "law" (defArgs s_law) (defBody s_law) (defScope s_law) [] [] f fd) : FnOk P w K mg base (L2.CX P w) 11 f fd ["_law_script"] (spD Γ K mg 1 f_law) := by
  refine okD_ofD (ps := ["_law_script"]) (m := m_law) F S_law fun cdv A outer s H E hr => ?_
  exact (dss_cons (ds_parU2 (i := 1) (j := 2) rfl S_law.nd rfl rfl (by first | exact Or.inl rfl | exact Or.inr rfl) (by first | exact Or.inl rfl | exact Or.inr rfl) (by first | exact Or.inl rfl | exact Or.inr rfl) (by first | exact Or.inl rfl | exact Or.inr rfl) (dm_dat (xcall c__law_chart hr (da_cons (xv 0) (da_cons de_int (da_cons de_int (da_cons (de_of_do (do_lst (da_cons de_str (da_cons de_str (da_cons de_str (da_cons de_str (da_cons de_str (da_cons de_str da_nil)))))))) da_nil))))) (dm_dat (de_of_do (do_lst da_nil)) dm_nil)))
  (dss_cons (ds_set (i := 2) S_law.nd rfl (by first | exact Or.inl rfl | exact Or.inr rfl) (xcall c__law_places hr (da_cons (xv 1) da_nil)))
  (dss_cons (ds_for (passes_of rfl) rfl (di_range1 rfl g.n_range (da_cons de_int da_nil)) (dg_name (i := 3) S_law.nd rfl (by first | exact Or.inl rfl | exact Or.inr rfl))
  (dss_cons (ds_par2 (i := 8) (j := 9) rfl S_law.nd rfl rfl (by decide) rfl rfl (dm_dat (xix ix_fIdx (xv 2) (xcall c__law_drawn hr (da_cons (xv 0) (da_cons (de_op op_fAdd de_int (de_op op_fMul de_int (xv 3))) (da_cons (xB call_fLen g.n_len (da_cons (xv 2) da_nil)) da_nil))))) (dm_dat (xcall c__law_path hr (da_cons (xv 0) (da_cons (de_op op_fAdd de_int (de_op op_fMul de_int (xv 3))) (da_cons de_int da_nil)))) dm_nil)) rfl)
  (dss_one (ds_for (passes_of rfl) rfl (di_seq (de_tup (da_cons de_str (da_cons de_str da_nil)))) (dg_name (i := 10) S_law.nd rfl (by first | exact Or.inl rfl | exact Or.inr rfl))
  (dss_cons (ds_set (i := 11) S_law.nd rfl (by first | exact Or.inl rfl | exact Or.inr rfl) (xcall c__law_walk hr (da_cons (xv 1) (da_cons (xv 8) (da_cons (xv 9) (da_cons (xv 10) (da_cons de_str da_nil)))))))
  (dss_one (ds_if (DW.dt (dw_or (tcmp (op_fNe (De.Room.u66 hr)) (xcall c_walk hr (da_cons (xv 1) (da_cons (xv 8) (da_cons (xv 9) (da_cons (xv 10) da_nil))))) (xv 11)) (dw_or1 (tcmp (op_fNe (De.Room.u66 hr)) (xcall c_naive_walk hr (da_cons (xv 1) (da_cons (xv 8) (da_cons (xv 9) (da_cons (xv 10) da_nil))))) (xv 11)))))
  (dss_one (ds_ret de_bl))
  dss_nil)))))))
  (dss_cons (ds_if (tcmp (op_fLt (De.Room.u66 hr)) (xB call_fLen g.n_len (da_cons (xcall c_links hr (da_cons (xv 1) da_nil)) da_nil)) de_int)
  (dss_cons (ds_setLc (i := 11) (own := [("_law_link", 12)]) rfl S_law.nd rfl rfl rfl (di_seq (xcall c_links hr (da_cons (xv 1) da_nil))) (by show blkC N_law (defScope s_law) _ _ = true; decide +kernel) (by decide) (fun _ _ _ _ _ => (dg_name (i := 12) S_law.nd rfl (by first | exact Or.inl rfl | exact Or.inr rfl))) (fun _ _ _ _ _ => (dts_one (tcmp (op_fEq (De.Room.u66 hr)) (xcall c__law_walk hr (da_cons (xv 1) (da_cons (de_tup da_nil) (da_cons (de_tup (da_cons de_str (da_cons (xv 12) da_nil))) (da_cons de_str (da_cons de_str da_nil)))))) (de_tup (da_cons de_str da_nil))))) (fun _ _ _ _ _ => (xv 12)))
  (dss_one (ds_if (DW.dt (dw_or (tcmp (op_fNe (De.Room.u66 hr)) (xcall c_naive_endless hr (da_cons (xv 1) da_nil)) (xv 11)) (dw_or1 (tcmp (op_fNe (De.Room.u66 hr)) (xcall c_endless hr (da_cons (xv 1) da_nil)) (xv 11)))))
  (dss_one (ds_ret de_bl))
  dss_nil)))
  dss_nil)
  (dss_cons (ds_set (i := 4) S_law.nd rfl (by first | exact Or.inl rfl | exact Or.inr rfl) (xix ix_fIdx (de_of_do (do_lst (da_cons de_non (da_cons de_str (da_cons (de_tup (da_cons de_str (da_cons (de_tup da_nil) da_nil))) (da_cons (de_tup (da_cons de_str (da_cons (de_of_do (do_lst (da_cons de_str da_nil))) da_nil))) (da_cons (de_tup (da_cons de_str (da_cons (de_tup (da_cons de_str da_nil)) da_nil))) (da_cons de_int da_nil)))))))) (xcall c__law_drawn hr (da_cons (xv 0) (da_cons de_int (da_cons de_int da_nil))))))
  (dss_cons (ds_set (i := 5) S_law.nd rfl (by first | exact Or.inl rfl | exact Or.inr rfl) (de_of_do (do_lst (da_cons (de_tup (da_cons (de_tup (da_cons (de_tup (da_cons de_str (da_cons de_str da_nil))) (da_cons de_str da_nil))) da_nil)) (da_cons (xix ix_fIdx (de_of_do (do_lst (da_cons (de_tup (da_cons de_str da_nil)) (da_cons de_non (da_cons (de_of_do (do_lst (da_cons de_str da_nil))) (da_cons de_str da_nil)))))) (xcall c__law_drawn hr (da_cons (xv 0) (da_cons de_int (da_cons de_int da_nil))))) da_nil)))))
  (dss_cons (ds_set (i := 5) S_law.nd rfl (by first | exact Or.inl rfl | exact Or.inr rfl) (de_of_do (do_op op_fCat (xv 5) (de_of_do (do_lst (da_cons (xv 4) (da_cons (xix ix_fIdx (de_of_do (do_lst (da_cons de_non (da_cons de_str (da_cons de_str (da_cons de_int da_nil)))))) (xcall c__law_drawn hr (da_cons (xv 0) (da_cons de_int (da_cons de_int da_nil))))) da_nil)))))))
  (dss_cons (ds_par2 (i := 6) (j := 7) rfl S_law.nd rfl rfl (by decide) rfl rfl (dm_dat (de_of_do (do_lst (da_cons (xv 1) (da_cons (de_tup da_nil) (da_cons (de_tup (da_cons de_str (da_cons (de_tup (da_cons de_str da_nil)) da_nil))) (da_cons de_str da_nil)))))) (dm_own (do_lst da_nil) dm_nil)) rfl)
  (dss_cons (ds_for (passes_of rfl) rfl (di_range1 rfl g.n_range (da_cons de_int da_nil)) (dg_name (i := 3) S_law.nd rfl (by first | exact Or.inl rfl | exact Or.inr rfl))
  (dss_one (ds_append (i := 7) (fun W tk => pe_bm PySem.F.plainAttrs_list PySem.F.slot_list_append PySem.F.type_list_append mt_append (pv 7) (pa_cons (De.DE.run (xcall c__law_error hr (da_cons de_int (da_cons (de_of_do (do_op op_fCat (de_of_do (do_sl sl_fSlL (xv 6) dp_none (dp_some (xv 3)))) (de_of_do (do_sl sl_fSlL (xv 5) (dp_some (xv 3)) dp_none)))) da_nil))) W tk) pa_nil)))))
  (dss_one (ds_ret (de_lock 7 (de_and (xcmp (op_fEq (De.Room.u66 hr)) (xv 7) (de_of_do (do_lst (da_cons de_int (da_cons de_int (da_cons de_int (da_cons de_int da_nil))))))) (de_and (xcmp (op_fEq (De.Room.u66 hr)) (xcall c__law_error hr (da_cons de_int (da_cons (xv 5) da_nil))) de_int) (de_one (xcmp op_fIs (xcall c__law_error hr (da_cons de_int (da_cons (xv 6) da_nil))) de_non))))))))))))))))
end
end L67
end

section
set_option Elab.async false
set_option linter.all false
set_option maxRecDepth 100000
set_option maxHeartbeats 0
namespace L67
open PySem PySem.Spec PyProof.Rows L2 De
def D_is_name : He.DefD := ⟨("is_name", none), "is_name", "is_name", defArgs s_is_name, defBody s_is_name, defScope s_is_name, [], []⟩
def D_is_part : He.DefD := ⟨("is_part", none), "is_part", "is_part", defArgs s_is_part, defBody s_is_part, defScope s_is_part, [], []⟩
def D_is_path : He.DefD := ⟨("is_path", none), "is_path", "is_path", defArgs s_is_path, defBody s_is_path, defScope s_is_path, [], []⟩
def D_check_path : He.DefD := ⟨("check_path", none), "check_path", "check_path", defArgs s_check_path, defBody s_check_path, defScope s_check_path, [], []⟩
def D_is_address : He.DefD := ⟨("is_address", none), "is_address", "is_address", defArgs s_is_address, defBody s_is_address, defScope s_is_address, [], []⟩
def D_is_what : He.DefD := ⟨("is_what", none), "is_what", "is_what", defArgs s_is_what, defBody s_is_what, defScope s_is_what, [], []⟩
def D_is_row : He.DefD := ⟨("is_row", none), "is_row", "is_row", defArgs s_is_row, defBody s_is_row, defScope s_is_row, [], []⟩
def D_is_chart : He.DefD := ⟨("is_chart", none), "is_chart", "is_chart", defArgs s_is_chart, defBody s_is_chart, defScope s_is_chart, [], []⟩
def D_check_chart : He.DefD := ⟨("check_chart", none), "check_chart", "check_chart", defArgs s_check_chart, defBody s_check_chart, defScope s_check_chart, [], []⟩
def D_known_at : He.DefD := ⟨("known_at", none), "known_at", "known_at", defArgs s_known_at, defBody s_known_at, defScope s_known_at, [], []⟩
def D_is_directory : He.DefD := ⟨("is_directory", none), "is_directory", "is_directory", defArgs s_is_directory, defBody s_is_directory, defScope s_is_directory, [], []⟩
def D_check_directory : He.DefD := ⟨("check_directory", none), "check_directory", "check_directory", defArgs s_check_directory, defBody s_check_directory, defScope s_check_directory, [], []⟩
def D_check_mode : He.DefD := ⟨("check_mode", none), "check_mode", "check_mode", defArgs s_check_mode, defBody s_check_mode, defScope s_check_mode, [], []⟩
def D_remaining : He.DefD := ⟨("remaining", none), "remaining", "remaining", defArgs s_remaining, defBody s_remaining, defScope s_remaining, [], []⟩
def D_end_at : He.DefD := ⟨("end_at", none), "end_at", "end_at", defArgs s_end_at, defBody s_end_at, defScope s_end_at, [], []⟩
def D_walk_steps : He.DefD := ⟨("walk_steps", none), "walk_steps", "walk_steps", defArgs s_walk_steps, defBody s_walk_steps, defScope s_walk_steps, [], []⟩
def D_check_walk : He.DefD := ⟨("check_walk", none), "check_walk", "check_walk", defArgs s_check_walk, defBody s_check_walk, defScope s_check_walk, [], []⟩
def D_result_of : He.DefD := ⟨("result_of", none), "result_of", "result_of", defArgs s_result_of, defBody s_result_of, defScope s_result_of, [], []⟩
def D_walk : He.DefD := ⟨("walk", none), "walk", "walk", defArgs s_walk, defBody s_walk, defScope s_walk, [], []⟩
def D_is_link : He.DefD := ⟨("is_link", none), "is_link", "is_link", defArgs s_is_link, defBody s_is_link, defScope s_is_link, [], []⟩
def D_find_links : He.DefD := ⟨("find_links", none), "find_links", "find_links", defArgs s_find_links, defBody s_find_links, defScope s_find_links, [], []⟩
def D_links : He.DefD := ⟨("links", none), "links", "links", defArgs s_links, defBody s_links, defScope s_links, [], []⟩
def D_find_end : He.DefD := ⟨("find_end", none), "find_end", "find_end", defArgs s_find_end, defBody s_find_end, defScope s_find_end, [], []⟩
def D_find_endless : He.DefD := ⟨("find_endless", none), "find_endless", "find_endless", defArgs s_find_endless, defBody s_find_endless, defScope s_find_endless, [], []⟩
def D_endless : He.DefD := ⟨("endless", none), "endless", "endless", defArgs s_endless, defBody s_endless, defScope s_endless, [], []⟩
def D_replace_links : He.DefD := ⟨("replace_links", none), "replace_links", "replace_links", defArgs s_replace_links, defBody s_replace_links, defScope s_replace_links, [], []⟩
def D_naive_walk : He.DefD := ⟨("naive_walk", none), "naive_walk", "naive_walk", defArgs s_naive_walk, defBody s_naive_walk, defScope s_naive_walk, [], []⟩
def D_naive_endless : He.DefD := ⟨("naive_endless", none), "naive_endless", "naive_endless", defArgs s_naive_endless, defBody s_naive_endless, defScope s_naive_endless, [], []⟩
def D__law_drawn : He.DefD := ⟨("_law_drawn", none), "_law_drawn", "_law_drawn", defArgs s__law_drawn, defBody s__law_drawn, defScope s__law_drawn, [], []⟩
def D__law_path : He.DefD := ⟨("_law_path", none), "_law_path", "_law_path", defArgs s__law_path, defBody s__law_path, defScope s__law_path, [], []⟩
def D__law_key : He.DefD := ⟨("_law_key", none), "_law_key", "_law_key", defArgs s__law_key, defBody s__law_key, defScope s__law_key, [], []⟩
def D__law_chart : He.DefD := ⟨("_law_chart", none), "_law_chart", "_law_chart", defArgs s__law_chart, defBody s__law_chart, defScope s__law_chart, [], []⟩
def D__law_what : He.DefD := ⟨("_law_what", none), "_law_what", "_law_what", defArgs s__law_what, defBody s__law_what, defScope s__law_what, [], []⟩
def D__law_walk : He.DefD := ⟨("_law_walk", none), "_law_walk", "_law_walk", defArgs s__law_walk, defBody s__law_walk, defScope s__law_walk, [], []⟩
def D__law_places : He.DefD := ⟨("_law_places", none), "_law_places", "_law_places", defArgs s__law_places, defBody s__law_places, defScope s__law_places, [], []⟩
def D__law_error : He.DefD := ⟨("_law_error", none), "_law_error", "_law_error", defArgs s__law_error, defBody s__law_error, defScope s__law_error, [], []⟩
def D_law : He.DefD := ⟨("law", none), "law", "law", defArgs s_law, defBody s_law, defScope s_law, [], []⟩
def fn : List He.DefD := [D_is_name, D_is_part, D_is_path, D_check_path, D_is_address, D_is_what, D_is_row, D_is_chart, D_check_chart, D_known_at, D_is_directory, D_check_directory, D_check_mode, D_remaining, D_end_at, D_walk_steps, D_check_walk, D_result_of, D_walk, D_is_link, D_find_links, D_links, D_find_end, D_find_endless, D_endless, D_replace_links, D_naive_walk, D_naive_endless, D__law_drawn, D__law_path, D__law_key, D__law_chart, D__law_what, D__law_walk, D__law_places, D__law_error, D_law]
def fa : List He.Fa := [.glo "is_name", .glo "is_part", .glo "is_path", .glo "check_path", .glo "is_address", .glo "is_what", .glo "is_row", .glo "is_chart", .glo "check_chart", .glo "known_at", .glo "is_directory", .glo "check_directory", .glo "check_mode", .glo "remaining", .glo "end_at", .glo "walk_steps", .glo "check_walk", .glo "result_of", .glo "walk", .glo "is_link", .glo "find_links", .glo "links", .glo "find_end", .glo "find_endless", .glo "endless", .glo "replace_links", .glo "naive_walk", .glo "naive_endless", .glo "_law_drawn", .glo "_law_path", .glo "_law_key", .glo "_law_chart", .glo "_law_what", .glo "_law_walk", .glo "_law_places", .glo "_law_error", .glo "law", .free "all", .free "dict", .free "isinstance", .free "len", .free "list", .free "range", .free "sorted", .free "str", .free "tuple", .free "zip", .str "ABSENT" "absent", .str "DIRECTORY" "dir", .str "FILE" "file", .str "FOLLOW" "follow", .str "FOUND" "found", .str "KEEP" "keep", .str "LETTERS" "abcdefghijklmnopqrstuvwxyz", .int "MAX_DEPTH" 30, .int "MAX_NAME" 3, .int "MAX_PARTS" 12, .int "MAX_REPLACED" 3000, .int "MAX_ROWS" 60, .str "ROOT" "/", .str "SELF" ".", .str "UNKNOWN" "unknown", .str "UP" "..", .glo "InvalidAddress", .exc "InvalidAddress", .glo "InvalidChart", .exc "InvalidChart", .glo "InvalidMode", .exc "InvalidMode", .glo "InvalidPath", .exc "InvalidPath", .glo "PathError", .exc "PathError", .exm "InvalidPath" "PathError" true, .exm "InvalidChart" "PathError" true, .exm "InvalidAddress" "PathError" true, .exm "InvalidMode" "PathError" true]
def cs : List (Str × Str) := [("LOOP", "loop")]
abbrev R : PySem.W.OpenRow := PySem.W.OpenLaw.row PySem.Challenge.rw_everytree_k67_whole_naive
def tf : List He.Defn := []
def qn (p : He.Defn) : Str := (p.1 ++ ".<locals>.") ++ "<lambda>"
abbrev hk : PySem.W.Hook := hookC 5 fa fn tf cs es
def ob (s : PySem.W.SharedT) : He.AlX := obsCG 5 fa fn tf cs es (HandSHeadRun.getT s)
theorem ob_eq (s : PySem.W.SharedT) : ob s = hk.obs s.abs := obsCG_eq (HandSHeadRun.getT_eq s)
def names0 : List PySem.Str := ["PathError", "InvalidPath", "InvalidChart", "InvalidAddress", "InvalidMode", "MAX_PARTS", "MAX_NAME", "LETTERS", "SELF", "UP", "ROOT", "is_name"]
def names1 : List PySem.Str := ["is_part", "is_path", "check_path", "MAX_ROWS", "MAX_DEPTH", "DIRECTORY", "FILE", "ABSENT", "UNKNOWN", "is_address", "is_what", "is_row"]
def names2 : List PySem.Str := ["is_chart", "check_chart", "known_at", "is_directory", "check_directory", "FOLLOW", "KEEP", "FOUND", "LOOP", "check_mode", "remaining", "end_at"]
def names3 : List PySem.Str := ["walk_steps", "check_walk", "result_of", "walk", "is_link", "find_links", "links", "find_end", "find_endless", "endless", "MAX_REPLACED", "replace_links"]
def names4 : List PySem.Str := ["naive_walk", "naive_endless", "_law_drawn", "_law_path", "_law_key", "_law_chart", "_law_what", "_law_walk", "_law_places", "_law_error"]
def names : List PySem.Str := names0 ++ names1 ++ names2 ++ names3 ++ names4
theorem run (w : World) : HandSHeadRun.RunEq R (PySem.W.view R.prog [65]) hk ob 6000 names w := by
  intro os
  kernel_rfl
theorem facts {w : World} {K : PySem.W.Frag} {h : Heap} {mg : Str → Option Value} (X : K.In h) (G : h.Ns mainGlobals mg) (c : SaysC fa fn tf cs es w h K) : Facts K mg where
  x_InvalidAddress := ⟨He.glo_ok X G ((saysC_d c).fact 63 (f := .glo "InvalidAddress") rfl), (He.exc_ok ((saysC_d c).fact 64 (f := .exc "InvalidAddress") rfl)).1, (He.exc_ok ((saysC_d c).fact 64 (f := .exc "InvalidAddress") rfl)).2.1, (He.exc_ok ((saysC_d c).fact 64 (f := .exc "InvalidAddress") rfl)).2.2.1, (He.exc_ok ((saysC_d c).fact 64 (f := .exc "InvalidAddress") rfl)).2.2.2⟩
  x_InvalidChart := ⟨He.glo_ok X G ((saysC_d c).fact 65 (f := .glo "InvalidChart") rfl), (He.exc_ok ((saysC_d c).fact 66 (f := .exc "InvalidChart") rfl)).1, (He.exc_ok ((saysC_d c).fact 66 (f := .exc "InvalidChart") rfl)).2.1, (He.exc_ok ((saysC_d c).fact 66 (f := .exc "InvalidChart") rfl)).2.2.1, (He.exc_ok ((saysC_d c).fact 66 (f := .exc "InvalidChart") rfl)).2.2.2⟩
  x_InvalidMode := ⟨He.glo_ok X G ((saysC_d c).fact 67 (f := .glo "InvalidMode") rfl), (He.exc_ok ((saysC_d c).fact 68 (f := .exc "InvalidMode") rfl)).1, (He.exc_ok ((saysC_d c).fact 68 (f := .exc "InvalidMode") rfl)).2.1, (He.exc_ok ((saysC_d c).fact 68 (f := .exc "InvalidMode") rfl)).2.2.1, (He.exc_ok ((saysC_d c).fact 68 (f := .exc "InvalidMode") rfl)).2.2.2⟩
  x_InvalidPath := ⟨He.glo_ok X G ((saysC_d c).fact 69 (f := .glo "InvalidPath") rfl), (He.exc_ok ((saysC_d c).fact 70 (f := .exc "InvalidPath") rfl)).1, (He.exc_ok ((saysC_d c).fact 70 (f := .exc "InvalidPath") rfl)).2.1, (He.exc_ok ((saysC_d c).fact 70 (f := .exc "InvalidPath") rfl)).2.2.1, (He.exc_ok ((saysC_d c).fact 70 (f := .exc "InvalidPath") rfl)).2.2.2⟩
  x_PathError := ⟨He.glo_ok X G ((saysC_d c).fact 71 (f := .glo "PathError") rfl), (He.exc_ok ((saysC_d c).fact 72 (f := .exc "PathError") rfl)).1, (He.exc_ok ((saysC_d c).fact 72 (f := .exc "PathError") rfl)).2.1, (He.exc_ok ((saysC_d c).fact 72 (f := .exc "PathError") rfl)).2.2.1, (He.exc_ok ((saysC_d c).fact 72 (f := .exc "PathError") rfl)).2.2.2⟩
  m_PathError_InvalidPath := He.exm_ok ((saysC_d c).fact 73 (f := .exm "InvalidPath" "PathError" true) rfl)
  m_PathError_InvalidChart := He.exm_ok ((saysC_d c).fact 74 (f := .exm "InvalidChart" "PathError" true) rfl)
  m_PathError_InvalidAddress := He.exm_ok ((saysC_d c).fact 75 (f := .exm "InvalidAddress" "PathError" true) rfl)
  m_PathError_InvalidMode := He.exm_ok ((saysC_d c).fact 76 (f := .exm "InvalidMode" "PathError" true) rfl)
  k_PathError := fun z hz => ⟨rfl, excB_of c.more hz⟩
  c_ABSENT := glob_str X G ((saysC_d c).fact 47 (f := .str "ABSENT" "absent") rfl)
  c_DIRECTORY := glob_str X G ((saysC_d c).fact 48 (f := .str "DIRECTORY" "dir") rfl)
  c_FILE := glob_str X G ((saysC_d c).fact 49 (f := .str "FILE" "file") rfl)
  c_FOLLOW := glob_str X G ((saysC_d c).fact 50 (f := .str "FOLLOW" "follow") rfl)
  c_FOUND := glob_str X G ((saysC_d c).fact 51 (f := .str "FOUND" "found") rfl)
  c_KEEP := glob_str X G ((saysC_d c).fact 52 (f := .str "KEEP" "keep") rfl)
  c_LETTERS := glob_str X G ((saysC_d c).fact 53 (f := .str "LETTERS" "abcdefghijklmnopqrstuvwxyz") rfl)
  c_LOOP := glob_tup X G (saysC_con c 0 rfl) (by decide +kernel)
  c_MAX_DEPTH := glob_int X G ((saysC_d c).fact 54 (f := .int "MAX_DEPTH" 30) rfl)
  c_MAX_NAME := glob_int X G ((saysC_d c).fact 55 (f := .int "MAX_NAME" 3) rfl)
  c_MAX_PARTS := glob_int X G ((saysC_d c).fact 56 (f := .int "MAX_PARTS" 12) rfl)
  c_MAX_REPLACED := glob_int X G ((saysC_d c).fact 57 (f := .int "MAX_REPLACED" 3000) rfl)
  c_MAX_ROWS := glob_int X G ((saysC_d c).fact 58 (f := .int "MAX_ROWS" 60) rfl)
  c_ROOT := glob_str X G ((saysC_d c).fact 59 (f := .str "ROOT" "/") rfl)
  c_SELF := glob_str X G ((saysC_d c).fact 60 (f := .str "SELF" ".") rfl)
  c_UNKNOWN := glob_str X G ((saysC_d c).fact 61 (f := .str "UNKNOWN" "unknown") rfl)
  c_UP := glob_str X G ((saysC_d c).fact 62 (f := .str "UP" "..") rfl)
  n_all := He.free_ok X G ((saysC_d c).fact 37 (f := .free "all") rfl)
  n_dict := He.free_ok X G ((saysC_d c).fact 38 (f := .free "dict") rfl)
  n_isinstance := He.free_ok X G ((saysC_d c).fact 39 (f := .free "isinstance") rfl)
  n_len := He.free_ok X G ((saysC_d c).fact 40 (f := .free "len") rfl)
  n_list := He.free_ok X G ((saysC_d c).fact 41 (f := .free "list") rfl)
  n_range := He.free_ok X G ((saysC_d c).fact 42 (f := .free "range") rfl)
  n_sorted := He.free_ok X G ((saysC_d c).fact 43 (f := .free "sorted") rfl)
  n_str := He.free_ok X G ((saysC_d c).fact 44 (f := .free "str") rfl)
  n_tuple := He.free_ok X G ((saysC_d c).fact 45 (f := .free "tuple") rfl)
  n_zip := He.free_ok X G ((saysC_d c).fact 46 (f := .free "zip") rfl)
theorem law_ok {P : Program} {w : World} {K : PySem.W.Frag} {h : Heap} {mg : Str → Option Value} {f : Addr} (X : K.In h) (G : h.Ns mainGlobals mg) (hfa : mg ("law" : Str) = some (.ref f)) (c : SaysC fa fn tf cs es w h K) :
    ∃ fd : FuncData, (∀ (s : Shared) (v : Value), BindsTo s fd ⟨[v], []⟩ [("_law_script", v)]) ∧ ∀ base : Heap, (∀ p ∈ tf.map (He.cT K), LamX.TabB base mg p.1 p.2) → FnOk P w K mg base (L2.CX P w) 11 f fd ["_law_script"] (spD (tbsOf K tf qn) K mg 1 f_law) := by
  have nd := tabsNd_of c.more
  have g := facts X G c
  obtain ⟨fd0, F0⟩ := (saysC_d c).def_ 0 (d := D_is_name) rfl
  have g0 : mg "is_name" = some (.ref (He.fAd K (D_is_name).at_)) := He.glo_ok X G ((saysC_d c).fact 0 (f := .glo "is_name") rfl)
  obtain ⟨fd1, F1⟩ := (saysC_d c).def_ 1 (d := D_is_part) rfl
  have g1 : mg "is_part" = some (.ref (He.fAd K (D_is_part).at_)) := He.glo_ok X G ((saysC_d c).fact 1 (f := .glo "is_part") rfl)
  obtain ⟨fd2, F2⟩ := (saysC_d c).def_ 2 (d := D_is_path) rfl
  have g2 : mg "is_path" = some (.ref (He.fAd K (D_is_path).at_)) := He.glo_ok X G ((saysC_d c).fact 2 (f := .glo "is_path") rfl)
  obtain ⟨fd3, F3⟩ := (saysC_d c).def_ 3 (d := D_check_path) rfl
  have g3 : mg "check_path" = some (.ref (He.fAd K (D_check_path).at_)) := He.glo_ok X G ((saysC_d c).fact 3 (f := .glo "check_path") rfl)
  obtain ⟨fd4, F4⟩ := (saysC_d c).def_ 4 (d := D_is_address) rfl
  have g4 : mg "is_address" = some (.ref (He.fAd K (D_is_address).at_)) := He.glo_ok X G ((saysC_d c).fact 4 (f := .glo "is_address") rfl)
  obtain ⟨fd5, F5⟩ := (saysC_d c).def_ 5 (d := D_is_what) rfl
  have g5 : mg "is_what" = some (.ref (He.fAd K (D_is_what).at_)) := He.glo_ok X G ((saysC_d c).fact 5 (f := .glo "is_what") rfl)
  obtain ⟨fd6, F6⟩ := (saysC_d c).def_ 6 (d := D_is_row) rfl
  have g6 : mg "is_row" = some (.ref (He.fAd K (D_is_row).at_)) := He.glo_ok X G ((saysC_d c).fact 6 (f := .glo "is_row") rfl)
  obtain ⟨fd7, F7⟩ := (saysC_d c).def_ 7 (d := D_is_chart) rfl
  have g7 : mg "is_chart" = some (.ref (He.fAd K (D_is_chart).at_)) := He.glo_ok X G ((saysC_d c).fact 7 (f := .glo "is_chart") rfl)
  obtain ⟨fd8, F8⟩ := (saysC_d c).def_ 8 (d := D_check_chart) rfl
  have g8 : mg "check_chart" = some (.ref (He.fAd K (D_check_chart).at_)) := He.glo_ok X G ((saysC_d c).fact 8 (f := .glo "check_chart") rfl)
  obtain ⟨fd9, F9⟩ := (saysC_d c).def_ 9 (d := D_known_at) rfl
  have g9 : mg "known_at" = some (.ref (He.fAd K (D_known_at).at_)) := He.glo_ok X G ((saysC_d c).fact 9 (f := .glo "known_at") rfl)
  obtain ⟨fd10, F10⟩ := (saysC_d c).def_ 10 (d := D_is_directory) rfl
  have g10 : mg "is_directory" = some (.ref (He.fAd K (D_is_directory).at_)) := He.glo_ok X G ((saysC_d c).fact 10 (f := .glo "is_directory") rfl)
  obtain ⟨fd11, F11⟩ := (saysC_d c).def_ 11 (d := D_check_directory) rfl
  have g11 : mg "check_directory" = some (.ref (He.fAd K (D_check_directory).at_)) := He.glo_ok X G ((saysC_d c).fact 11 (f := .glo "check_directory") rfl)
  obtain ⟨fd12, F12⟩ := (saysC_d c).def_ 12 (d := D_check_mode) rfl
  have g12 : mg "check_mode" = some (.ref (He.fAd K (D_check_mode).at_)) := He.glo_ok X G ((saysC_d c).fact 12 (f := .glo "check_mode") rfl)
  obtain ⟨fd13, F13⟩ := (saysC_d c).def_ 13 (d := D_remaining) rfl
  have g13 : mg "remaining" = some (.ref (He.fAd K (D_remaining).at_)) := He.glo_ok X G ((saysC_d c).fact 13 (f := .glo "remaining") rfl)
  obtain ⟨fd14, F14⟩ := (saysC_d c).def_ 14 (d := D_end_at) rfl
  have g14 : mg "end_at" = some (.ref (He.fAd K (D_end_at).at_)) := He.glo_ok X G ((saysC_d c).fact 14 (f := .glo "end_at") rfl)
  obtain ⟨fd15, F15⟩ := (saysC_d c).def_ 15 (d := D_walk_steps) rfl
  have g15 : mg "walk_steps" = some (.ref (He.fAd K (D_walk_steps).at_)) := He.glo_ok X G ((saysC_d c).fact 15 (f := .glo "walk_steps") rfl)
  obtain ⟨fd16, F16⟩ := (saysC_d c).def_ 16 (d := D_check_walk) rfl
  have g16 : mg "check_walk" = some (.ref (He.fAd K (D_check_walk).at_)) := He.glo_ok X G ((saysC_d c).fact 16 (f := .glo "check_walk") rfl)
  obtain ⟨fd17, F17⟩ := (saysC_d c).def_ 17 (d := D_result_of) rfl
  have g17 : mg "result_of" = some (.ref (He.fAd K (D_result_of).at_)) := He.glo_ok X G ((saysC_d c).fact 17 (f := .glo "result_of") rfl)
  obtain ⟨fd18, F18⟩ := (saysC_d c).def_ 18 (d := D_walk) rfl
  have g18 : mg "walk" = some (.ref (He.fAd K (D_walk).at_)) := He.glo_ok X G ((saysC_d c).fact 18 (f := .glo "walk") rfl)
  obtain ⟨fd19, F19⟩ := (saysC_d c).def_ 19 (d := D_is_link) rfl
  have g19 : mg "is_link" = some (.ref (He.fAd K (D_is_link).at_)) := He.glo_ok X G ((saysC_d c).fact 19 (f := .glo "is_link") rfl)
  obtain ⟨fd20, F20⟩ := (saysC_d c).def_ 20 (d := D_find_links) rfl
  have g20 : mg "find_links" = some (.ref (He.fAd K (D_find_links).at_)) := He.glo_ok X G ((saysC_d c).fact 20 (f := .glo "find_links") rfl)
  obtain ⟨fd21, F21⟩ := (saysC_d c).def_ 21 (d := D_links) rfl
  have g21 : mg "links" = some (.ref (He.fAd K (D_links).at_)) := He.glo_ok X G ((saysC_d c).fact 21 (f := .glo "links") rfl)
  obtain ⟨fd22, F22⟩ := (saysC_d c).def_ 22 (d := D_find_end) rfl
  have g22 : mg "find_end" = some (.ref (He.fAd K (D_find_end).at_)) := He.glo_ok X G ((saysC_d c).fact 22 (f := .glo "find_end") rfl)
  obtain ⟨fd23, F23⟩ := (saysC_d c).def_ 23 (d := D_find_endless) rfl
  have g23 : mg "find_endless" = some (.ref (He.fAd K (D_find_endless).at_)) := He.glo_ok X G ((saysC_d c).fact 23 (f := .glo "find_endless") rfl)
  obtain ⟨fd24, F24⟩ := (saysC_d c).def_ 24 (d := D_endless) rfl
  have g24 : mg "endless" = some (.ref (He.fAd K (D_endless).at_)) := He.glo_ok X G ((saysC_d c).fact 24 (f := .glo "endless") rfl)
  obtain ⟨fd25, F25⟩ := (saysC_d c).def_ 25 (d := D_replace_links) rfl
  have g25 : mg "replace_links" = some (.ref (He.fAd K (D_replace_links).at_)) := He.glo_ok X G ((saysC_d c).fact 25 (f := .glo "replace_links") rfl)
  obtain ⟨fd26, F26⟩ := (saysC_d c).def_ 26 (d := D_naive_walk) rfl
  have g26 : mg "naive_walk" = some (.ref (He.fAd K (D_naive_walk).at_)) := He.glo_ok X G ((saysC_d c).fact 26 (f := .glo "naive_walk") rfl)
  obtain ⟨fd27, F27⟩ := (saysC_d c).def_ 27 (d := D_naive_endless) rfl
  have g27 : mg "naive_endless" = some (.ref (He.fAd K (D_naive_endless).at_)) := He.glo_ok X G ((saysC_d c).fact 27 (f := .glo "naive_endless") rfl)
  obtain ⟨fd28, F28⟩ := (saysC_d c).def_ 28 (d := D__law_drawn) rfl
  have g28 : mg "_law_drawn" = some (.ref (He.fAd K (D__law_drawn).at_)) := He.glo_ok X G ((saysC_d c).fact 28 (f := .glo "_law_drawn") rfl)
  obtain ⟨fd29, F29⟩ := (saysC_d c).def_ 29 (d := D__law_path) rfl
  have g29 : mg "_law_path" = some (.ref (He.fAd K (D__law_path).at_)) := He.glo_ok X G ((saysC_d c).fact 29 (f := .glo "_law_path") rfl)
  obtain ⟨fd30, F30⟩ := (saysC_d c).def_ 30 (d := D__law_key) rfl
  have g30 : mg "_law_key" = some (.ref (He.fAd K (D__law_key).at_)) := He.glo_ok X G ((saysC_d c).fact 30 (f := .glo "_law_key") rfl)
  obtain ⟨fd31, F31⟩ := (saysC_d c).def_ 31 (d := D__law_chart) rfl
  have g31 : mg "_law_chart" = some (.ref (He.fAd K (D__law_chart).at_)) := He.glo_ok X G ((saysC_d c).fact 31 (f := .glo "_law_chart") rfl)
  obtain ⟨fd32, F32⟩ := (saysC_d c).def_ 32 (d := D__law_what) rfl
  have g32 : mg "_law_what" = some (.ref (He.fAd K (D__law_what).at_)) := He.glo_ok X G ((saysC_d c).fact 32 (f := .glo "_law_what") rfl)
  obtain ⟨fd33, F33⟩ := (saysC_d c).def_ 33 (d := D__law_walk) rfl
  have g33 : mg "_law_walk" = some (.ref (He.fAd K (D__law_walk).at_)) := He.glo_ok X G ((saysC_d c).fact 33 (f := .glo "_law_walk") rfl)
  obtain ⟨fd34, F34⟩ := (saysC_d c).def_ 34 (d := D__law_places) rfl
  have g34 : mg "_law_places" = some (.ref (He.fAd K (D__law_places).at_)) := He.glo_ok X G ((saysC_d c).fact 34 (f := .glo "_law_places") rfl)
  obtain ⟨fd35, F35⟩ := (saysC_d c).def_ 35 (d := D__law_error) rfl
  have g35 : mg "_law_error" = some (.ref (He.fAd K (D__law_error).at_)) := He.glo_ok X G ((saysC_d c).fact 35 (f := .glo "_law_error") rfl)
  obtain ⟨fd36, F36⟩ := (saysC_d c).def_ 36 (d := D_law) rfl
  have g36 : mg "law" = some (.ref (He.fAd K (D_law).at_)) := He.glo_ok X G ((saysC_d c).fact 36 (f := .glo "law") rfl)
  have e := hfa.symm.trans g36
  cases e
  refine ⟨fd36, fun s v => FunD.bindsA (ps := ["_law_script"]) F36 (fun _ _ _ _ _ _ us hl => match us, hl with | [_], _ => rfl) s [v] rfl, fun base tb => ?_⟩
  have c_is_name : FnD (tbsOf K tf qn) P w K mg base 1 "is_name" 1 f_is_name := d_is_name g  F0 g0
  have c_is_part : FnD (tbsOf K tf qn) P w K mg base 2 "is_part" 1 f_is_part := d_is_part g c_is_name F1 g1
  have c_is_path : FnD (tbsOf K tf qn) P w K mg base 3 "is_path" 1 f_is_path := d_is_path g c_is_part F2 g2
  have c_check_path : FnD (tbsOf K tf qn) P w K mg base 4 "check_path" 1 f_check_path := d_check_path g c_is_path F3 g3
  have c_is_address : FnD (tbsOf K tf qn) P w K mg base 2 "is_address" 1 f_is_address := d_is_address g c_is_name F4 g4
  have c_is_what : FnD (tbsOf K tf qn) P w K mg base 4 "is_what" 1 f_is_what := d_is_what g c_is_path F5 g5
  have c_is_row : FnD (tbsOf K tf qn) P w K mg base 5 "is_row" 1 f_is_row := d_is_row g c_is_address c_is_what F6 g6
  have c_is_chart : FnD (tbsOf K tf qn) P w K mg base 6 "is_chart" 1 f_is_chart := d_is_chart g c_is_row F7 g7
  have c_check_chart : FnD (tbsOf K tf qn) P w K mg base 7 "check_chart" 1 f_check_chart := d_check_chart g c_is_chart F8 g8
  have c_known_at : FnD (tbsOf K tf qn) P w K mg base 1 "known_at" 2 f_known_at := d_known_at g  F9 g9
  have c_is_directory : FnD (tbsOf K tf qn) P w K mg base 3 "is_directory" 2 f_is_directory := d_is_directory g c_is_address c_known_at F10 g10
  have c_check_directory : FnD (tbsOf K tf qn) P w K mg base 4 "check_directory" 2 f_check_directory := d_check_directory g c_is_directory F11 g11
  have c_check_mode : FnD (tbsOf K tf qn) P w K mg base 1 "check_mode" 1 f_check_mode := d_check_mode g  F12 g12
  have c_remaining : FnD (tbsOf K tf qn) P w K mg base 1 "remaining" 1 f_remaining := d_remaining g  F13 g13
  have c_end_at : FnD (tbsOf K tf qn) P w K mg base 2 "end_at" 4 f_end_at := d_end_at g c_remaining F14 g14
  have c_walk_steps : FnD (tbsOf K tf qn) P w K mg base 3 "walk_steps" 5 f_walk_steps := d_walk_steps g c_known_at c_end_at F15 g15
  have c_check_walk : FnD (tbsOf K tf qn) P w K mg base 8 "check_walk" 4 f_check_walk := d_check_walk g c_check_path c_check_chart c_check_directory c_check_mode F16 g16
  have c_result_of : FnD (tbsOf K tf qn) P w K mg base 4 "result_of" 4 f_result_of := d_result_of g c_walk_steps F17 g17
  have c_walk : FnD (tbsOf K tf qn) P w K mg base 9 "walk" 4 f_walk := d_walk g c_check_walk c_result_of F18 g18
  have c_is_link : FnD (tbsOf K tf qn) P w K mg base 1 "is_link" 1 f_is_link := d_is_link g  F19 g19
  have c_find_links : FnD (tbsOf K tf qn) P w K mg base 2 "find_links" 1 f_find_links := d_find_links g c_is_link F20 g20
  have c_links : FnD (tbsOf K tf qn) P w K mg base 8 "links" 1 f_links := d_links g c_check_chart c_find_links F21 g21
  have c_find_end : FnD (tbsOf K tf qn) P w K mg base 5 "find_end" 2 f_find_end := d_find_end g c_result_of F22 g22
  have c_find_endless : FnD (tbsOf K tf qn) P w K mg base 6 "find_endless" 1 f_find_endless := d_find_endless g c_find_links c_find_end F23 g23
  have c_endless : FnD (tbsOf K tf qn) P w K mg base 8 "endless" 1 f_endless := d_endless g c_check_chart c_find_endless F24 g24
  have c_replace_links : FnD (tbsOf K tf qn) P w K mg base 2 "replace_links" 4 f_replace_links := d_replace_links g c_known_at F25 g25
  have c_naive_walk : FnD (tbsOf K tf qn) P w K mg base 9 "naive_walk" 4 f_naive_walk := d_naive_walk g c_check_walk c_replace_links F26 g26
  have c_naive_endless : FnD (tbsOf K tf qn) P w K mg base 8 "naive_endless" 1 f_naive_endless := d_naive_endless g c_check_chart c_find_links c_replace_links F27 g27
  have c__law_drawn : FnD (tbsOf K tf qn) P w K mg base 1 "_law_drawn" 3 f__law_drawn := d__law_drawn g  F28 g28
  have c__law_path : FnD (tbsOf K tf qn) P w K mg base 2 "_law_path" 3 f__law_path := d__law_path g c__law_drawn F29 g29
  have c__law_key : FnD (tbsOf K tf qn) P w K mg base 1 "_law_key" 1 f__law_key := d__law_key g  F30 g30
  have c__law_chart : FnD (tbsOf K tf qn) P w K mg base 3 "_law_chart" 4 f__law_chart := d__law_chart g F30 g30 c__law_drawn c__law_path F31 g31
  have c__law_what : FnD (tbsOf K tf qn) P w K mg base 1 "_law_what" 3 f__law_what := d__law_what g  F32 g32
  have c__law_walk : FnD (tbsOf K tf qn) P w K mg base 2 "_law_walk" 5 f__law_walk := d__law_walk g c__law_what F33 g33
  have c__law_places : FnD (tbsOf K tf qn) P w K mg base 1 "_law_places" 1 f__law_places := d__law_places g  F34 g34
  have c__law_error : FnD (tbsOf K tf qn) P w K mg base 10 "_law_error" 2 f__law_error := d__law_error g c_naive_walk c_naive_endless F35 g35
  exact ok_law g c_walk c_links c_endless c_naive_walk c_naive_endless c__law_drawn c__law_path c__law_chart c__law_walk c__law_places c__law_error F36
end L67
open PySem PySem.W PySem.Calls PyProof.Rows
theorem holds_of (hlaw : ∀ ns : List Int, ns.length ≤ 63 → L67.f_law [De.scrD ns] = .ok (.bool true)) : (PySem.Challenge.rw_everytree_k67_whole_naive).Holds := by
  w_on; o_law
  refine HandSHeadRun.head_any (r := OpenLaw.row PySem.Challenge.rw_everytree_k67_whole_naive) (q := view (OpenLaw.row PySem.Challenge.rw_everytree_k67_whole_naive).prog [65]) (H := L67.hk) (ob := L67.ob) (M := 6000) (loose := L67.names) (d := HandSHeadRun.topDef (OpenLaw.row PySem.Challenge.rw_everytree_k67_whole_naive).prog 65) (kwd := []) L67.ob_eq
    (by kernel_rfl) (fun s => by kernel_rfl) L67.run (by kernel_rfl) (by kernel_rfl) (by kernel_rfl) (by rfl) (by first | assumption | decide +kernel) (by decide +kernel) ⟨rfl, rfl, rfl, rfl, rfl, by decide +kernel⟩ ?hw ?hc
  case hw => w_witness2
  case hc =>
    refine De.walk_ofC (l := PySem.Challenge.rw_everytree_k67_whole_naive) (n := 63) (k := 11) (x := "_law_script") (CX := fun w => L2.CX (PySem.Challenge.rw_everytree_k67_whole_naive).prog w) rfl (by decide) (by kernel_rfl) ⟨rfl, by decide, by decide⟩ ?F (fun w H s e s' z => De.cx_none _ _ _ _ _ _ z)
    intro w mg fa h Y G hmg0
    obtain ⟨K, KX, c⟩ := Y
    have hmg : mg ("law" : PySem.Str) = some (.ref fa) := by
      have e : (HandSHeadRun.topDef (OpenLaw.row PySem.Challenge.rw_everytree_k67_whole_naive).prog 65).name = ("law" : PySem.Str) := by kernel_rfl
      rw [← e]
      exact hmg0
    obtain ⟨fd, hb, hF⟩ := L67.law_ok (P := (PySem.Challenge.rw_everytree_k67_whole_naive).prog) (w := w) KX G hmg c
    refine ⟨K, KX, fd, L67.tf.map (He.cT K), De.spD (De.tbsOf K L67.tf L67.qn) K mg 1 L67.f_law, fun p hp => ?_, fun p hp => ?_, fun p hp => ?_, hb, fun H a ns hl _ hT hS => De.law_sp hlaw H (fun p hp => ?_) a ns hl hS, fun base X2 _ tb => hF base tb⟩
    · obtain ⟨d, hd, rfl⟩ := List.mem_map.mp hp
      exact c.empty d hd
    · obtain ⟨d, hd, rfl⟩ := List.mem_map.mp hp
      exact c.out d hd
    · obtain ⟨d, hd, rfl⟩ := List.mem_map.mp hp
      exact PySem.W.codeHd_of_K KX (c.hd d hd)
    · obtain ⟨d, hd, rfl⟩ := List.mem_map.mp hp
      exact hT _ (List.mem_map.mpr ⟨d, hd, rfl⟩)
end

section
set_option Elab.async false
set_option linter.all false
set_option maxRecDepth 100000
/-! Nv: walks in plain Lean: the naive replacing of links, its limit, parts put together, longer charts, normal forms, frames. -/
namespace Nv
open PySem
inductive Wh where
  | dir | file | absent | link (abs : Bool) (ps : List Str)
  deriving DecidableEq
inductive WEnd where
  | found (a : List Str) | missing | file | unk (a rest : List Str) | loop
  deriving DecidableEq
abbrev Look := List Str → Option Wh
abbrev sU : Str := ".."
abbrev sD : Str := "."
def base (abs : Bool) (p : List Str) : List Str := if abs = true then [] else p
/-- follow the parts, at most c replacements -/
def nv (lk : Look) (keep : Bool) (c : Nat) (p : List Str) : List Str → WEnd
  | [] => .found p
  | t :: ts =>
    if t = ".." then nv lk keep c p.dropLast ts
    else if t = "." then nv lk keep c p ts
    else match lk (p ++ [t]) with
      | none => .unk (p ++ [t]) ts
      | some .absent => .missing
      | some .file => if ts = [] then .found (p ++ [t]) else .file
      | some .dir => nv lk keep c (p ++ [t]) ts
      | some (.link abs ps) => if ts = [] ∧ keep = true then .found (p ++ [t]) else match c with
        | 0 => .loop
        | c + 1 => nv lk keep c (base abs p) (ps ++ ts)
termination_by ts => (c, ts.length)
variable {lk lk' : Look} {keep : Bool}
theorem nv_nil (c : Nat) (p : List Str) : nv lk keep c p [] = .found p := by rw [nv]
theorem nv_up (c : Nat) (p ts : List Str) : nv lk keep c p (".." :: ts) = nv lk keep c p.dropLast ts := by rw [nv, if_pos rfl]
theorem dot_ne : ¬ ((".": Str) = "..") := by decide +kernel
theorem nv_dot (c : Nat) (p ts : List Str) : nv lk keep c p ("." :: ts) = nv lk keep c p ts := by rw [nv, if_neg dot_ne, if_pos rfl]
/-- what a lookup leads to -/
def nvL (lk : Look) (keep : Bool) (c : Nat) (p : List Str) (t : Str) (ts : List Str) : Option Wh → WEnd
  | none => .unk (p ++ [t]) ts
  | some .absent => .missing
  | some .file => if ts = [] then .found (p ++ [t]) else .file
  | some .dir => nv lk keep c (p ++ [t]) ts
  | some (.link abs ps) => if ts = [] ∧ keep = true then .found (p ++ [t]) else match c with
    | 0 => .loop
    | c + 1 => nv lk keep c (base abs p) (ps ++ ts)
theorem nv_name (c : Nat) (p : List Str) {t : Str} (ts : List Str) (h1 : t ≠ "..") (h2 : t ≠ ".") : nv lk keep c p (t :: ts) = nvL lk keep c p t ts (lk (p ++ [t])) := by
  rw [nv, if_neg h1, if_neg h2]
  cases lk (p ++ [t]) with
  | none => rfl
  | some w => cases w <;> first | rfl | (cases c <;> rfl)
theorem nvL_kept {c : Nat} {p : List Str} {t : Str} {ts : List Str} {abs : Bool} {ps : List Str} (h : ts = [] ∧ keep = true) : nvL lk keep c p t ts (some (.link abs ps)) = .found (p ++ [t]) := by
  cases c <;> (unfold nvL; simp only [if_pos h])
theorem nvL_link {c : Nat} {p : List Str} {t : Str} {ts : List Str} {abs : Bool} {ps : List Str} (h : ¬ (ts = [] ∧ keep = true)) : nvL lk keep c p t ts (some (.link abs ps)) = if c < 1 then .loop else nv lk keep (c - 1) (base abs p) (ps ++ ts) := by
  cases c <;> (unfold nvL; simp only [if_neg h]) <;> simp
/-- induction over a run -/
theorem nv_ind {P : Nat → List Str → List Str → Prop} (lk : Look) (h0 : ∀ c p, P c p []) (hu : ∀ c p ts, P c p.dropLast ts → P c p ((".." : Str) :: ts)) (hd : ∀ c p ts, P c p ts → P c p (("." : Str) :: ts))
    (hn : ∀ c p (t : Str) ts, t ≠ ".." → t ≠ "." → (lk (p ++ [t]) = some .dir → P c (p ++ [t]) ts) → (∀ abs ps, lk (p ++ [t]) = some (.link abs ps) → ∀ d, c = d + 1 → ∀ q, q = ps ++ ts → P d (base abs p) q) → P c p (t :: ts)) :
    ∀ c p ts, P c p ts := by
  intro c
  induction c using Nat.strongRecOn with
  | _ c ihc =>
    intro p ts
    induction ts generalizing p with
    | nil => exact h0 c p
    | cons t ts ih =>
      by_cases h1 : t = ".."
      · subst h1; exact hu c p ts (ih _)
      · by_cases h2 : t = "."
        · subst h2; exact hd c p ts (ih _)
        · exact hn c p t ts h1 h2 (fun _ => ih _) fun abs ps _ d hc q _ => ihc d (by omega) _ _
/-! the run along a first list of parts, with what remains of the count -/
inductive Mid where
  | at_ (p : List Str) (c : Nat) | fileEnd (a : List Str) | stop (e : WEnd) | unk (a rest : List Str)
def mid (lk : Look) (c : Nat) (p : List Str) : List Str → Mid
  | [] => .at_ p c
  | t :: ts =>
    if t = ".." then mid lk c p.dropLast ts
    else if t = "." then mid lk c p ts
    else match lk (p ++ [t]) with
      | none => .unk (p ++ [t]) ts
      | some .absent => .stop .missing
      | some .file => if ts = [] then .fileEnd (p ++ [t]) else .stop .file
      | some .dir => mid lk c (p ++ [t]) ts
      | some (.link abs ps) => match c with
        | 0 => .stop .loop
        | c + 1 => mid lk c (base abs p) (ps ++ ts)
termination_by ts => (c, ts.length)
def midL (lk : Look) (c : Nat) (p : List Str) (t : Str) (ts : List Str) : Option Wh → Mid
  | none => .unk (p ++ [t]) ts
  | some .absent => .stop .missing
  | some .file => if ts = [] then .fileEnd (p ++ [t]) else .stop .file
  | some .dir => mid lk c (p ++ [t]) ts
  | some (.link abs ps) => match c with
    | 0 => .stop .loop
    | c + 1 => mid lk c (base abs p) (ps ++ ts)
theorem mid_name (c : Nat) (p : List Str) {t : Str} (ts : List Str) (h1 : t ≠ "..") (h2 : t ≠ ".") : mid lk c p (t :: ts) = midL lk c p t ts (lk (p ++ [t])) := by
  rw [mid, if_neg h1, if_neg h2]
  cases lk (p ++ [t]) with
  | none => rfl
  | some w => cases w <;> first | rfl | (cases c <;> rfl)
/-- going on behind -/
def Mid.go (lk : Look) (keep : Bool) (ys : List Str) : Mid → WEnd
  | .at_ p c => nv lk keep c p ys
  | .fileEnd _ => .file
  | .stop e => e
  | .unk a rest => .unk a (rest ++ ys)
def Mid.end_ : Mid → WEnd
  | .at_ p _ => .found p
  | .fileEnd a => .found a
  | .stop e => e
  | .unk a rest => .unk a rest
theorem nv_app (ys : List Str) (hy : ys ≠ [] ) : ∀ c p xs, nv lk keep c p (xs ++ ys) = (mid lk c p xs).go lk keep ys := by
  refine nv_ind lk (fun c p => by rw [mid]; rfl) (fun c p ts ih => ?_) (fun c p ts ih => ?_) (fun c p t ts h1 h2 ihd ihl => ?_)
  · rw [List.cons_append, nv_up, ih, mid, if_pos rfl]
  · rw [List.cons_append, nv_dot, ih, mid, if_neg dot_ne, if_pos rfl]
  · rw [List.cons_append, nv_name _ _ _ h1 h2, mid_name _ _ _ h1 h2]
    have hne : ¬ (ts ++ ys = []) := fun h => hy (List.append_eq_nil_iff.mp h).2
    cases e : lk (p ++ [t]) with
    | none => rfl
    | some w =>
      cases w with
      | absent => rfl
      | file =>
        show (if ts ++ ys = [] then _ else _) = Mid.go lk keep ys (if ts = [] then _ else _)
        rw [if_neg hne]
        split <;> rfl
      | dir => exact ihd e
      | link abs ps =>
        show (if ts ++ ys = [] ∧ keep = true then _ else _) = _
        rw [if_neg fun h => hne h.1]
        cases c with
        | zero => rfl
        | succ c =>
          have := ihl abs ps e c rfl _ rfl
          rw [List.append_assoc] at this
          exact this
/-- a run in mode follow -/
theorem nv_mid : ∀ c p xs, nv lk false c p xs = (mid lk c p xs).end_ := by
  refine nv_ind lk (fun c p => by rw [mid, nv]; rfl) (fun c p ts ih => ?_) (fun c p ts ih => ?_) (fun c p t ts h1 h2 ihd ihl => ?_)
  · rw [nv_up, ih, mid, if_pos rfl]
  · rw [nv_dot, ih, mid, if_neg dot_ne, if_pos rfl]
  · rw [nv_name _ _ _ h1 h2, mid_name _ _ _ h1 h2]
    cases e : lk (p ++ [t]) with
    | none => rfl
    | some w =>
      cases w with
      | absent => rfl
      | file =>
        show (if ts = [] then _ else _) = Mid.end_ (if ts = [] then _ else _)
        split <;> rfl
      | dir => exact ihd e
      | link abs ps =>
        show (if ts = [] ∧ false = true then _ else _) = _
        rw [if_neg (by simp)]
        cases c with
        | zero => rfl
        | succ c => exact ihl abs ps e c rfl _ rfl
/-! limits -/
def Lim (lk : Look) (keep : Bool) (p ps : List Str) (e : WEnd) : Prop := ∃ B, ∀ N, B ≤ N → nv lk keep N p ps = e
theorem Lim.uniq {p ps : List Str} {e e' : WEnd} (h : Lim lk keep p ps e) (h' : Lim lk keep p ps e') : e = e' := by
  obtain ⟨B, h⟩ := h
  obtain ⟨B', h'⟩ := h'
  rw [← h (max B B') (by omega), h' (max B B') (by omega)]
/-- more replacements change nothing but the loop -/
theorem mid_more (d : Nat) : ∀ c p xs, mid lk c p xs ≠ .stop .loop → mid lk (c + d) p xs = (match mid lk c p xs with | .at_ q k => Mid.at_ q (k + d) | m => m) := by
  refine nv_ind lk (fun c p _ => by rw [mid, mid]) (fun c p ts ih => ?_) (fun c p ts ih => ?_) (fun c p t ts h1 h2 ihd ihl => ?_)
  · rw [mid, if_pos rfl, mid, if_pos rfl]; exact ih
  · rw [mid, if_neg dot_ne, if_pos rfl, mid, if_neg dot_ne, if_pos rfl]; exact ih
  · rw [mid_name _ _ _ h1 h2, mid_name _ _ _ h1 h2]
    cases e : lk (p ++ [t]) with
    | none => intro _; rfl
    | some w =>
      cases w with
      | absent => intro _; rfl
      | file =>
        intro _
        show (if ts = [] then _ else _) = match (if ts = [] then Mid.fileEnd (p ++ [t]) else .stop .file) with | .at_ q k => Mid.at_ q (k + d) | m => m
        split <;> rfl
      | dir => exact ihd e
      | link abs ps =>
        cases c with
        | zero => intro h; exact absurd rfl h
        | succ c =>
          rw [Nat.succ_add]
          exact ihl abs ps e c rfl _ rfl
theorem mid_loop_less : ∀ c p xs, mid lk c p xs = .stop .loop → ∀ b, b ≤ c → mid lk b p xs = .stop .loop := by
  intro c p xs h b hb
  cases hm : mid lk b p xs with
  | stop e =>
    cases e with
    | loop => rfl
    | _ =>
      have := mid_more (c - b) b p xs (by rw [hm]; simp)
      rw [hm, show b + (c - b) = c by omega, h] at this
      exact absurd this (by simp)
  | _ =>
    have := mid_more (c - b) b p xs (by rw [hm]; simp)
    rw [hm, show b + (c - b) = c by omega, h] at this
    exact absurd this (by simp)
/-- a known directory -/
def DirL (lk : Look) (p : List Str) : Prop := p = [] ∨ lk p = some .dir
def Up (lk : Look) : Prop := ∀ p, DirL lk p → DirL lk p.dropLast
theorem mid_at (up : Up lk) : ∀ c p xs, DirL lk p → ∀ q k, mid lk c p xs = .at_ q k → DirL lk q := by
  refine nv_ind lk (fun c p hp q k h => ?_) (fun c p ts ih hp q k h => ?_) (fun c p ts ih hp q k h => ?_) (fun c p t ts h1 h2 ihd ihl hp q k h => ?_)
  · rw [mid] at h; cases h; exact hp
  · rw [mid, if_pos rfl] at h; exact ih (up p hp) q k h
  · rw [mid, if_neg dot_ne, if_pos rfl] at h; exact ih hp q k h
  · rw [mid_name _ _ _ h1 h2] at h
    cases e : lk (p ++ [t]) with
    | none => rw [e] at h; cases h
    | some w =>
      rw [e] at h
      cases w with
      | absent => cases h
      | file =>
        have h : (if ts = [] then Mid.fileEnd (p ++ [t]) else .stop .file) = .at_ q k := h
        split at h <;> cases h
      | dir => exact ihd e (.inr e) q k h
      | link abs ps =>
        cases c with
        | zero => cases h
        | succ c => exact ihl abs ps e c rfl _ rfl (by cases abs; exact hp; exact .inl rfl) q k h
theorem mid_file : ∀ c p xs, ∀ a, mid lk c p xs = .fileEnd a → lk a = some .file := by
  refine nv_ind lk (fun c p a h => ?_) (fun c p ts ih a h => ?_) (fun c p ts ih a h => ?_) (fun c p t ts h1 h2 ihd ihl a h => ?_)
  · rw [mid] at h; cases h
  · rw [mid, if_pos rfl] at h; exact ih a h
  · rw [mid, if_neg dot_ne, if_pos rfl] at h; exact ih a h
  · rw [mid_name _ _ _ h1 h2] at h
    cases e : lk (p ++ [t]) with
    | none => rw [e] at h; cases h
    | some w =>
      rw [e] at h
      cases w with
      | absent => cases h
      | file =>
        have h : (if ts = [] then Mid.fileEnd (p ++ [t]) else .stop .file) = .fileEnd a := h
        split at h
        · cases h; exact e
        · cases h
      | dir => exact ihd e a h
      | link abs ps =>
        cases c with
        | zero => cases h
        | succ c => exact ihl abs ps e c rfl _ rfl a h
theorem mid_stop : ∀ c p xs, ∀ e, mid lk c p xs = .stop e → e = .missing ∨ e = .file ∨ e = .loop := by
  refine nv_ind lk (fun c p a h => ?_) (fun c p ts ih a h => ?_) (fun c p ts ih a h => ?_) (fun c p t ts h1 h2 ihd ihl a h => ?_)
  · rw [mid] at h; cases h
  · rw [mid, if_pos rfl] at h; exact ih a h
  · rw [mid, if_neg dot_ne, if_pos rfl] at h; exact ih a h
  · rw [mid_name _ _ _ h1 h2] at h
    cases e : lk (p ++ [t]) with
    | none => rw [e] at h; cases h
    | some w =>
      rw [e] at h
      cases w with
      | absent => cases h; exact .inl rfl
      | file =>
        have h : (if ts = [] then Mid.fileEnd (p ++ [t]) else .stop .file) = .stop a := h
        split at h
        · cases h
        · cases h; exact .inr (.inl rfl)
      | dir => exact ihd e a h
      | link abs ps =>
        cases c with
        | zero => cases h; exact .inr (.inr rfl)
        | succ c => exact ihl abs ps e c rfl _ rfl a h
/-- where the first parts lead, and on -/
def Joined (lk : Look) (keep : Bool) (p xs ys : List Str) : WEnd → Prop
  | .found q => (DirL lk q ∧ ∀ e, Lim lk keep q ys e → Lim lk keep p (xs ++ ys) e) ∨ (lk q = some .file ∧ Lim lk keep p (xs ++ ys) .file)
  | .unk a rest => Lim lk keep p (xs ++ ys) (.unk a (rest ++ ys))
  | e => Lim lk keep p (xs ++ ys) e
theorem Lim.join (up : Up lk) {p xs ys : List Str} (hp : DirL lk p) {e : WEnd} (hy : ys ≠ []) (h : Lim lk false p xs e) : Joined lk keep p xs ys e := by
  obtain ⟨B, h⟩ := h
  have all : ∀ N, B ≤ N → (mid lk N p xs).end_ = e := fun N hN => by rw [← nv_mid]; exact h N hN
  have hB := all B (Nat.le_refl _)
  have more : ∀ N, B ≤ N → mid lk B p xs ≠ .stop .loop → ∃ d, N = B + d ∧ mid lk N p xs = (match mid lk B p xs with | .at_ q k => Mid.at_ q (k + d) | m => m) := fun N hN hs => by
    refine ⟨N - B, by omega, ?_⟩
    have := mid_more (N - B) B p xs hs
    rw [show B + (N - B) = N by omega] at this
    exact this
  cases hm : mid lk B p xs with
  | at_ q k =>
    rw [hm] at hB
    subst hB
    refine .inl ⟨mid_at up B p xs hp q k hm, fun e ⟨B', h'⟩ => ⟨B + B', fun N hN => ?_⟩⟩
    obtain ⟨d, rfl, e1⟩ := more N (by omega) (by rw [hm]; simp)
    rw [nv_app ys hy, e1, hm]
    exact h' (k + d) (by omega)
  | fileEnd a =>
    rw [hm] at hB
    subst hB
    refine .inr ⟨mid_file B p xs a hm, ⟨B, fun N hN => ?_⟩⟩
    obtain ⟨d, rfl, e1⟩ := more N (by omega) (by rw [hm]; simp)
    rw [nv_app ys hy, e1, hm]
    rfl
  | unk a rest =>
    rw [hm] at hB
    subst hB
    refine ⟨B, fun N hN => ?_⟩
    obtain ⟨d, rfl, e1⟩ := more N (by omega) (by rw [hm]; simp)
    rw [nv_app ys hy, e1, hm]
    rfl
  | stop s =>
    rw [hm] at hB
    have hB : s = e := hB
    subst hB
    have key : Lim lk keep p (xs ++ ys) s := by
      refine ⟨B, fun N hN => ?_⟩
      by_cases hs : s = .loop
      · subst hs
        have hN2 := all N hN
        cases hm2 : mid lk N p xs with
        | stop e2 =>
          rw [hm2] at hN2
          rw [nv_app ys hy, hm2]
          exact hN2
        | _ => rw [hm2] at hN2; cases hN2
      · obtain ⟨d, rfl, e1⟩ := more N (by omega) (by rw [hm]; simpa using hs)
        rw [nv_app ys hy, e1, hm]
        rfl
    rcases mid_stop B p xs s hm with rfl | rfl | rfl <;> exact key
/-! a longer chart -/
def Sub (lk lk' : Look) : Prop := ∀ a w, lk a = some w → lk' a = some w
def WEnd.known : WEnd → Prop
  | .unk _ _ => False
  | _ => True
theorem nv_sub (s : Sub lk lk') : ∀ c p xs, (nv lk keep c p xs).known → nv lk' keep c p xs = nv lk keep c p xs := by
  refine nv_ind lk (fun c p h => by rw [nv_nil, nv_nil]) (fun c p ts ih h => ?_) (fun c p ts ih h => ?_) (fun c p t ts h1 h2 ihd ihl h => ?_)
  · rw [nv_up] at h ⊢; rw [nv_up]; exact ih h
  · rw [nv_dot] at h ⊢; rw [nv_dot]; exact ih h
  · rw [nv_name _ _ _ h1 h2] at h ⊢
    rw [nv_name _ _ _ h1 h2]
    cases e : lk (p ++ [t]) with
    | none => rw [e] at h; exact h.elim
    | some w =>
      rw [e] at h
      rw [s _ _ e]
      cases w with
      | absent => rfl
      | file => rfl
      | dir => exact ihd e h
      | link abs ps =>
        by_cases hk : ts = [] ∧ keep = true
        · unfold nvL
          simp only [if_pos hk]
        · cases c with
          | zero =>
            unfold nvL
            simp only [if_neg hk]
          | succ c =>
            unfold nvL at h ⊢
            simp only [if_neg hk] at h ⊢
            exact ihl abs ps e c rfl _ rfl h
theorem Lim.sub (s : Sub lk lk') {p xs : List Str} {e : WEnd} (h : Lim lk keep p xs e) (k : e.known) : Lim lk' keep p xs e := by
  obtain ⟨B, h⟩ := h
  exact ⟨B, fun N hN => by rw [nv_sub s N p xs (by rw [h N hN]; exact k)]; exact h N hN⟩
/-! equal but for the rest -/
def Eqv (e e' : WEnd) : Prop := e = e' ∨ ∃ a r r', e = .unk a r ∧ e' = .unk a r'
theorem Eqv.refl (e : WEnd) : Eqv e e := .inl rfl
theorem Eqv.symm {e e' : WEnd} (h : Eqv e e') : Eqv e' e := by
  rcases h with h | ⟨a, r, r', h1, h2⟩
  · exact .inl h.symm
  · exact .inr ⟨a, r', r, h2, h1⟩
theorem Eqv.trans {e e' e2 : WEnd} (h : Eqv e e') (h' : Eqv e' e2) : Eqv e e2 := by
  rcases h with rfl | ⟨a, r, r', rfl, rfl⟩
  · exact h'
  · rcases h' with rfl | ⟨b, s, s', h1, rfl⟩
    · exact .inr ⟨a, r, r', rfl, rfl⟩
    · cases h1; exact .inr ⟨a, r, s', rfl, rfl⟩
/-- ways to go on that lead to the same -/
theorem nv_cong {ts ts' : List Str} (h1 : ts ≠ []) (h2 : ts' ≠ []) (h : ∀ c q, Eqv (nv lk keep c q ts) (nv lk keep c q ts')) (c : Nat) (p xs : List Str) : Eqv (nv lk keep c p (xs ++ ts)) (nv lk keep c p (xs ++ ts')) := by
  rw [nv_app ts h1, nv_app ts' h2]
  cases mid lk c p xs with
  | at_ q k => exact h k q
  | fileEnd a => exact .refl _
  | stop e => exact .refl _
  | unk a rest => exact .inr ⟨a, _, _, rfl, rfl⟩
theorem nv_dots {l : List Str} (hl : l ≠ []) (c : Nat) (p : List Str) : ∀ (pre xs : List Str), Eqv (nv lk keep c p (pre ++ (xs ++ l))) (nv lk keep c p (pre ++ (xs.filter (fun (x : Str) => !decide (x = ".")) ++ l)))
  | pre, [] => .refl _
  | pre, x :: xs => by
    by_cases hx : x = "."
    · subst hx
      have e : (((".": Str) :: xs).filter fun (x : Str) => !decide (x = ".")) = xs.filter fun (x : Str) => !decide (x = ".") := by simp
      rw [e]
      refine Eqv.trans ?_ (nv_dots hl c p pre xs)
      exact nv_cong (ts := (".": Str) :: (xs ++ l)) (by simp) (by simp [hl]) (fun c q => by rw [nv_dot]; exact .refl _) c p pre
    · have e : ((x :: xs).filter fun (x : Str) => !decide (x = ".")) = x :: xs.filter fun (x : Str) => !decide (x = ".") := by simp [hx]
      rw [e]
      have := nv_dots hl c p (pre ++ [x]) xs
      simpa using this
end Nv
end

section
set_option Elab.async false
set_option linter.all false
set_option maxRecDepth 100000
/-! Nv2: the run with a memory and the naive run, in plain Lean: frames. -/
namespace Nv
open PySem
abbrev Frs := List (List Str × List Str)
def rests : Frs → List Str
  | [] => []
  | f :: fs => f.2 ++ rests fs
section
variable (lk : Look) (keep : Bool)
def Rch (b : List Str) (x : Str) (p X : List Str) (m : Nat) : Prop := ∀ w c, (w ≠ [] ∨ keep = false) → nv lk keep c b (x :: w) = if c < m then .loop else nv lk keep (c - m) p (X ++ w)
/-- the frames -/
def FI (p0 parts0 : List Str) (p : List Str) : List Str → Frs → Prop
  | X, [] => ∃ n, ∀ c, nv lk keep c p0 parts0 = if c < n then .loop else nv lk keep (c - n) p X
  | X, (a, S) :: fs => (∃ b x m, a = b ++ [x] ∧ 1 ≤ m ∧ Rch lk keep b x p X m ∧ (S ++ rests fs ≠ [] ∨ keep = false)) ∧ FI p0 parts0 p (X ++ S) fs
variable {lk keep} {p0 parts0 : List Str}
theorem FI.step {d : Nat} {p p' ys zs : List Str} {U : Prop} (h : ∀ w c, (w ≠ [] ∨ keep = false ∨ U) → nv lk keep c p (ys ++ w) = if c < d then .loop else nv lk keep (c - d) p' (zs ++ w)) :
    ∀ (fs : Frs) (X : List Str), (X ++ rests fs ≠ [] ∨ keep = false ∨ U) → FI lk keep p0 parts0 p (ys ++ X) fs → FI lk keep p0 parts0 p' (zs ++ X) fs
  | [], X, hc, ⟨n, h1⟩ => by
    refine ⟨n + d, fun c => ?_⟩
    rw [h1 c]
    by_cases hcn : c < n
    · rw [if_pos hcn, if_pos (by omega)]
    · rw [if_neg hcn, h X (c - n) (by simpa [rests] using hc)]
      by_cases hd : c - n < d
      · rw [if_pos hd, if_pos (by omega)]
      · rw [if_neg hd, if_neg (by omega), Nat.sub_sub]
  | (a, S) :: fs, X, hc, ⟨⟨b, x, m, h1, h2, h3, h5⟩, h7⟩ => by
    refine ⟨⟨b, x, m + d, h1, by omega, fun w c hw => ?_, h5⟩, ?_⟩
    · rw [h3 w c hw]
      by_cases hcn : c < m
      · rw [if_pos hcn, if_pos (by omega)]
      · rw [if_neg hcn, List.append_assoc, h (X ++ w) (c - m) (by
          rcases hw with hw | hw
          · exact .inl (by simp [hw])
          · exact .inr (.inl hw))]
        by_cases hd : c - m < d
        · rw [if_pos hd, if_pos (by omega)]
        · rw [if_neg hd, if_neg (by omega), Nat.sub_sub, List.append_assoc]
    · have := FI.step h fs (X ++ S) (by rw [List.append_assoc]; exact hc) (by rw [← List.append_assoc]; exact h7)
      rw [List.append_assoc]
      exact this
theorem FI.total {p : List Str} : ∀ (fs : Frs) (X : List Str), FI lk keep p0 parts0 p X fs → ∃ n, ∀ c, nv lk keep c p0 parts0 = if c < n then .loop else nv lk keep (c - n) p (X ++ rests fs)
  | [], X, ⟨n, h1⟩ => ⟨n, by simpa [rests] using h1⟩
  | (a, S) :: fs, X, ⟨_, h⟩ => by
    obtain ⟨n, h1⟩ := FI.total fs (X ++ S) h
    exact ⟨n, by simpa [rests] using h1⟩
theorem nv_loop {p : List Str} {t : Str} {X : List Str} {m : Nat} (hm : 1 ≤ m) (h : Rch lk keep p t p (t :: X) m) : ∀ (c : Nat) (w : List Str), (w ≠ [] ∨ keep = false) → nv lk keep c p (t :: w) = .loop := by
  intro c
  induction c using Nat.strongRecOn with
  | _ c ih =>
    intro w hw
    rw [h w c hw]
    by_cases hc : c < m
    · rw [if_pos hc]
    · rw [if_neg hc]
      exact ih (c - m) (by omega) (X ++ w) (by
        rcases hw with hw | hw
        · exact .inl (by simp [hw])
        · exact .inr hw)
theorem FI.loop {p : List Str} {t : Str} : ∀ (fs : Frs) (X : List Str), (p ++ [t]) ∈ fs.map (·.1) → FI lk keep p0 parts0 p (t :: X) fs → ∀ c, nv lk keep c p (t :: (X ++ rests fs)) = .loop
  | (a, S) :: fs, X, hm, ⟨⟨b, x, m, h1, h2, h3, h5⟩, h7⟩, c => by
    by_cases ha : p ++ [t] = a
    · rw [h1] at ha
      obtain ⟨rfl, hx⟩ := List.append_inj' ha rfl
      have hx : t = x := by simpa using hx
      subst hx
      refine nv_loop h2 h3 c _ ?_
      rcases h5 with h5 | h5
      · refine .inl fun h => h5 ?_
        have := List.append_eq_nil_iff.mp h
        simpa [rests] using this.2
      · exact .inr h5
    · have hm2 : (p ++ [t]) ∈ fs.map (·.1) := by
        rcases List.mem_cons.mp hm with h | h
        · exact absurd h ha
        · exact h
      have := FI.loop fs (X ++ S) hm2 (by simpa using h7) c
      simpa [rests] using this
def noLink : Option Wh → Prop
  | some (.link _ _) => False
  | _ => True
variable (lk keep)
/-- the invariant of the run with a memory: tr the addresses looked up so far -/
structure WI (W : Str → Prop) (p0 parts0 p xs : List Str) (fs E : Frs) (tr : List (List Str)) : Prop where
  dir : DirL lk p
  words : ∀ x ∈ xs ++ rests fs, W x
  len : xs.length ≤ 12
  fi : FI lk keep p0 parts0 p xs fs
  nd : (fs.map (·.1) ++ E.map (·.1)).Nodup
  lks : ∀ a ∈ fs.map (·.1) ++ E.map (·.1), ∃ abs ps, lk a = some (.link abs ps)
  mem : ∀ e ∈ E, DirL lk e.2 ∧ ∃ b x m, e.1 = b ++ [x] ∧ Rch lk keep b x e.2 [] m
  slen : ∀ f ∈ fs, f.2.length ≤ 12
  pure : (∀ a ∈ tr, noLink (lk a)) → ∀ c, nv lk keep c p0 parts0 = nv lk keep c p (xs ++ rests fs)
variable {lk keep}
variable {W : Str → Prop} {p p' : List Str} {tr : List (List Str)}
theorem WI.fin {xs : List Str} {fs E : Frs} (w : WI lk keep W p0 parts0 p xs fs E tr) : ∃ n, ∀ c, nv lk keep (c + n) p0 parts0 = nv lk keep c p (xs ++ rests fs) := by
  obtain ⟨n, h1⟩ := FI.total fs xs w.fi
  refine ⟨n, fun c => ?_⟩
  rw [h1, if_neg (by omega), show c + n - n = c by omega]
/-- the end is told -/
theorem WI.lim {xs : List Str} {fs E : Frs} (w : WI lk keep W p0 parts0 p xs fs E tr) {e : WEnd} (h : ∀ c, nv lk keep c p (xs ++ rests fs) = e) : Lim lk keep p0 parts0 e ∧ ((∀ a ∈ tr, noLink (lk a)) → ∀ c, nv lk keep c p0 parts0 = e) := by
  obtain ⟨n, h1⟩ := w.fin
  refine ⟨⟨n, fun N hN => ?_⟩, fun hp c => by rw [w.pure hp c, h c]⟩
  have := h1 (N - n)
  rw [show N - n + n = N by omega] at this
  rw [this, h]
/-- the marker is met -/
theorem WI.pop {a S : List Str} {fs E : Frs} (w : WI lk keep W p0 parts0 p [] ((a, S) :: fs) E tr) : WI lk keep W p0 parts0 p S fs (E ++ [(a, p)]) tr where
  dir := w.dir
  words x hx := w.words x (by simpa [rests] using hx)
  len := w.slen (a, S) (List.mem_cons_self ..)
  fi := by simpa using w.fi.2
  nd := by
    have := w.nd
    rw [List.map_append]
    refine (List.Perm.nodup_iff ?_).mp this
    simp only [List.map_cons, List.cons_append, List.map_nil]
    rw [← List.append_assoc]
    exact (List.perm_append_singleton a _).symm
  lks b hb := w.lks b (by
    simp only [List.map_append, List.map_cons, List.map_nil, List.mem_append, List.mem_cons, List.not_mem_nil, or_false, List.cons_append] at hb ⊢
    rcases hb with h | h | h
    · exact .inr (.inl h)
    · exact .inr (.inr h)
    · exact .inl h)
  mem e he := by
    rcases List.mem_append.mp he with h | h
    · exact w.mem e h
    · rw [List.mem_singleton.mp h]
      obtain ⟨b, x, m, h1, h2, h3, h5⟩ := w.fi.1
      exact ⟨w.dir, b, x, m, h1, h3⟩
  slen f hf := w.slen f (List.mem_cons_of_mem _ hf)
  pure := w.pure
/-- a part is passed -/
theorem WI.pass {t : Str} {xs : List Str} {fs E : Frs} {d : Nat} {U : Prop} (w : WI lk keep W p0 parts0 p (t :: xs) fs E tr) (hd : DirL lk p')
    (h : ∀ v c, (v ≠ [] ∨ keep = false ∨ U) → nv lk keep c p (t :: v) = if c < d then .loop else nv lk keep (c - d) p' v) (hc : xs ++ rests fs ≠ [] ∨ keep = false ∨ U) {tr' : List (List Str)} (ht : (∀ a ∈ tr', noLink (lk a)) → d = 0 ∧ ∀ a ∈ tr, noLink (lk a)) : WI lk keep W p0 parts0 p' xs fs E tr' where
  dir := hd
  words x hx := w.words x (List.mem_cons_of_mem _ hx)
  len := by have := w.len; simp only [List.length_cons] at this; omega
  fi := FI.step (ys := [t]) (zs := []) (U := U) h fs xs hc w.fi
  nd := w.nd
  lks := w.lks
  mem := w.mem
  slen := w.slen
  pure hp c := by
    obtain ⟨h0, h1⟩ := ht hp
    rw [w.pure h1 c, List.cons_append, h _ c hc, h0, if_neg (by omega), Nat.sub_zero]
/-- a link is followed -/
theorem WI.link {t : Str} {xs ps : List Str} {fs E : Frs} (w : WI lk keep W p0 parts0 p (t :: xs) fs E tr) (hd : DirL lk p') (h3 : ps.length ≤ 12) (hw : ∀ x ∈ ps, W x) {abs : Bool} (hat : lk (p ++ [t]) = some (.link abs ps))
    (hn : p ++ [t] ∉ fs.map (·.1)) (hn2 : p ++ [t] ∉ E.map (·.1))
    (h : ∀ v c, (v ≠ [] ∨ keep = false) → nv lk keep c p (t :: v) = if c < 1 then .loop else nv lk keep (c - 1) p' (ps ++ v)) (hc : xs ++ rests fs ≠ [] ∨ keep = false) : WI lk keep W p0 parts0 p' ps ((p ++ [t], xs) :: fs) E (tr ++ [p ++ [t]]) where
  dir := hd
  words x hx := by
    simp only [rests, List.mem_append] at hx
    rcases hx with hx | hx | hx
    · exact hw x hx
    · exact w.words x (by simp [hx])
    · exact w.words x (by simp [hx])
  len := h3
  fi := by
    refine ⟨⟨p, t, 1, rfl, Nat.le_refl _, h, hc⟩, ?_⟩
    exact FI.step (ys := [t]) (zs := ps) (U := False) (d := 1) (fun v c hv => h v c (by simpa using hv)) fs xs (by simpa using hc) w.fi
  nd := by
    rw [List.map_cons, List.cons_append, List.nodup_cons]
    refine ⟨fun h => ?_, w.nd⟩
    rcases List.mem_append.mp h with h | h
    · exact hn h
    · exact hn2 h
  lks a ha := by
    rw [List.map_cons, List.cons_append] at ha
    rcases List.mem_cons.mp ha with rfl | h
    · exact ⟨_, _, hat⟩
    · exact w.lks a h
  mem := w.mem
  slen f hf := by
    rcases List.mem_cons.mp hf with rfl | hf
    · have := w.len; simp only [List.length_cons] at this ⊢; omega
    · exact w.slen f hf
  pure hp := by
    have := hp (p ++ [t]) (List.mem_append_right _ (List.mem_singleton.mpr rfl))
    rw [hat] at this
    exact this.elim
theorem WI.start {ps : List Str} (hd : DirL lk p) (hw : ∀ x ∈ ps, W x) (hl : ps.length ≤ 12) : WI lk keep W p ps p ps [] [] [] where
  dir := hd
  words x hx := hw x (by simpa [rests] using hx)
  len := hl
  fi := ⟨0, fun c => by simp⟩
  nd := by simp
  lks a ha := by simp at ha
  mem e he := by simp at he
  slen f hf := by simp at hf
  pure _ c := by simp [rests]
end
end Nv
end

section
set_option Elab.async false
set_option linter.all false
set_option maxRecDepth 100000
/-! Nv3: normal forms. -/
namespace Nv
open PySem
abbrev L1 : List Str := ["."]
abbrev L2 : List Str := [".."]
abbrev L21 : List Str := ["..", "."]
abbrev dotF (xs : List Str) : List Str := xs.filter fun (x : Str) => !decide (x = ".")
def kept (ps : List Str) : List Str := dotF ps.dropLast ++ ps.drop (ps.length - 1)
/-- the last is ".", the one before it ".." -/
def upDot (ks : List Str) : Bool := decide (ks.drop (ks.length - 1) = L1) && decide ((ks.drop (ks.length - 2)).take (ks.length - 1 - (ks.length - 2)) = L2)
def short (ps : List Str) : List Str := if upDot (kept ps) = true then (kept ps).dropLast else kept ps
def strip : List Str → List Str
  | [] => []
  | x :: xs => if x = ".." then strip xs else x :: xs
def normal (abs : Bool) (ps : List Str) : List Str :=
  if abs = true then (if strip (short ps) = L1 then [] else strip (short ps)) else short ps
variable {lk : Look} {keep : Bool}
theorem split_last {xs : List Str} (h : xs ≠ []) : xs = xs.dropLast ++ xs.drop (xs.length - 1) := by
  rw [List.dropLast_eq_take, List.take_append_drop]
theorem kept_ne {ps : List Str} (h : ps ≠ []) : ps.drop (ps.length - 1) ≠ [] := by
  intro e
  have := congrArg List.length e
  simp at this
  have := List.length_pos_iff.mpr h
  omega
theorem nv_kept (c : Nat) (p : List Str) {ps : List Str} (h : ps ≠ []) : Eqv (nv lk keep c p ps) (nv lk keep c p (kept ps)) := by
  have := nv_dots (lk := lk) (keep := keep) (l := ps.drop (ps.length - 1)) (kept_ne h) c p [] ps.dropLast
  rw [List.nil_append, ← split_last h, List.nil_append] at this
  exact this
theorem upDot_split {ks : List Str} (h : upDot ks = true) : ∃ l, ks = l ++ L21 ∧ ks.dropLast = l ++ L2 := by
  unfold upDot at h
  rw [Bool.and_eq_true] at h
  have h1 := of_decide_eq_true h.1
  have h2 := of_decide_eq_true h.2
  have l1 : 1 ≤ ks.length := by
    rcases ks with _ | ⟨k, ks⟩
    · simp at h1
    · simp
  have l2 : 2 ≤ ks.length := by
    rcases ks with _ | ⟨k, _ | ⟨k2, ks⟩⟩
    · simp at h1
    · simp at h2
    · simp
  have e : ks.drop (ks.length - 2) = L21 := by
    have h3 : ks.drop (ks.length - 2) = (ks.drop (ks.length - 2)).take 1 ++ (ks.drop (ks.length - 2)).drop 1 := (List.take_append_drop 1 _).symm
    rw [show ks.length - 1 - (ks.length - 2) = 1 by omega] at h2
    rw [List.drop_drop, show ks.length - 2 + 1 = ks.length - 1 by omega, h1, h2] at h3
    exact h3
  have e2 : ks = ks.take (ks.length - 2) ++ L21 := by rw [← e, List.take_append_drop]
  refine ⟨ks.take (ks.length - 2), e2, ?_⟩
  generalize ks.take (ks.length - 2) = l at e2
  rw [e2]
  have : l ++ L21 = (l ++ L2) ++ [(".": Str)] := by simp
  rw [this, List.dropLast_concat]
theorem nv_short (c : Nat) (p : List Str) (ps : List Str) : Eqv (nv lk keep c p ps) (nv lk keep c p (short ps)) := by
  by_cases h : ps = []
  · subst h
    have : short [] = [] := by decide +kernel
    rw [this]
    exact .refl _
  · unfold short
    split
    · rename_i hu
      obtain ⟨l, e1, e2⟩ := upDot_split hu
      refine (nv_kept c p h).trans ?_
      rw [e2, e1]
      refine nv_cong (by simp) (by simp) (fun c q => ?_) c p l
      rw [nv_up, nv_up, nv_dot]
      exact .refl _
    · exact nv_kept c p h
theorem nv_strip (c : Nat) : ∀ ps : List Str, nv lk keep c [] (strip ps) = nv lk keep c [] ps
  | [] => rfl
  | x :: xs => by
    unfold strip
    split
    · rename_i h
      rw [nv_strip c xs, h, nv_up]
      rfl
    · rfl
theorem nv_normal (abs : Bool) (c : Nat) (here ps : List Str) : Eqv (nv lk keep c (base abs here) ps) (nv lk keep c (base abs here) (normal abs ps)) := by
  refine (nv_short c _ ps).trans ?_
  unfold normal
  cases abs with
  | false => exact .refl _
  | true =>
    have e : base true here = [] := rfl
    rw [e, if_pos rfl, ← nv_strip c (short ps)]
    split
    · rename_i h
      rw [h, nv_dot]
      exact .refl _
    · exact .refl _
/-- equal normal forms lead to the same -/
theorem Lim.normal {abs : Bool} {here ps qs : List Str} {e e' : WEnd} (h : Lim lk keep (base abs here) ps e) (h' : Lim lk keep (base abs here) qs e') (hn : Nv.normal abs ps = Nv.normal abs qs) : Eqv e e' := by
  obtain ⟨B, h⟩ := h
  obtain ⟨B', h'⟩ := h'
  have h1 := nv_normal (lk := lk) (keep := keep) abs (max B B') here ps
  have h2 := nv_normal (lk := lk) (keep := keep) abs (max B B') here qs
  rw [h _ (by omega)] at h1
  rw [h' _ (by omega)] at h2
  rw [hn] at h1
  exact h1.trans h2.symm
end Nv
end

section
set_option Elab.async false
set_option linter.all false
set_option maxRecDepth 100000
/-! Tv: the naive run counted in parts taken: it ends soon or never. -/
namespace Nv
open PySem
/-- follow the parts, at most c parts taken -/
def tv (lk : Look) (keep : Bool) : Nat → List Str → List Str → WEnd
  | 0, _, _ => .loop
  | _ + 1, p, [] => .found p
  | c + 1, p, t :: ts =>
    if t = ".." then tv lk keep c p.dropLast ts
    else if t = "." then tv lk keep c p ts
    else match lk (p ++ [t]) with
      | none => .unk (p ++ [t]) ts
      | some .absent => .missing
      | some .file => if ts = [] then .found (p ++ [t]) else .file
      | some .dir => tv lk keep c (p ++ [t]) ts
      | some (.link abs ps) => if ts = [] ∧ keep = true then .found (p ++ [t]) else tv lk keep c (base abs p) (ps ++ ts)
def tvL (lk : Look) (keep : Bool) (c : Nat) (p : List Str) (t : Str) (ts : List Str) : Option Wh → WEnd
  | none => .unk (p ++ [t]) ts
  | some .absent => .missing
  | some .file => if ts = [] then .found (p ++ [t]) else .file
  | some .dir => tv lk keep c (p ++ [t]) ts
  | some (.link abs ps) => if ts = [] ∧ keep = true then .found (p ++ [t]) else tv lk keep c (base abs p) (ps ++ ts)
variable {lk : Look} {keep : Bool}
theorem tv_zero (p X : List Str) : tv lk keep 0 p X = .loop := rfl
theorem tv_nil (c : Nat) (p : List Str) : tv lk keep (c + 1) p [] = .found p := rfl
theorem tv_up (c : Nat) (p ts : List Str) : tv lk keep (c + 1) p (".." :: ts) = tv lk keep c p.dropLast ts := by rw [tv, if_pos rfl]
theorem tv_dot (c : Nat) (p ts : List Str) : tv lk keep (c + 1) p ("." :: ts) = tv lk keep c p ts := by rw [tv, if_neg dot_ne, if_pos rfl]
theorem tv_name (c : Nat) (p : List Str) {t : Str} (ts : List Str) (h1 : t ≠ "..") (h2 : t ≠ ".") : tv lk keep (c + 1) p (t :: ts) = tvL lk keep c p t ts (lk (p ++ [t])) := by
  rw [tv, if_neg h1, if_neg h2]
  cases lk (p ++ [t]) with
  | none => rfl
  | some w => cases w <;> rfl
/-- T parts taken lead from X at p to Y at q -/
def Rt (lk : Look) (keep : Bool) (T : Nat) (p X q Y : List Str) : Prop := ∀ c, tv lk keep c p X = if c < T then .loop else tv lk keep (c - T) q Y
theorem Rt.refl (p X : List Str) : Rt lk keep 0 p X p X := fun c => by rw [if_neg (by omega), Nat.sub_zero]
theorem Rt.trans {S T : Nat} {p X q Y r Z : List Str} (h : Rt lk keep S p X q Y) (k : Rt lk keep T q Y r Z) : Rt lk keep (S + T) p X r Z := fun c => by
  rw [h c]
  by_cases h1 : c < S
  · rw [if_pos h1, if_pos (by omega)]
  · rw [if_neg h1, k (c - S)]
    by_cases h2 : c - S < T
    · rw [if_pos h2, if_pos (by omega)]
    · rw [if_neg h2, if_neg (by omega), Nat.sub_sub]
theorem Rt.one {p X q Y : List Str} (h : ∀ c, tv lk keep (c + 1) p X = tv lk keep c q Y) : Rt lk keep 1 p X q Y := fun c => by
  cases c with
  | zero => rfl
  | succ c => rw [h c, if_neg (by omega)]; rfl
/-- what stands behind -/
abbrev Gd (keep : Bool) (w : List Str) : Prop := w ≠ [] ∨ keep = false
def tn : Nat → Nat
  | 0 => 1
  | n + 1 => 1 + 2 * tn n
theorem tn_pos : ∀ n, 1 ≤ tn n
  | 0 => Nat.le_refl _
  | n + 1 => by unfold tn; omega
/-- the parts X from p, the links A being followed, n links left -/
def Big (lk : Look) (keep : Bool) (n : Nat) (A : List (List Str)) (p X : List Str) : Prop :=
  (∃ q T, T ≤ X.length * tn n ∧ ∀ w, Gd keep w → Rt lk keep T p (X ++ w) q w) ∨
  (∃ T, T ≤ X.length * tn n ∧ ∀ w, Gd keep w → ∃ e, e ≠ .loop ∧ ∀ c, T ≤ c → tv lk keep c p (X ++ w) = e) ∨
  (∀ w, Gd keep w → ∀ c, tv lk keep c p (X ++ w) = .loop) ∨
  (∃ T b x Y, b ++ [x] ∈ A ∧ ∀ w, Gd keep w → Rt lk keep T p (X ++ w) b (x :: (Y ++ w)))
theorem Big.nil (n : Nat) (A : List (List Str)) (p : List Str) : Big lk keep n A p [] := .inl ⟨p, 0, Nat.zero_le _, fun w _ => Rt.refl p w⟩
/-- one part, then the others -/
theorem Big.cons {n : Nat} {A : List (List Str)} {p : List Str} {t : Str} {ts : List Str} (h1 : Big lk keep n A p [t]) (h2 : ∀ q, Big lk keep n A q ts) : Big lk keep n A p (t :: ts) := by
  have gd : ∀ {w : List Str}, Gd keep w → Gd keep (ts ++ w) := fun {w} g => g.imp (fun h e => h (List.append_eq_nil_iff.mp e).2) _root_.id
  have hl : (t :: ts).length * tn n = tn n + ts.length * tn n := by rw [List.length_cons, Nat.add_mul]; omega
  have h0 : ([t] : List Str).length * tn n = tn n := by simp
  rcases h1 with ⟨q, T, hT, k⟩ | ⟨T, hT, k⟩ | k | ⟨T, b, x, Y, hA, k⟩
  · rcases h2 q with ⟨q2, T2, hT2, k2⟩ | ⟨T2, hT2, k2⟩ | k2 | ⟨T2, b, x, Y, hA, k2⟩
    · exact .inl ⟨q2, T + T2, by omega, fun w g => (k (ts ++ w) (gd g)).trans (k2 w g)⟩
    · refine .inr (.inl ⟨T + T2, by omega, fun w g => ?_⟩)
      obtain ⟨e, he, h⟩ := k2 w g
      refine ⟨e, he, fun c hc => ?_⟩
      have := k (ts ++ w) (gd g) c
      rw [if_neg (by omega)] at this
      exact this.trans (h (c - T) (by omega))
    · refine .inr (.inr (.inl fun w g c => ?_))
      have := k (ts ++ w) (gd g) c
      refine this.trans ?_
      split
      · rfl
      · exact k2 w g _
    · exact .inr (.inr (.inr ⟨T + T2, b, x, Y, hA, fun w g => (k (ts ++ w) (gd g)).trans (k2 w g)⟩))
  · exact .inr (.inl ⟨T, by omega, fun w g => k (ts ++ w) (gd g)⟩)
  · exact .inr (.inr (.inl fun w g => k (ts ++ w) (gd g)))
  · refine .inr (.inr (.inr ⟨T, b, x, Y ++ ts, hA, fun w g => ?_⟩))
    rw [List.append_assoc]
    exact k (ts ++ w) (gd g)
theorem tv_loop {p : List Str} {t : Str} {Y : List Str} {T : Nat} (hT : 1 ≤ T) (h : ∀ w, Gd keep w → Rt lk keep T p (t :: w) p (t :: (Y ++ w))) : ∀ (c : Nat) (w : List Str), Gd keep w → tv lk keep c p (t :: w) = .loop := by
  intro c
  induction c using Nat.strongRecOn with
  | _ c ih =>
    intro w g
    rw [h w g c]
    split
    · rfl
    · exact ih (c - T) (by omega) (Y ++ w) (g.imp (fun h e => h (List.append_eq_nil_iff.mp e).2) _root_.id)
theorem filt_lt {L : List (List Str)} {A : List (List Str)} {a : List Str} (ha : a ∈ L) (hn : a ∉ A) : (L.filter fun x => decide (x ∉ a :: A)).length < (L.filter fun x => decide (x ∉ A)).length := by
  induction L with
  | nil => cases ha
  | cons b L ih =>
    have le : ∀ L : List (List Str), (L.filter fun x => decide (x ∉ a :: A)).length ≤ (L.filter fun x => decide (x ∉ A)).length := by
      intro L
      induction L with
      | nil => exact Nat.le_refl _
      | cons b L ih =>
        rw [List.filter_cons, List.filter_cons]
        by_cases h1 : b ∈ A
        · rw [if_neg (by simp [h1]), if_neg (by simp [h1])]; exact ih
        · rw [if_pos (c := decide (b ∉ A) = true) (by simp [h1])]
          split
          · simp only [List.length_cons]; omega
          · simp only [List.length_cons]; omega
    rw [List.filter_cons, List.filter_cons]
    by_cases hb : b = a
    · subst hb
      rw [if_neg (by simp), if_pos (by simp [hn]), List.length_cons]
      exact Nat.lt_succ_of_le (le L)
    · have ha2 : a ∈ L := by
        rcases List.mem_cons.mp ha with h | h
        · exact absurd h.symm hb
        · exact h
      have := ih ha2
      by_cases h1 : b ∈ A
      · rw [if_neg (by simp [h1]), if_neg (by simp [h1])]; exact this
      · rw [if_pos (by simp [h1, hb]), if_pos (by simp [h1]), List.length_cons, List.length_cons]
        omega
/-- the run ends soon, or never, or meets a link that is being followed -/
theorem big {L : List (List Str)} (hL : ∀ a abs ps, lk a = some (.link abs ps) → a ∈ L ∧ ps.length ≤ 2) : ∀ (n : Nat) (A : List (List Str)), (L.filter fun x => decide (x ∉ A)).length ≤ n → ∀ (X p : List Str), Big lk keep n A p X := by
  intro n
  induction n using Nat.strongRecOn with
  | _ n ihn =>
    intro A hA X
    induction X with
    | nil => exact fun p => Big.nil n A p
    | cons t ts ih =>
      intro p
      refine Big.cons ?_ ih
      have one : ([t] : List Str).length * tn n = tn n := by simp
      have tp := tn_pos n
      by_cases h1 : t = ".."
      · subst h1
        exact .inl ⟨p.dropLast, 1, by omega, fun w _ => Rt.one fun c => tv_up c p w⟩
      · by_cases h2 : t = "."
        · subst h2
          exact .inl ⟨p, 1, by omega, fun w _ => Rt.one fun c => tv_dot c p w⟩
        · have hn := fun c w => tv_name (lk := lk) (keep := keep) c p (t := t) w h1 h2
          have fin : (∀ w, Gd keep w → ∃ e, e ≠ .loop ∧ ∀ c, tvL lk keep c p t w (lk (p ++ [t])) = e) → Big lk keep n A p [t] := fun h => .inr (.inl ⟨1, by omega, fun w g => by
            obtain ⟨e, he, k⟩ := h w g
            refine ⟨e, he, fun c hc => ?_⟩
            obtain ⟨d, rfl⟩ : ∃ d, c = d + 1 := ⟨c - 1, by omega⟩
            exact (hn d w).trans (k d)⟩)
          cases e : lk (p ++ [t]) with
          | none => exact fin fun w _ => ⟨.unk (p ++ [t]) w, by simp, fun c => by rw [e]; rfl⟩
          | some v =>
            cases v with
            | absent => exact fin fun w _ => ⟨.missing, by simp, fun c => by rw [e]; rfl⟩
            | file => exact fin fun w _ => ⟨if w = [] then .found (p ++ [t]) else .file, by split <;> simp, fun c => by rw [e]; rfl⟩
            | dir => exact .inl ⟨p ++ [t], 1, by omega, fun w _ => Rt.one fun c => by rw [show [t] ++ w = t :: w from rfl, hn c w, e]; rfl⟩
            | link abs ps =>
              by_cases ha : p ++ [t] ∈ A
              · exact .inr (.inr (.inr ⟨0, p, t, [], ha, fun w _ => Rt.refl p (t :: w)⟩))
              · obtain ⟨hL1, hL2⟩ := hL _ _ _ e
                have hlt := filt_lt hL1 ha
                obtain ⟨m, rfl⟩ : ∃ m, n = m + 1 := ⟨n - 1, by omega⟩
                have hm := ihn m (by omega) ((p ++ [t]) :: A) (by omega) ps (base abs p)
                have step : ∀ w, Gd keep w → Rt lk keep 1 p (t :: w) (base abs p) (ps ++ w) := fun w g => Rt.one fun c => by
                  rw [hn c w, e]
                  show (if w = [] ∧ keep = true then _ else _) = _
                  rw [if_neg]
                  rintro ⟨z1, z2⟩
                  rcases g with g | g
                  · exact g z1
                  · rw [z2] at g; cases g
                have hb : 1 + ps.length * tn m ≤ tn (m + 1) := by
                  have : ps.length * tn m ≤ 2 * tn m := Nat.mul_le_mul_right _ hL2
                  show _ ≤ 1 + 2 * tn m
                  omega
                rcases hm with ⟨q, T, hT, k⟩ | ⟨T, hT, k⟩ | k | ⟨T, b, x, Y, hA2, k⟩
                · exact .inl ⟨q, 1 + T, by omega, fun w g => (step w g).trans (k w g)⟩
                · refine .inr (.inl ⟨1 + T, by omega, fun w g => ?_⟩)
                  obtain ⟨e2, he2, h⟩ := k w g
                  refine ⟨e2, he2, fun c hc => ?_⟩
                  have := step w g c
                  rw [if_neg (by omega)] at this
                  exact this.trans (h (c - 1) (by omega))
                · refine .inr (.inr (.inl fun w g c => ?_))
                  refine (step w g c).trans ?_
                  split
                  · rfl
                  · exact k w g _
                · by_cases hb2 : b ++ [x] = p ++ [t]
                  · obtain ⟨rfl, hx⟩ := List.append_inj' hb2 rfl
                    have hx : x = t := by simpa using hx
                    subst hx
                    refine .inr (.inr (.inl fun w g c => ?_))
                    exact tv_loop (T := 1 + T) (Y := Y) (by omega) (fun w g => (step w g).trans (k w g)) c w g
                  · rcases List.mem_cons.mp hA2 with h | h
                    · exact absurd h hb2
                    · exact .inr (.inr (.inr ⟨1 + T, b, x, Y, h, fun w g => (step w g).trans (k w g)⟩))
/-- the whole run -/
theorem tv_ends {L : List (List Str)} (hL : ∀ a abs ps, lk a = some (.link abs ps) → a ∈ L ∧ ps.length ≤ 2) (p X : List Str) :
    (∃ e, e ≠ .loop ∧ ∀ c, X.length * tn L.length + 1 ≤ c → tv lk keep c p X = e) ∨ ∀ c, tv lk keep c p X = .loop := by
  have hf : (L.filter fun x => decide (x ∉ ([] : List (List Str)))).length ≤ L.length := List.length_filter_le _ _
  have tp := tn_pos L.length
  by_cases hk : keep = false
  · have g : Gd keep [] := .inr hk
    rcases big (keep := keep) hL L.length [] hf X p with ⟨q, T, hT, k⟩ | ⟨T, hT, k⟩ | k | ⟨T, b, x, Y, hA, k⟩
    · have k := k [] g
      rw [List.append_nil] at k
      refine .inl ⟨.found q, by simp, fun c hc => ?_⟩
      rw [k c, if_neg (by omega)]
      obtain ⟨d, hd⟩ : ∃ d, c - T = d + 1 := ⟨c - T - 1, by omega⟩
      rw [hd]
      rfl
    · obtain ⟨e, he, h⟩ := k [] g
      rw [List.append_nil] at h
      exact .inl ⟨e, he, fun c hc => h c (by omega)⟩
    · have k := k [] g
      rw [List.append_nil] at k
      exact .inr k
    · cases hA
  · have hk : keep = true := by simpa using hk
    rcases List.eq_nil_or_concat X with rfl | ⟨I, t, rfl⟩
    · refine .inl ⟨.found p, by simp, fun c hc => ?_⟩
      obtain ⟨d, rfl⟩ : ∃ d, c = d + 1 := ⟨c - 1, by simp at hc; omega⟩
      rfl
    · have g : Gd keep [t] := .inl (by simp)
      have hlen : (I ++ [t]).length * tn L.length = I.length * tn L.length + tn L.length := by rw [List.length_append, Nat.add_mul]; simp
      rw [List.concat_eq_append]
      rcases big (keep := keep) hL L.length [] hf I p with ⟨q, T, hT, k⟩ | ⟨T, hT, k⟩ | k | ⟨T, b, x, Y, hA, k⟩
      · have k := k [t] g
        -- the last part
        have last : ∃ e, e ≠ .loop ∧ ∀ c, 2 ≤ c → tv lk keep c q [t] = e := by
          have pass : ∀ r, (∀ c, tv lk keep (c + 1) q [t] = tv lk keep c r []) → ∃ e, e ≠ .loop ∧ ∀ c, 2 ≤ c → tv lk keep c q [t] = e := fun r h => ⟨.found r, by simp, fun c hc => by
            obtain ⟨d, rfl⟩ : ∃ d, c = d + 1 + 1 := ⟨c - 2, by omega⟩
            rw [h (d + 1)]
            rfl⟩
          by_cases h1 : t = ".."
          · subst h1; exact pass _ fun c => tv_up c q []
          · by_cases h2 : t = "."
            · subst h2; exact pass _ fun c => tv_dot c q []
            · have hn := fun c => tv_name (lk := lk) (keep := keep) c q (t := t) [] h1 h2
              have fin : ∀ e, e ≠ .loop → (∀ c, tvL lk keep c q t [] (lk (q ++ [t])) = e) → ∃ e, e ≠ .loop ∧ ∀ c, 2 ≤ c → tv lk keep c q [t] = e := fun e he k => ⟨e, he, fun c hc => by
                obtain ⟨d, rfl⟩ : ∃ d, c = d + 1 := ⟨c - 1, by omega⟩
                exact (hn d).trans (k d)⟩
              cases e : lk (q ++ [t]) with
              | none => exact fin (.unk (q ++ [t]) []) (by simp) fun c => by rw [e]; rfl
              | some v =>
                cases v with
                | absent => exact fin .missing (by simp) fun c => by rw [e]; rfl
                | file => exact fin (.found (q ++ [t])) (by simp) fun c => by rw [e]; rfl
                | dir => exact pass (q ++ [t]) fun c => by rw [hn c, e]; rfl
                | link abs ps => exact fin (.found (q ++ [t])) (by simp) (fun c => (by rw [e]; exact if_pos ⟨rfl, hk⟩))
        obtain ⟨e, he, h⟩ := last
        refine .inl ⟨e, he, fun c hc => ?_⟩
        rw [k c, if_neg (by omega)]
        exact h (c - T) (by omega)
      · obtain ⟨e, he, h⟩ := k [t] g
        exact .inl ⟨e, he, fun c hc => h c (by omega)⟩
      · exact .inr (k [t] g)
      · cases hA
/-- counted in replacements: no more of these than of parts -/
theorem nv_of_tv {e : WEnd} (he : e ≠ .loop) : ∀ (c : Nat) (p X : List Str), tv lk keep c p X = e → ∀ N, c ≤ N → nv lk keep N p X = e := by
  intro c
  induction c with
  | zero => intro p X h; exact absurd h.symm he
  | succ c ih =>
    intro p X h N hN
    cases X with
    | nil => rw [nv_nil]; exact h
    | cons t ts =>
      by_cases h1 : t = ".."
      · subst h1; rw [nv_up]; rw [tv_up] at h; exact ih _ _ h N (by omega)
      · by_cases h2 : t = "."
        · subst h2; rw [nv_dot]; rw [tv_dot] at h; exact ih _ _ h N (by omega)
        · rw [nv_name _ _ _ h1 h2]
          rw [tv_name _ _ _ h1 h2] at h
          cases q : lk (p ++ [t]) with
          | none => rw [q] at h; exact h
          | some v =>
            rw [q] at h
            cases v with
            | absent => exact h
            | file => exact h
            | dir => exact ih _ _ h N (by omega)
            | link abs ps =>
              have h : (if ts = [] ∧ keep = true then WEnd.found (p ++ [t]) else tv lk keep c (base abs p) (ps ++ ts)) = e := h
              by_cases hz : ts = [] ∧ keep = true
              · rw [if_pos hz] at h
                rw [nvL_kept hz]
                exact h
              · rw [if_neg hz] at h
                rw [nvL_link hz, if_neg (by omega)]
                exact ih _ _ h (N - 1) (by omega)
theorem tv_of_nv {e : WEnd} (he : e ≠ .loop) : ∀ (N : Nat) (p X : List Str), nv lk keep N p X = e → ∃ c, tv lk keep c p X = e := by
  refine nv_ind lk (fun c p h => ⟨1, by rw [nv_nil] at h; exact h⟩) (fun c p ts ih h => ?_) (fun c p ts ih h => ?_) (fun c p t ts h1 h2 ihd ihl h => ?_)
  · rw [nv_up] at h; obtain ⟨d, hd⟩ := ih h; exact ⟨d + 1, by rw [tv_up]; exact hd⟩
  · rw [nv_dot] at h; obtain ⟨d, hd⟩ := ih h; exact ⟨d + 1, by rw [tv_dot]; exact hd⟩
  · rw [nv_name _ _ _ h1 h2] at h
    cases q : lk (p ++ [t]) with
    | none => rw [q] at h; exact ⟨1, by rw [tv_name _ _ _ h1 h2, q]; exact h⟩
    | some v =>
      rw [q] at h
      cases v with
      | absent => exact ⟨1, by rw [tv_name _ _ _ h1 h2, q]; exact h⟩
      | file => exact ⟨1, by rw [tv_name _ _ _ h1 h2, q]; exact h⟩
      | dir => obtain ⟨d, hd⟩ := ihd q h; exact ⟨d + 1, by rw [tv_name _ _ _ h1 h2, q]; exact hd⟩
      | link abs ps =>
        by_cases hz : ts = [] ∧ keep = true
        · rw [nvL_kept hz] at h
          refine ⟨1, ?_⟩
          rw [tv_name _ _ _ h1 h2, q]
          show (if _ then _ else _) = _
          rw [if_pos hz]
          exact h
        · rw [nvL_link hz] at h
          by_cases hc : c < 1
          · rw [if_pos hc] at h; exact absurd h.symm he
          · rw [if_neg hc] at h
            obtain ⟨d, hd⟩ := ihl abs ps q (c - 1) (by omega) _ rfl h
            refine ⟨d + 1, ?_⟩
            rw [tv_name _ _ _ h1 h2, q]
            show (if _ then _ else _) = _
            rw [if_neg hz]
            exact hd
/-- the limit is met within B parts, B replacements -/
theorem Lim.bound {L : List (List Str)} (hL : ∀ a abs ps, lk a = some (.link abs ps) → a ∈ L ∧ ps.length ≤ 2) {p X : List Str} {e : WEnd} (h : Lim lk keep p X e) : (∀ c, X.length * tn L.length + 1 ≤ c → tv lk keep c p X = e) ∧ ∀ N, X.length * tn L.length + 1 ≤ N → nv lk keep N p X = e := by
  rcases tv_ends (keep := keep) hL p X with ⟨e', he, k⟩ | k
  · have hl : Lim lk keep p X e' := ⟨_, fun N hN => nv_of_tv he _ p X (k _ (Nat.le_refl _)) N hN⟩
    have := hl.uniq h
    subst this
    exact ⟨k, fun N hN => nv_of_tv he _ p X (k _ (Nat.le_refl _)) N hN⟩
  · have hn : ∀ N, nv lk keep N p X = .loop := fun N => by
      cases hh : decide (nv lk keep N p X = .loop) with
      | true => exact of_decide_eq_true hh
      | false =>
        have hne := of_decide_eq_false hh
        obtain ⟨c, hc⟩ := tv_of_nv hne N p X rfl
        rw [k c] at hc
        exact absurd hc.symm hne
    have hl : Lim lk keep p X .loop := ⟨0, fun N _ => hn N⟩
    have := hl.uniq h
    subst this
    exact ⟨fun c _ => k c, fun N _ => hn N⟩
end Nv
end

section
set_option Elab.async false
set_option linter.all false
set_option maxRecDepth 100000
namespace Ma
open PySem PySem.Spec PyProof.Rows L2 De Nv
theorem compGo_map {step : D → Res (Option D)} {g : D → D} : ∀ {ds : List D}, (∀ d ∈ ds, step d = .ok (some (g d))) → compGo step ds = .ok (ds.map g)
  | [], _ => rfl
  | d :: ds, h => by
    unfold compGo
    rw [h d (List.mem_cons_self ..), compGo_map fun e he => h e (List.mem_cons_of_mem _ he)]
    rfl
theorem compGo_filter {step : D → Res (Option D)} {p : D → Bool} {g : D → D} : ∀ {ds : List D}, (∀ d ∈ ds, step d = .ok (if p d = true then some (g d) else none)) → compGo step ds = .ok ((ds.filter p).map g)
  | [], _ => rfl
  | d :: ds, h => by
    unfold compGo
    rw [h d (List.mem_cons_self ..), compGo_filter fun e he => h e (List.mem_cons_of_mem _ he)]
    cases e : p d with
    | true => simp [Res.plain, List.filter_cons_of_pos e]
    | false => simp [Res.plain, e]
theorem mSeq_next {m1 m2 : MS} {ρ ρ' : Rho} (h : m1 ρ = .next ρ') : mSeq m1 m2 ρ = m2 ρ' := by unfold mSeq; rw [h]
theorem mSeq_ret {m1 m2 : MS} {ρ : Rho} {d : D} (h : m1 ρ = .ret d) : mSeq m1 m2 ρ = .ret d := by unfold mSeq; rw [h]
theorem fDiv_ok (i : Int) {j : Int} (h : 0 < j) (h2 : j.natAbs.log2 < 9000) : fDiv (.int i) (.int j) = .ok (.int (i / j)) := if_pos ⟨h, h2⟩
theorem fMod_ok (i : Int) {j : Int} (h : 0 < j) : fMod (.int i) (.int j) = .ok (.int (i % j)) := if_pos h
theorem fMul_r (i : Int) {j : Int} (h : j.natAbs < 4611686018427387904) : fMul (.int i) (.int j) = .ok (.int (i * j)) := if_pos (.inr h)
theorem fMul_l {i : Int} (j : Int) (h : i.natAbs < 4611686018427387904) : fMul (.int i) (.int j) = .ok (.int (i * j)) := if_pos (.inl h)
theorem compGo_ex {step : D → Res (Option D)} {P : D → Prop} : ∀ {ds : List D}, (∀ d ∈ ds, ∃ y, step d = .ok (some y) ∧ P y) → ∃ ys, compGo step ds = .ok ys ∧ ys.length = ds.length ∧ ∀ y ∈ ys, P y
  | [], _ => ⟨[], rfl, rfl, fun _ h => by simp at h⟩
  | d :: ds, h => by
    obtain ⟨y, h1, h2⟩ := h d (List.mem_cons_self ..)
    obtain ⟨ys, h3, h4, h5⟩ := compGo_ex (ds := ds) fun e he => h e (List.mem_cons_of_mem _ he)
    refine ⟨y :: ys, ?_, by simp [h4], fun z hz => ?_⟩
    · unfold compGo
      rw [h1, h3]
      rfl
    · rcases List.mem_cons.mp hz with rfl | hz
      · exact h2
      · exact h5 z hz
theorem lc_of {mi : MI} {t : Tg} {vs : List Nat} {mt : MT} {me : M} {ρ : Rho} {ds ys : List D} (h1 : mi ρ = .ok ds) (h2 : compGo (mStep t vs mt me ρ) ds = .ok ys) : mLc mi t vs mt me ρ = .ok (.list ys) := by
  unfold mLc
  rw [h1]
  simp only [Res.bind]
  rw [h2]
theorem step_some {t : Tg} {vs : List Nat} {me : M} {ρ ρ1 : Rho} {d y : D} (h2 : me ρ1 = .ok y) (h1 : t.put d (wipeR ρ vs) = some ρ1 := by rfl) : mStep t vs mYes me ρ d = .ok (some y) := by
  unfold mStep
  rw [h1]
  simp only [mYes, Res.bind, if_true]
  rw [h2]
theorem step_if {t : Tg} {vs : List Nat} {mt : MT} {me : M} {ρ ρ1 : Rho} {d y : D} {b : Bool} (h3 : mt ρ1 = .ok b) (h2 : me ρ1 = .ok y) (h1 : t.put d (wipeR ρ vs) = some ρ1 := by rfl) : mStep t vs mt me ρ d = .ok (if b = true then some y else none) := by
  unfold mStep
  rw [h1]
  simp only
  rw [h3]
  simp only [Res.bind]
  cases b
  · rfl
  · simp only [if_true]
    rw [h2]
theorem vOk {i : Nat} {ρ : Rho} {d : D} (h : ρ[i]? = some (some (.dat d)) := by rfl) : mVar i ρ = .ok d := by unfold mVar; rw [h]
theorem opOk {f : D → D → Res D} {m1 m2 : M} {ρ : Rho} {a b c : D} (h1 : m1 ρ = .ok a) (h2 : m2 ρ = .ok b) (h : f a b = .ok c) : mOp f m1 m2 ρ = .ok c := by unfold mOp; rw [h1]; simp only [Res.bind]; rw [h2]; simp only; rw [h]; rfl
theorem consOk {m : M} {r : MA} {ρ : Rho} {d : D} {ds : List D} (h1 : m ρ = .ok d) (h2 : r ρ = .ok ds) : mCons m r ρ = .ok (d :: ds) := by unfold mCons; rw [h1]; simp only [Res.bind]; rw [h2]
theorem callOk {n : Nat} {f : List D → Res D} {m : MA} {ρ : Rho} {ds : List D} {r : Res D} (h1 : m ρ = .ok ds) (h : f ds = r) (hl : ds.length = n := by rfl) : mCall n f m ρ = r := by unfold mCall; rw [h1]; simp only [Res.bind]; rw [if_pos hl, h]
theorem callBOk {f : List D → Res D} {m : MA} {ρ : Rho} {ds : List D} {d : D} (h1 : m ρ = .ok ds) (h : f ds = .ok d) : mCallB f m ρ = .ok d := by unfold mCallB; rw [h1]; simp only [Res.bind]; rw [h]; rfl
theorem setOk {i : Nat} {m : M} {ρ ρ' : Rho} {d : D} (h : m ρ = .ok d) (e : ρ.set i (some (.dat d)) = ρ' := by rfl) : mSet i m ρ = .next ρ' := by unfold mSet; rw [h, Res.st_ok, e]
theorem retOk {m : M} {ρ : Rho} {d : D} (h : m ρ = .ok d) : mRet m ρ = .ret d := by unfold mRet; rw [h, Res.st_ok]
theorem tstOk {m : M} {ρ : Rho} {b : Bool} (h : m ρ = .ok (.bool b)) : mTest m ρ = .ok b := by unfold mTest; rw [h]; rfl
theorem ifOk {t : MT} {m1 m2 : M} {ρ : Rho} {b : Bool} (h : t ρ = .ok b) : mIf t m1 m2 ρ = if b = true then m1 ρ else m2 ρ := by unfold mIf; rw [h]; rfl
theorem ifsOk {t : MT} {m1 m2 : MS} {ρ : Rho} {b : Bool} (h : t ρ = .ok b) : mIfS t m1 m2 ρ = if b = true then m1 ρ else m2 ρ := by unfold mIfS; rw [h, Res.st_ok]
theorem tupOk {m : MA} {ρ : Rho} {ds : List D} (h : m ρ = .ok ds) (hl : ds.length ≤ 1000 := by exact Nat.le_of_ble_eq_true rfl) : mTup m ρ = .ok (.tuple ds) := by
  unfold mTup
  rw [h]
  exact if_pos (Nat.le_trans hl (by decide))
theorem lstOk {m : MA} {ρ : Rho} {ds : List D} (h : m ρ = .ok ds) (hl : ds.length ≤ 1000 := by exact Nat.le_of_ble_eq_true rfl) : mLst m ρ = .ok (.list ds) := by
  unfold mLst
  rw [h]
  exact if_pos (Nat.le_trans hl (by decide))
theorem eq_int (a b : Int) : fEq (.int a) (.int b) = .ok (.bool (decide (a = b))) := by
  show Res.ok (PyData.bool (PyData.eqv (.int a) (.int b))) = _
  by_cases h : a = b <;> simp [PyData.eqv, h]
theorem cut1 {α : Type} (xs : List α) : De.cutD xs (some 1) none = xs.tail := by
  cases xs with
  | nil => rfl
  | cons x xs =>
    unfold De.cutD HT.sIx
    simp
theorem cutInit {α : Type} (xs : List α) : De.cutD xs none (some (-1)) = xs.dropLast := by
  unfold De.cutD HT.sIx
  simp
  rw [List.dropLast_eq_take]
  congr 1
  omega
theorem cutTo {α : Type} (xs : List α) (n : Nat) : De.cutD xs none (some (n : Int)) = xs.take n := by
  unfold De.cutD
  rw [HT.sIx_nat, HT.sIx_none, List.drop_zero, Nat.sub_zero]
  by_cases h : n ≤ xs.length
  · rw [Nat.min_eq_left h]
  · rw [Nat.min_eq_right (by omega), List.take_of_length_le (Nat.le_refl _), List.take_of_length_le (by omega)]
/-- a row of texts -/
abbrev tD (xs : List Str) : D := .tuple (xs.map PyData.str)
def startS (abs : Bool) : Str := if abs = true then "/" else ""
/-- a path, a link's target -/
abbrev pathD (abs : Bool) (ps : List Str) : D := .tuple [.str (startS abs), tD ps]
theorem atI_nat {α : Type} {xs : List α} {r : Int} (h0 : 0 ≤ r) (h1 : r < (xs.length : Int)) : L2.atI xs r = xs[r.toNat]? := by
  unfold L2.atI L2.ixN
  rw [if_pos h0, if_pos h1, Option.bind_some]
theorem idx_tup {xs : List D} {r : Int} (h0 : 0 ≤ r) (h1 : r < (xs.length : Int)) : ∃ x ∈ xs, fIdx (.tuple xs) (.int r) = .ok x := by
  have hl : r.toNat < xs.length := by omega
  refine ⟨xs[r.toNat], List.getElem_mem hl, ?_⟩
  show (match L2.atI xs r with | some x => Res.ok x | none => .stuck) = _
  rw [atI_nat h0 h1, List.getElem?_eq_getElem hl]
theorem idx_lst {xs : List D} {r : Int} (h0 : 0 ≤ r) (h1 : r < (xs.length : Int)) : ∃ x ∈ xs, fIdx (.list xs) (.int r) = .ok x := by
  have hl : r.toNat < xs.length := by omega
  refine ⟨xs[r.toNat], List.getElem_mem hl, ?_⟩
  show (match L2.atI xs r with | some x => Res.ok x | none => .stuck) = _
  rw [atI_nat h0 h1, List.getElem?_eq_getElem hl]
theorem idx_words {ws : List Str} {r : Int} (h0 : 0 ≤ r) (h1 : r < (ws.length : Int)) : ∃ w ∈ ws, fIdx (tD ws) (.int r) = .ok (.str w) := by
  obtain ⟨x, hx, e⟩ := idx_tup (xs := ws.map PyData.str) h0 (by simpa using h1)
  obtain ⟨w, hw, rfl⟩ := List.mem_map.mp hx
  exact ⟨w, hw, e⟩
theorem strs_of {ys : List D} {ws : List Str} (h : ∀ y ∈ ys, ∃ w ∈ ws, y = .str w) : ∃ ps : List Str, ys = ps.map PyData.str ∧ ps.length = ys.length ∧ ∀ p ∈ ps, p ∈ ws := by
  induction ys with
  | nil => exact ⟨[], rfl, rfl, fun _ h => by simp at h⟩
  | cons y ys ih =>
    obtain ⟨w, hw, rfl⟩ := h y (List.mem_cons_self ..)
    obtain ⟨ps, rfl, h2, h3⟩ := ih fun z hz => h z (List.mem_cons_of_mem _ hz)
    refine ⟨w :: ps, rfl, by simp, fun p hp => ?_⟩
    rcases List.mem_cons.mp hp with rfl | hp
    · exact hw
    · exact h3 p hp
theorem mem_rng {lo : Int} {n : Nat} {d : D} (h : d ∈ rng lo n) : ∃ i : Nat, i < n ∧ d = .int (lo + (i : Int)) := by
  unfold rng at h
  obtain ⟨i, hi, rfl⟩ := List.mem_map.mp h
  exact ⟨i, List.mem_range.mp hi, rfl⟩
end Ma
end

section
set_option Elab.async false
set_option linter.all false
set_option maxRecDepth 100000
namespace Ma
open PySem PySem.Spec PyProof.Rows L2 De Nv
/-- a name -/
def letS : Str := "abcdefghijklmnopqrstuvwxyz"
def nameT (x : Str) : Bool := decide (1 ≤ x.length) && decide (x.length ≤ 3) && x.cps.toList.all fun c => decide (c ∈ letS.cps.toList)
abbrev Nm (x : Str) : Prop := nameT x = true ∧ wrName x = false ∧ PyData.strOk x = true ∧ x ≠ ".." ∧ x ≠ "."
/-- a part of a path -/
abbrev Wd (x : Str) : Prop := x = ".." ∨ x = "." ∨ Nm x
theorem Wd.snd {x : Str} (h : Wd x) : PyData.strOk x = true := by
  rcases h with rfl | rfl | h
  · decide +kernel
  · decide +kernel
  · exact h.2.2.1
open PySem.W (alike alikeAll)
def wD : Wh → D
  | .dir => .str "dir"
  | .file => .str "file"
  | .absent => .str "absent"
  | .link abs ps => pathD abs ps
abbrev Rows := List (List Str × Wh)
def rowP (r : List Str × Wh) : D × D := (tD r.1, wD r.2)
def rowD (r : List Str × Wh) : D := .tuple [tD r.1, wD r.2]
structure Good (rs : Rows) : Prop where
  nd : (rs.map (·.1)).Nodup
  ne : ∀ r ∈ rs, r.1 ≠ []
  len : ∀ r ∈ rs, r.1.length ≤ 30
  dlen : ∀ r ∈ rs, r.2 = .dir → r.1.length ≤ 29
  nm : ∀ r ∈ rs, ∀ x ∈ r.1, Nm x
  par : ∀ r ∈ rs, r.1.dropLast = [] ∨ (r.1.dropLast, Wh.dir) ∈ rs
  lnk : ∀ r ∈ rs, ∀ abs ps, r.2 = .link abs ps → ps.length ≤ 12 ∧ (abs = false → ps ≠ []) ∧ ∀ x ∈ ps, Wd x
/-- what stands at a -/
def at_ (rs : Rows) (a : List Str) : Option Wh := (rs.find? fun r => decide (r.1 = a)).map (·.2)
theorem isKey_tD (x y : List Str) : inD.isKey (tD x) (tD y) = decide (x = y) := sameKs_iff x y
theorem dfind_rows (a : List Str) : ∀ rs : Rows, dfind (rs.map rowP) (tD a) = (at_ rs a).map wD
  | [] => rfl
  | r :: rs => by
    have ih := dfind_rows a rs
    unfold dfind at_ at ih ⊢
    rw [List.map_cons, List.find?_cons, List.find?_cons]
    have e : inD.isKey (rowP r).1 (tD a) = decide (r.1 = a) := isKey_tD r.1 a
    rw [e]
    cases decide (r.1 = a) with
    | true => rfl
    | false => exact ih
theorem any_rows (a : List Str) : ∀ rs : Rows, ((rs.map rowP).any fun kv => inD.isKey kv.1 (tD a)) = (at_ rs a).isSome
  | [] => rfl
  | r :: rs => by
    have ih := any_rows a rs
    unfold at_ at ih ⊢
    rw [List.map_cons, List.any_cons, List.find?_cons]
    have e : inD.isKey (rowP r).1 (tD a) = decide (r.1 = a) := isKey_tD r.1 a
    rw [e, ih]
    cases decide (r.1 = a) with
    | true => rfl
    | false => rfl
theorem at_mem {rs : Rows} {a : List Str} {w : Wh} (h : at_ rs a = some w) : (a, w) ∈ rs := by
  unfold at_ at h
  obtain ⟨r, h1, rfl⟩ := Option.map_eq_some_iff.mp h
  have h2 := List.find?_some h1
  have h3 := List.mem_of_find?_eq_some h1
  have : r.1 = a := by simpa using h2
  subst this
  exact h3
theorem at_of {rs : Rows} (nd : (rs.map (·.1)).Nodup) {a : List Str} {w : Wh} (h : (a, w) ∈ rs) : at_ rs a = some w := by
  induction rs with
  | nil => cases h
  | cons r rs ih =>
    rw [List.map_cons, List.nodup_cons] at nd
    unfold at_
    rw [List.find?_cons]
    rcases List.mem_cons.mp h with rfl | h
    · simp
    · have hne : ¬ r.1 = a := fun e => nd.1 (by rw [e]; exact List.mem_map.mpr ⟨_, h, rfl⟩)
      rw [decide_eq_false hne]
      exact ih nd.2 h
theorem at_none {rs : Rows} {a : List Str} (h : at_ rs a = none) : ∀ r ∈ rs, r.1 ≠ a := by
  intro r hr e
  unfold at_ at h
  have := List.find?_eq_none.mp (Option.map_eq_none_iff.mp h) r hr
  simp [e] at this
theorem allT_rows (rs : Rows) : allT (rs.map rowP) = true := by
  unfold allT
  rw [List.all_map]
  exact List.all_eq_true.mpr fun r _ => rfl
theorem keyD_rows {rs : Rows} (ne : ∀ r ∈ rs, r.1 ≠ []) : ((rs.map rowP).all fun kv => keyD kv.1) = true := by
  rw [List.all_map]
  exact List.all_eq_true.mpr fun r hr => keyish_str (ne r hr)
theorem keyOk_names {xs : List Str} (ne : xs ≠ []) (h : ∀ x ∈ xs, wrName x = false) : inD.keyOk (xs.map PyData.str) = true := by
  match xs, ne with
  | [x], _ => simp [inD.keyOk, h x (List.mem_cons_self ..)]
  | x :: y :: r, _ => simp [inD.keyOk]
theorem alike_strs : ∀ xs ys : List Str, alikeAll (xs.map PyData.str) (ys.map PyData.str) = true
  | [], _ => by simp [alikeAll]
  | x :: xs, [] => by simp [alikeAll]
  | x :: xs, y :: ys => by
    rw [List.map_cons, List.map_cons, alikeAll, alike_strs xs ys]
    simp [alike]
theorem pairOk_tD {xs ys : List Str} (hx : xs ≠ []) (hy : ys ≠ []) : pairOk (tD xs) (tD ys) = true := by
  match xs, ys, hx, hy with
  | x :: xs, y :: ys, _, _ =>
    show (alikeAll ((x :: xs).map PyData.str) ((y :: ys).map PyData.str) || _) = true
    rw [alike_strs]
    rfl
/-- sound texts -/
abbrev Snd (xs : List Str) : Prop := ∀ x ∈ xs, PyData.strOk x = true
theorem canLay_strs : ∀ xs : List Str, Snd xs → PyData.canLayAll0 (xs.map PyData.str) = true ∧ PyData.depthAll (xs.map PyData.str) ≤ 1
  | [], _ => ⟨rfl, by simp [PyData.depthAll]⟩
  | x :: xs, h => by
    obtain ⟨h1, h2⟩ := canLay_strs xs fun y hy => h y (List.mem_cons_of_mem _ hy)
    exact ⟨by simp [PyData.canLayAll0, PyData.canLay0, h1, h x (List.mem_cons_self ..)], by simp only [List.map_cons, PyData.depthAll, PyData.depth]; omega⟩
theorem shaped_tD {xs : List Str} (h : Snd xs) : SeqAt.shaped (tD xs) = true := by
  obtain ⟨h1, h2⟩ := canLay_strs xs h
  unfold SeqAt.shaped
  rw [Bool.and_eq_true]
  exact ⟨by simpa [PyData.canLay0] using h1, decide_eq_true (by simp only [PyData.depth]; omega)⟩
theorem shaped_str {x : Str} (h : PyData.strOk x = true) : SeqAt.shaped (.str x) = true := by
  unfold SeqAt.shaped
  simp [PyData.canLay0, PyData.depth, h]
theorem strOk_start (abs : Bool) : PyData.strOk (startS abs) = true := by cases abs <;> decide +kernel
theorem shaped_path (abs : Bool) {ps : List Str} (h : Snd ps) : SeqAt.shaped (pathD abs ps) = true := by
  obtain ⟨h1, h2⟩ := canLay_strs ps h
  unfold SeqAt.shaped
  rw [Bool.and_eq_true]
  refine ⟨?_, decide_eq_true ?_⟩
  · simp only [PyData.canLay0, PyData.canLayAll0, h1, strOk_start, Bool.and_self]
  · simp only [PyData.depth, PyData.depthAll]; omega
def SndW : Wh → Prop
  | .link _ ps => Snd ps
  | _ => True
theorem shaped_wD {w : Wh} (h : SndW w) : SeqAt.shaped (wD w) = true := by
  cases w with
  | link abs ps => exact shaped_path abs h
  | dir => exact shaped_str (by decide +kernel)
  | file => exact shaped_str (by decide +kernel)
  | absent => exact shaped_str (by decide +kernel)
/-- is it this text -/
def isW (w : Wh) (z : Str) : Bool := match w with
  | .dir => decide (z = "dir")
  | .file => decide (z = "file")
  | .absent => decide (z = "absent")
  | .link _ _ => false
theorem eqv_str (x y : Str) : PyData.eqv (.str x) (.str y) = decide (x = y) := by
  by_cases h : x = y <;> simp [PyData.eqv, h]
theorem eqv_wD (w : Wh) (z : Str) : PyData.eqv (wD w) (.str z) = isW w z := by
  cases w with
  | link abs ps => simp [wD, PyData.eqv, isW]
  | dir => exact (eqv_str _ _).trans (by unfold isW; by_cases h : z = "dir" <;> simp [h, eq_comm])
  | file => exact (eqv_str _ _).trans (by unfold isW; by_cases h : z = "file" <;> simp [h, eq_comm])
  | absent => exact (eqv_str _ _).trans (by unfold isW; by_cases h : z = "absent" <;> simp [h, eq_comm])
theorem fEq_w {w : Wh} (hw : SndW w) {z : Str} (hz : PyData.strOk z = true) : fEq (wD w) (.str z) = .ok (.bool (isW w z)) := by
  have e : fEq (wD w) (.str z) = if (SeqAt.shaped (wD w) && SeqAt.shaped (.str z)) = true then .ok (.bool (PyData.eqv (wD w) (.str z))) else .stuck := by
    unfold fEq
    cases w <;> rfl
  rw [e, shaped_wD hw, shaped_str hz, eqv_wD]
  rfl
theorem fNe_w {w : Wh} (hw : SndW w) {z : Str} (hz : PyData.strOk z = true) : fNe (wD w) (.str z) = .ok (.bool (!isW w z)) := by
  have e : fNe (wD w) (.str z) = if (SeqAt.shaped (wD w) && SeqAt.shaped (.str z)) = true then .ok (.bool (!PyData.eqv (wD w) (.str z))) else .stuck := by
    unfold fNe
    cases w <;> rfl
  rw [e, shaped_wD hw, shaped_str hz, eqv_wD]
  rfl
theorem compGo_fm {α : Type} {step : D → Res (Option D)} {f : α → D} {p : α → Bool} {g : α → D} : ∀ {rs : List α}, (∀ r ∈ rs, step (f r) = .ok (if p r = true then some (g r) else none)) → compGo step (rs.map f) = .ok ((rs.filter p).map g)
  | [], _ => rfl
  | r :: rs, h => by
    rw [List.map_cons]
    unfold compGo
    rw [h r (List.mem_cons_self ..), compGo_fm (rs := rs) fun e he => h e (List.mem_cons_of_mem _ he)]
    cases e : p r with
    | true => simp [Res.plain, List.filter_cons_of_pos e]
    | false => simp [Res.plain, e]
theorem flat_strs : ∀ xs : List Str, flatAll (xs.map PyData.str) = true
  | [] => by simp [flatAll]
  | x :: xs => by simp [flatAll, flat, flat_strs xs]
theorem flat_tDs : ∀ xs : List (List Str), flatAll (xs.map tD) = true
  | [] => by simp [flatAll]
  | x :: xs => by simp [flatAll, flat, flat_strs x, flat_tDs xs]
theorem sz_big {n : Nat} (h : n ≤ 100000) : n ≤ sizeLine := Nat.le_trans h (by decide)
theorem Good.sndA {rs : Rows} (g : Good rs) {r : List Str × Wh} (h : r ∈ rs) : Snd r.1 := fun x hx => (g.nm r h x hx).2.2.1
theorem Good.sndW {rs : Rows} (g : Good rs) {r : List Str × Wh} (h : r ∈ rs) : SndW r.2 := by
  cases e : r.2 with
  | link abs ps => exact fun x hx => ((g.lnk r h abs ps e).2.2 x hx).snd
  | _ => trivial
theorem perm_map {α β : Type} {f : α → β} {l : List β} {xs : List α} (h : l.Perm (xs.map f)) : ∃ ys : List α, l = ys.map f ∧ ys.Perm xs := by
  induction xs generalizing l with
  | nil => exact ⟨[], List.Perm.eq_nil h, .nil⟩
  | cons x xs ih =>
    have hm : f x ∈ l := h.mem_iff.mpr (by simp)
    obtain ⟨l1, l2, rfl⟩ := List.append_of_mem hm
    have h2 : (l1 ++ l2).Perm (xs.map f) := List.Perm.cons_inv ((List.perm_middle.symm).trans h)
    obtain ⟨ys, e, hp⟩ := ih h2
    refine ⟨ys.take l1.length ++ x :: ys.drop l1.length, ?_, ?_⟩
    · have hl : l1.length ≤ ys.length := by
        have := congrArg List.length e
        simp at this
        omega
      have e1 : l1 = (ys.take l1.length).map f := by
        rw [List.map_take, ← e, List.take_left']; rfl
      have e2 : l2 = (ys.drop l1.length).map f := by
        rw [List.map_drop, ← e, List.drop_left']; rfl
      rw [List.map_append, List.map_cons, ← e1, ← e2]
    · refine List.perm_middle.trans (List.Perm.cons x ?_)
      rw [List.take_append_drop]
      exact hp
/-- sorted(addresses) -/
theorem sort_ads (as : List (List Str)) (ne : ∀ a ∈ as, a ≠ []) (snd : ∀ a ∈ as, Snd a) (hl : as.length ≤ 100000) : ∃ bs : List (List Str), fSorted [.list (as.map tD)] = .ok (.list (bs.map tD)) ∧ bs.Perm as := by
  obtain ⟨bs, e, hp⟩ := perm_map (List.mergeSort_perm (as.map tD) leD)
  refine ⟨bs, ?_, hp⟩
  show fSortL (as.map tD) = _
  unfold fSortL
  rw [if_pos, e]
  refine ⟨?_, by rw [List.length_map]; exact sz_big hl⟩
  unfold sortOk
  rw [Bool.and_eq_true]
  refine ⟨List.all_eq_true.mpr fun d hd => ?_, List.all_eq_true.mpr fun d hd => List.all_eq_true.mpr fun d' hd' => ?_⟩
  · obtain ⟨a, ha, rfl⟩ := List.mem_map.mp hd
    exact shaped_tD (snd a ha)
  · obtain ⟨a, ha, rfl⟩ := List.mem_map.mp hd
    obtain ⟨b, hb, rfl⟩ := List.mem_map.mp hd'
    exact pairOk_tD (ne a ha) (ne b hb)
theorem vlOk {i : Nat} {ρ : Rho} {d : D} (h : ρ[i]? = some (some (.lck d)) := by rfl) : mVar i ρ = .ok d := by unfold mVar; rw [h]
theorem get_rows {rs : Rows} (g : Good rs) {r : List Str × Wh} (h : r ∈ rs) : dgetK (.dict (rs.map rowP)) (tD r.1) = .ok (wD r.2) := by
  show (if inD.keyOk (r.1.map PyData.str) = true ∧ allT (rs.map rowP) = true then (match dfind (rs.map rowP) (tD r.1) with | some d => Res.ok d | none => .stuck) else .stuck) = _
  rw [if_pos ⟨keyOk_names (g.ne r h) fun x hx => (g.nm r h x hx).2.1, allT_rows rs⟩, dfind_rows, at_of g.nd (w := r.2) (by exact h)]
  rfl
/-- the dir rows' keys -/
def dirRows (rs : Rows) : List (List Str) := (rs.filter fun r => isW r.2 "dir").map (·.1)
theorem isW_dir {w : Wh} : isW w "dir" = true ↔ w = .dir := by
  cases w <;> simp [isW] <;> decide
theorem mem_dirs {rs : Rows} {a : List Str} (h : a ∈ dirRows rs) : (a, Wh.dir) ∈ rs := by
  obtain ⟨r, hr, rfl⟩ := List.mem_map.mp h
  obtain ⟨h1, h2⟩ := List.mem_filter.mp hr
  rw [isW_dir] at h2
  rw [← h2]
  exact h1
theorem put_new {rs : Rows} {a : List Str} {w : Wh} (h : at_ rs a = none) : dputK (rs.map rowP) (tD a) (wD w) = (rs ++ [(a, w)]).map rowP := by
  unfold dputK
  rw [any_rows, h, List.map_append]
  rfl
theorem in_rows {rs : Rows} {a : List Str} (ne : a ≠ []) (nm : ∀ x ∈ a, Nm x) : fNotIn (tD a) (.dict (rs.map rowP)) = .ok (.bool (at_ rs a).isNone) := by
  have e : inD (tD a) (.dict (rs.map rowP)) = .ok (at_ rs a).isSome := by
    show (if inD.keyOk (a.map PyData.str) = true ∧ ((rs.map rowP).all fun kv => inD.isTup kv.1) = true then Res.ok ((rs.map rowP).any fun kv => inD.isKey kv.1 (tD a)) else .stuck) = _
    rw [if_pos ⟨keyOk_names ne fun x hx => (nm x hx).2.1, allT_rows rs⟩, any_rows]
  unfold fNotIn
  rw [e]
  cases at_ rs a <;> rfl
theorem Good.add {rs : Rows} (g : Good rs) {a : List Str} {w : Wh} (hn : at_ rs a = none) (ne : a ≠ []) (hl : a.length ≤ 30) (hd : w = .dir → a.length ≤ 29) (nm : ∀ x ∈ a, Nm x) (hp : a.dropLast = [] ∨ (a.dropLast, Wh.dir) ∈ rs)
    (hw : ∀ abs ps, w = .link abs ps → ps.length ≤ 12 ∧ (abs = false → ps ≠ []) ∧ ∀ x ∈ ps, Wd x) : Good (rs ++ [(a, w)]) := by
  have hm : ∀ r, r ∈ rs ++ [(a, w)] → r ∈ rs ∨ r = (a, w) := fun r h => by simpa using h
  refine ⟨?_, fun r h => ?_, fun r h => ?_, fun r h => ?_, fun r h => ?_, fun r h => ?_, fun r h => ?_⟩
  · rw [List.map_append, List.nodup_append]
    refine ⟨g.nd, by simp, fun x hx y hy e => ?_⟩
    obtain ⟨r, hr, rfl⟩ := List.mem_map.mp hx
    have : y = a := by simpa using hy
    subst this
    exact at_none hn r hr e
  · rcases hm r h with h | rfl
    · exact g.ne r h
    · exact ne
  · rcases hm r h with h | rfl
    · exact g.len r h
    · exact hl
  · rcases hm r h with h | rfl
    · exact g.dlen r h
    · exact hd
  · rcases hm r h with h | rfl
    · exact g.nm r h
    · exact nm
  · rcases hm r h with h | rfl
    · exact (g.par r h).imp id fun h => List.mem_append_left _ h
    · exact hp.imp id fun h => List.mem_append_left _ h
  · rcases hm r h with h | rfl
    · exact g.lnk r h
    · exact hw
end Ma
end

section
set_option Elab.async false
set_option linter.all false
set_option maxRecDepth 100000
namespace Ma
open PySem PySem.Spec PyProof.Rows L2 De Nv
theorem lckOk {i : Nat} {m : M} {ok : D → Bool} {ρ : Rho} {kvs : List (D × D)} {d : D} (ht : allT kvs = true) (hm : m (ρ.set i (some (.lck (.dict kvs)))) = .ok d) (hf : ok d = true) (h : ρ[i]? = some (some (.own (.dict kvs))) := by rfl) : lckR i m ok ρ = .ok d := by
  have e : lckS i ρ = some (ρ.set i (some (.lck (.dict kvs))), true) := by
    unfold lckS
    rw [h]
    simp only
    rw [if_pos ht]
  unfold lckR
  rw [e]
  simp only
  rw [hm]
  simp only [Res.plain, Res.bind, hf, Bool.not_true, Bool.or_true, if_true]
theorem lockOk {α : Type} {i : Nat} {f : Rho → Res α} {ok : α → Bool} {ρ : Rho} {d : D} {r : α} (hf : f (ρ.set i (some (.dat d))) = .ok r) (ho : ok r = true) (h : ρ[i]? = some (some (.own d)) := by rfl) : lockR i f ok ρ = .ok r := by
  unfold lockR
  rw [h]
  simp only
  unfold viewR
  rw [hf]
  simp only [Res.bind, ho, if_true]
theorem eq_str {x y : Str} (hx : PyData.strOk x = true) (hy : PyData.strOk y = true) : fEq (.str x) (.str y) = .ok (.bool (decide (x = y))) := by
  unfold fEq
  rw [shaped_str hx, shaped_str hy, eqv_str]
  rfl
theorem andT_ok {m1 m2 : MT} {ρ : Rho} {b c : Bool} (h1 : m1 ρ = .ok b) (h2 : m2 ρ = .ok c) : mAndT m1 m2 ρ = .ok (b && c) := by
  unfold mAndT
  rw [h1]
  cases b
  · rfl
  · exact h2
theorem orT_ok {m1 m2 : MT} {ρ : Rho} {b c : Bool} (h1 : m1 ρ = .ok b) (h2 : m2 ρ = .ok c) : mOrT m1 m2 ρ = .ok (b || c) := by
  unfold mOrT
  rw [h1]
  cases b
  · exact h2
  · rfl
theorem cat_ok {xs ys : List D} (h : xs.length + ys.length ≤ 100000) : fCat (.list xs) (.list ys) = .ok (.list (xs ++ ys)) := if_pos (sz_big h)
theorem add_tup {xs ys : List Str} (h : xs.length + ys.length ≤ 100000) : fAdd (tD xs) (tD ys) = .ok (tD (xs ++ ys)) := by
  show (if (xs.map PyData.str).length + (ys.map PyData.str).length ≤ sizeLine then Res.ok (PyData.tuple (xs.map PyData.str ++ ys.map PyData.str)) else .stuck) = _
  rw [if_pos (sz_big (by simpa using h)), ← List.map_append]
theorem dput_ok {i : Nat} {mk mv : M} {ρ ρ' : Rho} {kvs : List (D × D)} {ks : List D} {v : D} (hv : mv ρ = .ok v) (ht : allT kvs = true) (hl : kvs.length ≤ 90000) (hk : mk ρ = .ok (.tuple ks)) (hko : inD.keyOk ks = true)
    (e : ρ.set i (some (.own (.dict (dputK kvs (.tuple ks) v)))) = ρ' := by rfl) (h : ρ[i]? = some (some (.own (.dict kvs))) := by rfl) : mDPut i mk mv ρ = .next ρ' := by
  unfold mDPut
  rw [hv, Res.st_ok, h]
  simp only
  rw [if_pos ⟨ht, Nat.lt_of_le_of_lt hl (by decide)⟩, hk, Res.st_ok]
  simp only
  rw [if_pos hko, e]
def kindOf : Wh → Str
  | .dir => "dir"
  | .file => "file"
  | .absent => "absent"
  | .link _ _ => "link"
def kwords : List Str := ["dir", "file", "absent", "link"]
open PySem.W (alike alikeAll dataLt dataLt_cons dataLt_tuple sort_pairwise sortLe_total keyToks keyToksAll)
theorem eqvAll_strs : ∀ xs ys : List Str, PyData.eqvAll (xs.map PyData.str) (ys.map PyData.str) = decide (xs = ys)
  | [], [] => by simp [PyData.eqvAll]
  | [], _ :: _ => by simp [PyData.eqvAll]
  | _ :: _, [] => by simp [PyData.eqvAll]
  | x :: xs, y :: ys => by
    rw [List.map_cons, List.map_cons, PyData.eqvAll, eqvAll_strs xs ys, eqv_str]
    by_cases h : x = y <;> by_cases h2 : xs = ys <;> simp [h, h2]
theorem eqv_tD (xs ys : List Str) : PyData.eqv (tD xs) (tD ys) = decide (xs = ys) := by
  show PyData.eqv (.tuple _) (.tuple _) = _
  rw [PyData.eqv]
  exact eqvAll_strs xs ys
theorem toks_inj : ∀ xs ys : List Str, keyToksAll (xs.map PyData.str) = keyToksAll (ys.map PyData.str) → xs = ys
  | [], [], _ => rfl
  | [], y :: ys, h => by simp [keyToksAll, keyToks] at h
  | x :: xs, [], h => by simp [keyToksAll, keyToks] at h
  | x :: xs, y :: ys, h => by
    simp only [List.map_cons, keyToksAll, keyToks, List.cons_append, List.nil_append, List.cons.injEq, Sum.inr.injEq, true_and] at h
    rw [PySem.W.str_of_cps h.1, toks_inj xs ys h.2]
theorem lt_tD {a b : List Str} (ne : a ≠ b) (h : dataLt (tD b) (tD a) = false) : dataLt (tD a) (tD b) = true := by
  cases e : dataLt (tD a) (tD b) with
  | true => rfl
  | false =>
    have : keyToks (tD a) = keyToks (tD b) := KeyOrd.total (listOrd itemOrd) _ _ e h
    exact absurd (toks_inj a b (by simpa [keyToks] using this)) ne
theorem alike_tD (a b : List Str) : alike (tD a) (tD b) = true := by
  show alike (.tuple _) (.tuple _) = true
  rw [alike]
  exact alike_strs a b
theorem alike_wD (w : Wh) : alike (wD w) (wD w) = true := by
  cases w with
  | link abs ps =>
    show alike (.tuple _) (.tuple _) = true
    rw [alike, alikeAll, alikeAll, alike_tD, alikeAll]
    simp [alike]
  | _ => simp [wD, alike]
theorem lt_row {r s : List Str × Wh} (ne : r.1 ≠ s.1) (h : leD (rowD r) (rowD s) = true) : dataLt (tD r.1) (tD s.1) = true := by
  refine lt_tD ne ?_
  have h1 : (!dataLt (rowD s) (rowD r)) = true := h
  have h2 : dataLt (rowD s) (rowD r) = dataLt (tD s.1) (tD r.1) := by
    show dataLt (.tuple _) (.tuple _) = _
    rw [dataLt_tuple, dataLt_cons (alike_tD _ _), if_neg]
    rw [eqv_tD]
    simpa using fun e => ne e.symm
  rw [h2] at h1
  simpa using h1
theorem shaped_rowD {r : List Str × Wh} (h1 : Snd r.1) (h2 : SndW r.2) : SeqAt.shaped (rowD r) = true := by
  obtain ⟨c1, d1⟩ := canLay_strs r.1 h1
  have h3 := shaped_wD h2
  unfold SeqAt.shaped at h3 ⊢
  rw [Bool.and_eq_true] at h3 ⊢
  have hd : (wD r.2).depth ≤ 3 := by
    cases e : r.2 with
    | link abs ps =>
      rw [e] at h2
      have := (canLay_strs ps h2).2
      show PyData.depth (.tuple _) ≤ 3
      simp only [PyData.depth, PyData.depthAll]
      omega
    | dir => show PyData.depth (.str _) ≤ 3; simp [PyData.depth]
    | file => show PyData.depth (.str _) ≤ 3; simp [PyData.depth]
    | absent => show PyData.depth (.str _) ≤ 3; simp [PyData.depth]
  refine ⟨?_, decide_eq_true ?_⟩
  · show PyData.canLay0 (.tuple [tD r.1, wD r.2]) = true
    simp only [PyData.canLay0, PyData.canLayAll0, c1, h3.1, Bool.and_self]
  · show PyData.depth (.tuple [tD r.1, wD r.2]) ≤ _
    simp only [PyData.depth, PyData.depthAll]
    omega
theorem Good.perm {rs ss : Rows} (g : Good rs) (h : ss.Perm rs) : Good ss where
  nd := (h.map _).nodup_iff.mpr g.nd
  ne r hr := g.ne r (h.mem_iff.mp hr)
  len r hr := g.len r (h.mem_iff.mp hr)
  dlen r hr := g.dlen r (h.mem_iff.mp hr)
  nm r hr := g.nm r (h.mem_iff.mp hr)
  par r hr := (g.par r (h.mem_iff.mp hr)).imp _root_.id fun q => h.mem_iff.mpr q
  lnk r hr := g.lnk r (h.mem_iff.mp hr)
/-- in order -/
def Ord (rs : Rows) : Prop := rs.Pairwise fun r s => leD (rowD r) (rowD s) = true
theorem sort_rows {rs : Rows} (g : Good rs) (hl : rs.length ≤ 100000) : ∃ ss : Rows, fSortL (rs.map rowD) = .ok (.list (ss.map rowD)) ∧ ss.Perm rs ∧ Ord ss := by
  obtain ⟨ss, e, hp⟩ := perm_map (List.mergeSort_perm (rs.map rowD) leD)
  refine ⟨ss, ?_, hp, ?_⟩
  · unfold fSortL
    rw [if_pos, e]
    refine ⟨?_, by rw [List.length_map]; exact sz_big hl⟩
    unfold sortOk
    rw [Bool.and_eq_true]
    refine ⟨List.all_eq_true.mpr fun d hd => ?_, List.all_eq_true.mpr fun d hd => List.all_eq_true.mpr fun d' hd' => ?_⟩
    · obtain ⟨a, ha, rfl⟩ := List.mem_map.mp hd
      exact shaped_rowD (g.sndA ha) (g.sndW ha)
    · obtain ⟨a, ha, rfl⟩ := List.mem_map.mp hd
      obtain ⟨b, hb, rfl⟩ := List.mem_map.mp hd'
      show (alikeAll [tD a.1, wD a.2] [tD b.1, wD b.2] || (alike (tD a.1) (tD b.1) && !PyData.eqv (tD a.1) (tD b.1))) = true
      by_cases h : a.1 = b.1
      · have h1 := at_of g.nd (a := a.1) (w := a.2) ha
        have h2 := at_of g.nd (a := b.1) (w := b.2) hb
        rw [← h, h1] at h2
        have h3 : a.2 = b.2 := Option.some.inj h2
        rw [h3, alikeAll, alikeAll, alike_tD, alike_wD]
        rfl
      · rw [alike_tD, eqv_tD, decide_eq_false h]
        simp
  · have := sort_pairwise (sortLe_total (listOrd itemOrd) false keyToks) (rs.map rowD)
    have e2 : (rs.map rowD).mergeSort leD = (rs.map rowD).mergeSort (PySem.W.sortLe (listOrd itemOrd) false keyToks) := rfl
    rw [← e2, e, List.pairwise_map] at this
    exact this
theorem dictOf_rows {rs : Rows} (g : Good rs) : dictOf (rs.map rowD) = rs.map rowP := by
  have key : ∀ (xs acc : Rows), ((acc ++ xs).map (·.1)).Nodup → xs.foldl (fun (acc : List (D × D)) r => dputK acc (rowP r).1 (rowP r).2) (acc.map rowP) = (acc ++ xs).map rowP := by
    intro xs
    induction xs with
    | nil => intro acc _; simp
    | cons x xs ih =>
      intro acc nd
      rw [List.foldl_cons]
      have hn : at_ acc x.1 = none := by
        cases e : at_ acc x.1 with
        | none => rfl
        | some w =>
          exfalso
          have h1 := at_mem e
          rw [List.map_append, List.nodup_append] at nd
          exact nd.2.2 x.1 (List.mem_map.mpr ⟨_, h1, rfl⟩) x.1 (List.mem_map.mpr ⟨x, List.mem_cons_self .., rfl⟩) rfl
      have h2 : dputK (acc.map rowP) (rowP x).1 (rowP x).2 = (acc ++ [x]).map rowP := put_new hn
      rw [h2, ih (acc ++ [x]) (by simpa using nd)]
      simp
  unfold dictOf
  rw [List.map_map, List.foldl_map]
  show List.foldl (fun (acc : List (D × D)) r => dputK acc (rowP r).1 (rowP r).2) (([] : Rows).map rowP) rs = _
  rw [key rs [] (by simpa using g.nd), List.nil_append]
theorem dict_rows {rs : Rows} (g : Good rs) (hl : rs.length ≤ 100000) : fDict [.tuple (rs.map rowD)] = .ok (.dict (rs.map rowP)) := by
  show (if ((rs.map rowD).all prOk) = true ∧ (rs.map rowD).length ≤ sizeLine then Res.ok (PyData.dict (dictOf (rs.map rowD))) else .stuck) = _
  rw [if_pos, dictOf_rows g]
  refine ⟨List.all_eq_true.mpr fun d hd => ?_, by rw [List.length_map]; exact sz_big hl⟩
  obtain ⟨r, hr, rfl⟩ := List.mem_map.mp hd
  exact keyOk_names (g.ne r hr) fun x hx => (g.nm r hr x hx).2.1
/-- a known directory -/
def IsDir (rs : Rows) (p : List Str) : Prop := p = [] ∨ at_ rs p = some .dir
def woD : Option Wh → D
  | none => .str "unknown"
  | some w => wD w
theorem IsDir.names {rs : Rows} (g : Good rs) {p : List Str} (h : IsDir rs p) : ∀ x ∈ p, Nm x := fun x hx => by
  rcases h with rfl | h
  · simp at hx
  · exact g.nm _ (at_mem h) x hx
theorem IsDir.len {rs : Rows} (g : Good rs) {p : List Str} (h : IsDir rs p) : p.length ≤ 29 := by
  rcases h with rfl | h
  · simp
  · exact g.dlen _ (at_mem h) rfl
theorem IsDir.up {rs : Rows} (g : Good rs) {p : List Str} (h : IsDir rs p) : IsDir rs p.dropLast := by
  rcases h with rfl | h
  · exact .inl rfl
  · rcases g.par _ (at_mem h) with h | h
    · exact .inl h
    · exact .inr (at_of g.nd h)
theorem IsDir.take {rs : Rows} (g : Good rs) : ∀ (k : Nat) {p : List Str} (_ : p.length = k) (h : IsDir rs p) (n : Nat), IsDir rs (p.take n)
  | 0, p, hk, h, n => by
    have : p = [] := List.length_eq_zero_iff.mp hk
    subst this
    exact .inl (by simp)
  | k + 1, p, hk, h, n => by
    by_cases hn : p.length ≤ n
    · rw [List.take_of_length_le hn]; exact h
    · have := IsDir.take g k (p := p.dropLast) (by simp [hk]) (h.up g) n
      rwa [List.dropLast_eq_take, List.take_take, Nat.min_eq_left (by omega)] at this
theorem get_at {rs : Rows} {a : List Str} {d : D} (ne : a ≠ []) (nm : ∀ x ∈ a, Nm x) : dgetD (rs.map rowP) (tD a) d = .ok (((at_ rs a).map wD).getD d) := by
  show (if inD.keyOk (a.map PyData.str) = true then Res.ok ((dfind (rs.map rowP) (tD a)).getD d) else .stuck) = _
  rw [if_pos (keyOk_names ne fun x hx => (nm x hx).2.1), dfind_rows]
theorem get2Ok {m1 m2 m3 : M} {ρ : Rho} {kvs : List (D × D)} {k d r : D} (h1 : m1 ρ = .ok (.dict kvs)) (ht : allT kvs = true) (h2 : m2 ρ = .ok k) (h3 : m3 ρ = .ok d) (h : dgetD kvs k d = .ok r) : mGet2 m1 m2 m3 ρ = .ok r := by
  unfold mGet2
  rw [h1]
  simp only [Res.bind]
  rw [if_pos ht, h2]
  simp only
  rw [h3]
  simp only
  rw [h]
  rfl
theorem slTo {m : M} {k : Nat} {xs : List Str} {n : Nat} {ρ : Rho} (h1 : m ρ = .ok (tD xs)) (h2 : ρ[k]? = some (some (.dat (.int (n : Int))))) : mSl fSl m mNo (mPart (mVar k)) ρ = .ok (tD (xs.take n)) := by
  have e : fSl (tD xs) none (some (n : Int)) = .ok (tD (xs.take n)) := by
    show Res.ok (PyData.tuple (De.cutD (xs.map PyData.str) none (some (n : Int)))) = _
    rw [cutTo]
    show _ = Res.ok (PyData.tuple ((xs.take n).map PyData.str))
    rw [List.map_take]
  have e2 : mVar k ρ = .ok (.int (n : Int)) := vOk h2
  unfold mSl
  rw [h1]
  simp only [Res.bind, mNo, mPart]
  rw [e2]
  simp only [asI]
  show (fSl (tD xs) none (some (n : Int))).plain = _
  rw [e]
  rfl
def endD : WEnd → D
  | .found a => .tuple [.str "found", tD a]
  | .missing => .tuple [.str "missing"]
  | .file => .tuple [.str "file"]
  | .unk a rest => .tuple [.str "unknown", tD a, tD rest]
  | .loop => .tuple [.str "loop"]
theorem shaped_lst {xs : List Str} (h : Snd xs) : SeqAt.shaped (.list (xs.map PyData.str)) = true := by
  obtain ⟨h1, h2⟩ := canLay_strs xs h
  unfold SeqAt.shaped
  rw [Bool.and_eq_true]
  exact ⟨by simpa [PyData.canLay0] using h1, decide_eq_true (by simp only [PyData.depth]; omega)⟩
theorem shaped_nilL : SeqAt.shaped (.list []) = true := shaped_lst (xs := []) fun _ h => by simp at h
theorem eq_nilL {xs : List Str} (h : Snd xs) : fEq (.list (xs.map PyData.str)) (.list []) = .ok (.bool (decide (xs = []))) := by
  unfold fEq
  rw [shaped_lst h, shaped_nilL]
  show Res.ok (PyData.bool (PyData.eqv _ _)) = _
  cases xs <;> simp [PyData.eqv, PyData.eqvAll]
theorem ne_nilL {xs : List Str} (h : Snd xs) : fNe (.list (xs.map PyData.str)) (.list []) = .ok (.bool (!decide (xs = []))) := by
  have e : fNe (.list (xs.map PyData.str)) (.list []) = if (SeqAt.shaped (.list (xs.map PyData.str)) && SeqAt.shaped (.list [])) = true then .ok (.bool (!PyData.eqv (.list (xs.map PyData.str)) (.list []))) else .stuck := by
    unfold fNe
    rfl
  rw [e, shaped_lst h, shaped_nilL]
  show Res.ok (PyData.bool (!PyData.eqv _ _)) = _
  cases xs <;> simp [PyData.eqv, PyData.eqvAll]
theorem shaped_woD {w : Option Wh} (h : ∀ v, w = some v → SndW v) : SeqAt.shaped (woD w) = true := by
  cases w with
  | none => exact shaped_str (by decide +kernel)
  | some v => exact shaped_wD (h v rfl)
/-- is it this text -/
def isO (w : Option Wh) (z : Str) : Bool := match w with
  | none => decide ("unknown" = z)
  | some v => isW v z
theorem fEq_o {w : Option Wh} (h : ∀ v, w = some v → SndW v) {z : Str} (hz : PyData.strOk z = true) : fEq (woD w) (.str z) = .ok (.bool (isO w z)) := by
  cases w with
  | none => exact eq_str (by decide +kernel) hz
  | some v => exact fEq_w (h v rfl) hz
theorem fNe_o {w : Option Wh} (h : ∀ v, w = some v → SndW v) {z : Str} (hz : PyData.strOk z = true) : fNe (woD w) (.str z) = .ok (.bool (!isO w z)) := by
  cases w with
  | none =>
    have e : fNe (woD none) (.str z) = if (SeqAt.shaped (.str "unknown") && SeqAt.shaped (.str z)) = true then .ok (.bool (!PyData.eqv (.str "unknown") (.str z))) else .stuck := by
      unfold fNe
      rfl
    rw [e, shaped_str (by decide +kernel), shaped_str hz, eqv_str]
    rfl
  | some v => exact fNe_w (h v rfl) hz
theorem Good.sndO {rs : Rows} (g : Good rs) {a : List Str} : ∀ v, at_ rs a = some v → SndW v := fun v h => g.sndW (r := (a, v)) (at_mem h)
theorem pop0_ok {i j : Nat} {ρ ρ' : Rho} {d : D} {ds : List D} (hij : i ≠ j) (e : (ρ.set j (some (.own (.list ds)))).set i (some (.dat d)) = ρ' := by rfl) (h : ρ[j]? = some (some (.own (.list (d :: ds)))) := by rfl) : mPop0 i j ρ = .next ρ' := by
  unfold mPop0
  rw [h]
  simp only
  rw [if_pos hij, e]
theorem in_dots {t : Str} (h : Wd t) : fIn (.str t) (tD [".", ".."]) = .ok (.bool (decide (t = "." ∨ t = ".."))) := by
  have e : inD (.str t) (tD [".", ".."]) = if (SeqAt.shaped (.str t) && SeqAt.shaped (tD [".", ".."])) = true then .ok ([PyData.str ".", PyData.str ".."].any fun z => PyData.eqv z (.str t)) else .stuck := rfl
  unfold fIn
  rw [e, shaped_str (h.snd), shaped_tD (xs := [".", ".."]) (fun x hx => by
    simp only [List.mem_cons, List.not_mem_nil, or_false] at hx
    rcases hx with rfl | rfl <;> decide +kernel)]
  show Res.ok (PyData.bool (List.any _ _)) = _
  simp only [List.any_cons, List.any_nil, eqv_str, Bool.or_false]
  congr 2
  by_cases h1 : t = "." <;> by_cases h2 : t = ".." <;> simp [h1, h2, eq_comm]
theorem slInit {m : M} {xs : List Str} {ρ : Rho} (h1 : m ρ = .ok (tD xs)) : mSl fSl m mNo (mPart (mUn fNeg (mC (.int 1)))) ρ = .ok (tD xs.dropLast) := by
  have e : fSl (tD xs) none (some (-1)) = .ok (tD xs.dropLast) := by
    show Res.ok (PyData.tuple (De.cutD (xs.map PyData.str) none (some (-1)))) = _
    rw [cutInit]
    show _ = Res.ok (PyData.tuple (xs.dropLast.map PyData.str))
    rw [List.map_dropLast]
  unfold mSl
  rw [h1]
  show (fSl (tD xs) none (some (-1))).plain = _
  rw [e]
  rfl
theorem eq_start (abs : Bool) : fEq (.str (startS abs)) (.str "/") = .ok (.bool abs) := by
  have : decide (startS abs = "/") = abs := by cases abs <;> decide +kernel
  rw [eq_str (strOk_start abs) (by decide +kernel), this]
theorem while_ret {t : MT} {b : MS} {f : Nat} {ρ : Rho} {d : D} (h1 : t ρ = .ok true) (h2 : b ρ = .ret d) : whileN t b (f + 1) ρ = .ret d := by
  unfold whileN
  rw [h1, Res.st_ok, if_pos rfl, h2]
theorem while_next {t : MT} {b : MS} {f : Nat} {ρ ρ' : Rho} (h1 : t ρ = .ok true) (h2 : b ρ = .next ρ') : whileN t b (f + 1) ρ = whileN t b f ρ' := by
  rw [whileN, h1, Res.st_ok, if_pos rfl, h2]
theorem while_end {t : MT} {b : MS} {f : Nat} {ρ : Rho} (h1 : t ρ = .ok false) : whileN t b (f + 1) ρ = .next ρ := by
  unfold whileN
  rw [h1, Res.st_ok, if_neg (by decide)]
theorem flat_end1 (z : Str) (a : List Str) : flat (.tuple [.str z, tD a]) = true := by simp [flat, flatAll, flat_strs]
theorem flat_end2 (z : Str) (a b : List Str) : flat (.tuple [.str z, tD a, tD b]) = true := by simp [flat, flatAll, flat_strs]
end Ma
end

section
set_option Elab.async false
set_option linter.all false
set_option maxRecDepth 100000
namespace Ma
open PySem PySem.Spec PyProof.Rows L2 De Nv
def tkD (xs : List Str) : Frs → List D
  | [] => xs.map PyData.str
  | f :: fs => xs.map PyData.str ++ (tD f.1 :: tkD f.2 fs)
theorem tkD_cons (x : Str) (xs : List Str) (fs : Frs) : tkD (x :: xs) fs = .str x :: tkD xs fs := by cases fs <;> rfl
theorem tkD_app (ys xs : List Str) (fs : Frs) : tkD (ys ++ xs) fs = ys.map PyData.str ++ tkD xs fs := by
  induction ys with
  | nil => rfl
  | cons y ys ih => rw [List.cons_append, tkD_cons, ih]; rfl
theorem tkD_len (xs : List Str) : ∀ fs : Frs, (tkD xs fs).length = xs.length + (rests fs).length + fs.length := by
  intro fs
  induction fs generalizing xs with
  | nil => simp [tkD, rests]
  | cons f fs ih => simp [tkD, rests, ih]; omega
section
variable {α : Type} (key : α → List Str) (val : α → D)
def rend (L : List α) : List (D × D) := L.map fun e => (tD (key e), val e)
variable {key val}
theorem any_gen (a : List Str) : ∀ L : List α, ((rend key val L).any fun kv => inD.isKey kv.1 (tD a)) = L.any fun e => decide (key e = a)
  | [] => rfl
  | e :: L => by
    have ih := any_gen a L
    unfold rend at ih ⊢
    rw [List.map_cons, List.any_cons, List.any_cons, ih]
    have h : inD.isKey (tD (key e)) (tD a) = decide (key e = a) := isKey_tD _ _
    rw [h]
theorem find_gen (a : List Str) : ∀ L : List α, dfind (rend key val L) (tD a) = (L.find? fun e => decide (key e = a)).map val
  | [] => rfl
  | e :: L => by
    have ih := find_gen a L
    unfold dfind rend at ih ⊢
    rw [List.map_cons, List.find?_cons, List.find?_cons]
    have h : inD.isKey (tD (key e)) (tD a) = decide (key e = a) := isKey_tD _ _
    rw [h]
    cases decide (key e = a) with
    | true => rfl
    | false => exact ih
theorem allT_gen (L : List α) : allT (rend key val L) = true := by
  unfold allT rend
  rw [List.all_map]
  exact List.all_eq_true.mpr fun r _ => rfl
theorem in_gen {a : List Str} (ne : a ≠ []) (nm : ∀ x ∈ a, Nm x) (L : List α) : fIn (tD a) (.dict (rend key val L)) = .ok (.bool (L.any fun e => decide (key e = a))) := by
  have e : inD (tD a) (.dict (rend key val L)) = .ok (L.any fun e => decide (key e = a)) := by
    show (if inD.keyOk (a.map PyData.str) = true ∧ ((rend key val L).all fun kv => inD.isTup kv.1) = true then Res.ok ((rend key val L).any fun kv => inD.isKey kv.1 (tD a)) else .stuck) = _
    rw [if_pos ⟨keyOk_names ne fun x hx => (nm x hx).2.1, allT_gen L⟩, any_gen]
  unfold fIn
  rw [e]
  rfl
theorem getD_gen {a : List Str} {d : D} (ne : a ≠ []) (nm : ∀ x ∈ a, Nm x) (L : List α) : dgetD (rend key val L) (tD a) d = .ok (((L.find? fun e => decide (key e = a)).map val).getD d) := by
  show (if inD.keyOk (a.map PyData.str) = true then Res.ok ((dfind (rend key val L) (tD a)).getD d) else .stuck) = _
  rw [if_pos (keyOk_names ne fun x hx => (nm x hx).2.1), find_gen]
theorem put_gen {e : α} {L : List α} (h : ∀ x ∈ L, key x ≠ key e) : dputK (rend key val L) (tD (key e)) (val e) = rend key val (L ++ [e]) := by
  unfold dputK
  have h2 : (L.any fun x => decide (key x = key e)) = false := by
    rw [List.any_eq_false]
    intro x hx
    simpa using h x hx
  rw [any_gen, h2]
  unfold rend
  rw [List.map_append]
  rfl
theorem drop_gen {e : α} {L : List α} (h : ∀ x ∈ L, key x ≠ key e) : ddropK (rend key val (L ++ [e])) (tD (key e)) = rend key val L := by
  unfold ddropK rend
  rw [List.map_append, List.filter_append]
  have e1 : (L.map fun e => (tD (key e), val e)).filter (fun kv => !inD.isKey kv.1 (tD (key e))) = L.map fun e => (tD (key e), val e) := by
    rw [List.filter_eq_self]
    intro kv hkv
    obtain ⟨x, hx, rfl⟩ := List.mem_map.mp hkv
    have h3 : inD.isKey (tD (key x)) (tD (key e)) = decide (key x = key e) := isKey_tD _ _
    rw [h3]
    simp [h x hx]
  have e2 : ([e].map fun e => (tD (key e), val e)).filter (fun kv => !inD.isKey kv.1 (tD (key e))) = [] := by
    have h3 : inD.isKey (tD (key e)) (tD (key e)) = decide (key e = key e) := isKey_tD _ _
    simp [h3]
  rw [e1, e2, List.append_nil]
end
theorem flatAll_app : ∀ xs ys : List D, flatAll (xs ++ ys) = (flatAll xs && flatAll ys)
  | [], ys => by simp [flatAll]
  | x :: xs, ys => by simp [flatAll, flatAll_app xs ys, Bool.and_assoc]
theorem flat_tk (xs : List Str) (fs : Frs) : flatAll (tkD xs fs) = true := by
  induction fs generalizing xs with
  | nil => exact flat_strs xs
  | cons f fs ih =>
    show flatAll (xs.map PyData.str ++ (tD f.1 :: tkD f.2 fs)) = true
    rw [flatAll_app, flat_strs, flatAll, ih]
    simp [flat, flat_strs]
/-- the texts within the tasks are sound -/
def SndF (fs : Frs) : Prop := ∀ f ∈ fs, Snd f.1 ∧ Snd f.2
theorem lay_app : ∀ xs ys : List D, PyData.canLayAll0 (xs ++ ys) = (PyData.canLayAll0 xs && PyData.canLayAll0 ys)
  | [], ys => by simp [PyData.canLayAll0]
  | x :: xs, ys => by simp [PyData.canLayAll0, lay_app xs ys, Bool.and_assoc]
theorem depth_app : ∀ xs ys : List D, PyData.depthAll (xs ++ ys) = max (PyData.depthAll xs) (PyData.depthAll ys)
  | [], ys => by simp [PyData.depthAll]
  | x :: xs, ys => by simp only [List.cons_append, PyData.depthAll, depth_app xs ys]; omega
theorem lay_tk {xs : List Str} {fs : Frs} (h : Snd xs) (hf : SndF fs) : PyData.canLayAll0 (tkD xs fs) = true ∧ PyData.depthAll (tkD xs fs) ≤ 2 := by
  induction fs generalizing xs with
  | nil => obtain ⟨h1, h2⟩ := canLay_strs xs h; exact ⟨h1, by show PyData.depthAll (xs.map PyData.str) ≤ 2; omega⟩
  | cons f fs ih =>
    obtain ⟨h1, h2⟩ := canLay_strs xs h
    obtain ⟨h3, h4⟩ := hf f (List.mem_cons_self ..)
    obtain ⟨h5, h6⟩ := canLay_strs f.1 h3
    obtain ⟨h7, h8⟩ := ih h4 fun g hg => hf g (List.mem_cons_of_mem _ hg)
    constructor
    · show PyData.canLayAll0 (xs.map PyData.str ++ (tD f.1 :: tkD f.2 fs)) = true
      rw [lay_app, h1]
      simp only [PyData.canLayAll0, PyData.canLay0, h5, h7, Bool.and_self]
    · show PyData.depthAll (xs.map PyData.str ++ (tD f.1 :: tkD f.2 fs)) ≤ 2
      rw [depth_app]
      simp only [PyData.depthAll, PyData.depth]
      omega
theorem shaped_tk {xs : List Str} {fs : Frs} (h : Snd xs) (hf : SndF fs) : SeqAt.shaped (.list (tkD xs fs)) = true := by
  obtain ⟨h1, h2⟩ := lay_tk h hf
  unfold SeqAt.shaped
  rw [Bool.and_eq_true]
  exact ⟨by simpa [PyData.canLay0] using h1, decide_eq_true (by simp only [PyData.depth]; omega)⟩
theorem ne_tk {xs : List Str} {fs : Frs} (h : Snd xs) (hf : SndF fs) : fNe (.list (tkD xs fs)) (.list []) = .ok (.bool (!(tkD xs fs).isEmpty)) := by
  have e : fNe (.list (tkD xs fs)) (.list []) = if (SeqAt.shaped (.list (tkD xs fs)) && SeqAt.shaped (.list [])) = true then .ok (.bool (!PyData.eqv (.list (tkD xs fs)) (.list []))) else .stuck := by
    unfold fNe
    rfl
  rw [e, shaped_tk h hf, shaped_nilL]
  show Res.ok (PyData.bool (!PyData.eqv _ _)) = _
  cases tkD xs fs <;> simp [PyData.eqv, PyData.eqvAll]
theorem isi_str (t : Str) : fIsi "str" (.str t) = .ok (.bool true) := rfl
theorem isi_tup (ds : List D) : fIsi "str" (.tuple ds) = .ok (.bool false) := rfl
theorem isiOk {T : String} {m : M} {ρ : Rho} {d : D} {r : Res D} (h1 : m ρ = .ok d) (h : fIsi T d = r) : mIsi T m ρ = r := by unfold mIsi; rw [h1]; exact h
theorem notT_ok {m : MT} {ρ : Rho} {b : Bool} (h : m ρ = .ok b) : mNotT m ρ = .ok (!b) := by unfold mNotT; rw [h]; rfl
/-- how a walk's step ends -/
def eaD (keep : Bool) (a rest : List Str) : Option Wh → D
  | none => endD (.unk a rest)
  | some .absent => endD .missing
  | some .file => if rest = [] then endD (.found a) else endD .file
  | some .dir => .none
  | some (.link _ _) => if rest = [] ∧ keep = true then endD (.found a) else .none
theorem flat_endD (e : WEnd) : flat (endD e) = true := by
  cases e <;> simp [endD, flat, flatAll, flat_strs]
theorem flat_ea (keep : Bool) (a rest : List Str) (w : Option Wh) : flat (eaD keep a rest w) = true := by
  cases w with
  | none => exact flat_endD (.unk a rest)
  | some v =>
    cases v with
    | dir => rfl
    | absent => exact flat_endD .missing
    | file => unfold eaD; simp only; split <;> exact flat_endD _
    | link abs ps => unfold eaD; simp only; split; exact flat_endD _; rfl
theorem ne_str {x y : Str} (hx : PyData.strOk x = true) (hy : PyData.strOk y = true) : fNe (.str x) (.str y) = .ok (.bool (!decide (x = y))) := by
  have e : fNe (.str x) (.str y) = if (SeqAt.shaped (.str x) && SeqAt.shaped (.str y)) = true then .ok (.bool (!PyData.eqv (.str x) (.str y))) else .stuck := by
    unfold fNe
    rfl
  rw [e, shaped_str hx, shaped_str hy, eqv_str]
  rfl
theorem append_ok {i : Nat} {m : M} {ρ ρ' : Rho} {ds : List D} {d : D} (h1 : m ρ = .ok d) (hl : ds.length ≤ 90000) (e : ρ.set i (some (.own (.list (ds ++ [d])))) = ρ' := by rfl) (h : ρ[i]? = some (some (.own (.list ds))) := by rfl) : mAppend i m ρ = .next ρ' := by
  unfold mAppend
  rw [h]
  simp only
  rw [h1, Res.st_ok, if_pos (Nat.lt_of_le_of_lt hl (by decide)), e]
theorem putpop_ok {i j : Nat} {me mv : M} {ρ ρ' : Rho} {kvs ls : List (D × D)} {ks zs : List D} {v : D} (hv : mv ρ = .ok v) (ht : allT kvs = true) (hl : kvs.length ≤ 90000) (ht2 : allT ls = true) (hij : i ≠ j) (hk : me ρ = .ok (.tuple ks)) (hko : inD.keyOk ks = true)
    (hf : dfind ls (.tuple ks) = some (.tuple zs)) (hzo : inD.keyOk zs = true) (e : (ρ.set i (some (.own (.dict (dputK kvs (.tuple zs) v))))).set j (some (.own (.dict (ddropK ls (.tuple ks))))) = ρ') (h : ρ[i]? = some (some (.own (.dict kvs))) := by rfl) (h2 : ρ[j]? = some (some (.own (.dict ls))) := by rfl) : mPutPop i j me mv ρ = .next ρ' := by
  unfold mPutPop
  rw [hv, Res.st_ok, h, h2]
  simp only
  rw [if_pos ⟨ht, Nat.lt_of_le_of_lt hl (by decide), ht2, hij⟩, hk, Res.st_ok]
  simp only
  rw [if_pos hko, hf]
  simp only
  rw [if_pos hzo, e]
theorem setoOk {i : Nat} {m : M} {ρ ρ' : Rho} {d : D} (h : m ρ = .ok d) (e : ρ.set i (some (.own d)) = ρ' := by rfl) : mSetO i m ρ = .next ρ' := by unfold mSetO; rw [h, Res.st_ok, e]
theorem allTrue {α : Type} (ds : List α) : fAll [.list (ds.map fun _ => PyData.bool true)] = .ok (.bool true) := by
  have h : asBools (ds.map fun _ => PyData.bool true) = some (ds.map fun _ => true) := by
    induction ds with
    | nil => rfl
    | cons d ds ih => simp [asBools, ih]
  show (match asBools (ds.map fun _ => PyData.bool true) with | some bs => Res.ok (PyData.bool (bs.all _root_.id)) | none => .stuck) = _
  rw [h]
  simp
theorem all_ok {mi : MI} {t : Tg} {vs : List Nat} {me : M} {ρ : Rho} {ds : List D} (h1 : mi ρ = .ok ds) (h : ∀ d ∈ ds, mStep t vs mYes me ρ d = .ok (some (.bool true))) : mCallB fAll (mCons (mLc mi t vs mYes me) mNil) ρ = .ok (.bool true) :=
  callBOk (consOk (lc_of h1 (compGo_map (g := fun _ => .bool true) h)) rfl) (allTrue ds)
theorem mand_t {m1 m2 : M} {ρ : Rho} {r : Res D} (h1 : m1 ρ = .ok (.bool true)) (h2 : m2 ρ = r) : mAnd m1 m2 ρ = r := by
  unfold mAnd
  rw [h1]
  exact h2
theorem mor_t {m1 m2 : M} {ρ : Rho} (h1 : m1 ρ = .ok (.bool true)) : mOr m1 m2 ρ = .ok (.bool true) := by
  unfold mOr
  rw [h1]
  rfl
theorem mor_f {m1 m2 : M} {ρ : Rho} {r : Res D} (h1 : m1 ρ = .ok (.bool false)) (h2 : m2 ρ = r) : mOr m1 m2 ρ = r := by
  unfold mOr
  rw [h1]
  exact h2
def isT : Res D → Bool
  | .ok (.bool b) => b
  | _ => false
theorem isT_ok {r : Res D} (h : isT r = true) : r = .ok (.bool true) := by
  unfold isT at h
  split at h
  · rw [h]
  · cases h
def isF : Res D → Bool
  | .ok (.bool b) => !b
  | _ => false
theorem isF_ok {r : Res D} (h : isF r = true) : r = .ok (.bool false) := by
  unfold isF at h
  split at h
  · rename_i b; cases b; rfl; cases h
  · cases h
theorem skipIf {t : MT} {m1 : MS} {ρ : Rho} (h : t ρ = .ok false) : mIfS t m1 mSkip ρ = .next ρ := by
  rw [ifsOk h]
  exact if_neg (by decide)
theorem strs_all {xs : List Str} {mi : MI} {t : Tg} {vs : List Nat} {me : M} {ρ : Rho} (h1 : mi ρ = .ok (xs.map PyData.str)) (h : ∀ x ∈ xs, mStep t vs mYes me ρ (.str x) = .ok (some (.bool true))) : mCallB fAll (mCons (mLc mi t vs mYes me) mNil) ρ = .ok (.bool true) :=
  all_ok h1 fun d hd => by
    obtain ⟨x, hx, rfl⟩ := List.mem_map.mp hd
    exact h x hx
theorem nd_len {α : Type} [DecidableEq α] : ∀ (l m : List α), l.Nodup → (∀ x ∈ l, x ∈ m) → l.length ≤ m.length
  | [], m, _, _ => by simp
  | x :: l, m, nd, h => by
    rw [List.nodup_cons] at nd
    have hx := h x (List.mem_cons_self ..)
    have := nd_len l (m.erase x) nd.2 fun y hy => (List.mem_erase_of_ne (fun e => nd.1 (by rw [← e]; exact hy))).mpr (h y (List.mem_cons_of_mem _ hy))
    rw [List.length_erase_of_mem hx] at this
    have hp := List.length_pos_of_mem hx
    simp only [List.length_cons]
    omega
def isL : Wh → Bool
  | .link _ _ => true
  | _ => false
theorem good_nil : Good [] where
  nd := by simp
  ne := fun r h => by simp at h
  len := fun r h => by simp at h
  dlen := fun r h => by simp at h
  nm := fun r h => by simp at h
  par := fun r h => by simp at h
  lnk := fun r h => by simp at h
theorem isi_wD (w : Wh) : fIsi "tuple" (wD w) = .ok (.bool (isL w)) := by cases w <;> rfl
theorem setMvOk {i j n : Nat} {f : List Sl → Res D} {m : MM} {ρ ρ' : Rho} {sls : List Sl} {d d0 : D} (hm : m ρ = .ok sls) (hf : f sls = .ok d) (hl : sls.length = n := by rfl) (h : ρ[j]? = some (some (.own d0)) := by rfl) (e : (ρ.set j none).set i (some (.own d)) = ρ' := by rfl) : mSetMv i j n f m ρ = .next ρ' := by
  unfold mSetMv
  rw [h]
  simp only
  rw [hm, Res.st_ok, if_pos hl, hf]
  simp only
  rw [e]
/-- the texts of an end are sound -/
def SndE : WEnd → Prop
  | .found a => Snd a
  | .unk a rest => Snd a ∧ Snd rest
  | _ => True
theorem lay_tD {a : List Str} (h : Snd a) : PyData.canLay0 (tD a) = true ∧ (tD a).depth ≤ 2 := by
  obtain ⟨h1, h2⟩ := canLay_strs a h
  exact ⟨by simpa [PyData.canLay0] using h1, by simp only [PyData.depth]; omega⟩
theorem shaped_endD {e : WEnd} (h : SndE e) : SeqAt.shaped (endD e) = true := by
  have k : ∀ z : Str, PyData.strOk z = true → PyData.canLay0 (.str z) = true := fun z hz => by simp [PyData.canLay0, hz]
  unfold SeqAt.shaped
  rw [Bool.and_eq_true]
  cases e with
  | found a =>
    obtain ⟨h1, h2⟩ := lay_tD h
    have h0 := k "found" (by decide +kernel)
    refine ⟨?_, decide_eq_true ?_⟩
    · show PyData.canLay0 (.tuple [.str "found", tD a]) = true
      rw [PyData.canLay0, PyData.canLayAll0, h0, PyData.canLayAll0, h1]
      rfl
    · show PyData.depth (.tuple [.str "found", tD a]) ≤ _
      simp only [PyData.depth, PyData.depthAll] at h2 ⊢
      omega
  | unk a rest =>
    obtain ⟨h1, h2⟩ := lay_tD h.1
    obtain ⟨h3, h4⟩ := lay_tD h.2
    have h0 := k "unknown" (by decide +kernel)
    refine ⟨?_, decide_eq_true ?_⟩
    · show PyData.canLay0 (.tuple [.str "unknown", tD a, tD rest]) = true
      rw [PyData.canLay0, PyData.canLayAll0, h0, PyData.canLayAll0, h1, PyData.canLayAll0, h3]
      rfl
    · show PyData.depth (.tuple [.str "unknown", tD a, tD rest]) ≤ _
      simp only [PyData.depth, PyData.depthAll] at h2 h4 ⊢
      omega
  | missing => exact ⟨by decide +kernel, by decide +kernel⟩
  | file => exact ⟨by decide +kernel, by decide +kernel⟩
  | loop => exact ⟨by decide +kernel, by decide +kernel⟩
theorem ne_end {e : WEnd} (h : SndE e) : fNe (endD e) (endD e) = .ok (.bool false) := by
  have h1 : fNe (endD e) (endD e) = if (SeqAt.shaped (endD e) && SeqAt.shaped (endD e)) = true then .ok (.bool (!PyData.eqv (endD e) (endD e))) else .stuck := by
    unfold fNe
    cases e <;> rfl
  have h2 : PyData.eqv (endD e) (endD e) = true := by
    cases e with
    | found a => show PyData.eqv (.tuple [.str "found", tD a]) (.tuple [.str "found", tD a]) = true; rw [PyData.eqv, PyData.eqvAll, PyData.eqvAll, eqv_tD, eqv_str]; simp [PyData.eqvAll]
    | unk a rest => show PyData.eqv (.tuple [.str "unknown", tD a, tD rest]) (.tuple [.str "unknown", tD a, tD rest]) = true; rw [PyData.eqv, PyData.eqvAll, PyData.eqvAll, PyData.eqvAll, eqv_tD, eqv_tD, eqv_str]; simp [PyData.eqvAll]
    | missing => decide +kernel
    | file => decide +kernel
    | loop => decide +kernel
  rw [h1, shaped_endD h, h2]
  rfl
theorem nv_snd {lk : Look} (hl : ∀ a abs ps, lk a = some (.link abs ps) → Snd ps) {keep : Bool} : ∀ (c : Nat) (p ts : List Str), Snd ts → Snd p → SndE (nv lk keep c p ts) := by
  refine nv_ind lk (fun c p _ hp => by rw [nv_nil]; exact hp) (fun c p ts ih hw hp => ?_) (fun c p ts ih hw hp => ?_) (fun c p t ts h1 h2 ihd ihl hw hp => ?_)
  · rw [nv_up]; exact ih (fun x hx => hw x (List.mem_cons_of_mem _ hx)) fun x hx => hp x (List.dropLast_subset _ hx)
  · rw [nv_dot]; exact ih (fun x hx => hw x (List.mem_cons_of_mem _ hx)) hp
  · have hts : Snd ts := fun x hx => hw x (List.mem_cons_of_mem _ hx)
    have sa : Snd (p ++ [t]) := fun x hx => (List.mem_append.mp hx).elim (hp x) fun h => by rw [List.mem_singleton.mp h]; exact hw t (List.mem_cons_self ..)
    rw [nv_name _ _ _ h1 h2]
    cases e : lk (p ++ [t]) with
    | none => exact ⟨sa, hts⟩
    | some w =>
      cases w with
      | absent => trivial
      | file => unfold nvL; simp only; split; exact sa; trivial
      | dir => exact ihd e hts sa
      | link abs ps =>
        by_cases hk : ts = [] ∧ keep = true
        · unfold nvL; simp only [if_pos hk]; exact sa
        · cases c with
          | zero => unfold nvL; simp only [if_neg hk]; trivial
          | succ c =>
            unfold nvL
            simp only [if_neg hk]
            refine ihl abs ps e c rfl _ rfl (fun x hx => (List.mem_append.mp hx).elim (hl _ abs ps e x) (hts x)) ?_
            cases abs
            · exact hp
            · exact fun x hx => by simp [base] at hx
/-- what a walk finds at an address; ms: what has no row is absent -/
def misO (ms : Bool) : Option Wh → Option Wh
  | none => if ms = true then some .absent else none
  | some w => some w
def lkO (ms : Bool) (rs : Rows) : Look := fun a => misO ms (at_ rs a)
def misS (ms : Bool) : Str := if ms = true then "absent" else "unknown"
theorem lkO_dir {ms : Bool} {rs : Rows} {a : List Str} : lkO ms rs a = some .dir ↔ at_ rs a = some .dir := by
  unfold lkO
  cases at_ rs a with
  | none => cases ms <;> simp [misO]
  | some w => simp [misO]
theorem lkO_link {ms : Bool} {rs : Rows} {a : List Str} {abs : Bool} {ps : List Str} : lkO ms rs a = some (.link abs ps) ↔ at_ rs a = some (.link abs ps) := by
  unfold lkO
  cases at_ rs a with
  | none => cases ms <;> simp [misO]
  | some w => simp [misO]
theorem dirL_is {ms : Bool} {rs : Rows} {p : List Str} : DirL (lkO ms rs) p ↔ IsDir rs p := by unfold DirL IsDir; rw [lkO_dir]
theorem Good.upL {rs : Rows} (g : Good rs) {ms : Bool} : Up (lkO ms rs) := fun p h => dirL_is.mpr ((dirL_is.mp h).up g)
/-- at most k links -/
def Cap (rs : Rows) (k : Nat) : Prop := ∀ l : List (List Str), l.Nodup → (∀ a ∈ l, ∃ abs ps, at_ rs a = some (.link abs ps)) → l.length ≤ k
theorem cap_len (rs : Rows) : Cap rs rs.length := fun l nd hl => by
  have := nd_len l (rs.map (·.1)) nd fun a ha => by
    obtain ⟨abs, ps, h1⟩ := hl a ha
    exact List.mem_map.mpr ⟨_, at_mem h1, rfl⟩
  rwa [List.length_map] at this
theorem lkO_snd {rs : Rows} (g : Good rs) {ms : Bool} : ∀ a abs ps, lkO ms rs a = some (.link abs ps) → Snd ps := fun a abs ps h x hx => ((g.lnk _ (at_mem (lkO_link.mp h)) abs ps rfl).2.2 x hx).snd
theorem wi_snd {rs : Rows} (g : Good rs) {ms keep : Bool} {p0 parts0 p xs : List Str} {fs E : Frs} {tr : List (List Str)} (w : WI (lkO ms rs) keep Wd p0 parts0 p xs fs E tr) : Snd xs ∧ Snd (xs ++ rests fs) ∧ SndF fs := by
  refine ⟨fun x hx => (w.words x (List.mem_append_left _ hx)).snd, fun x hx => (w.words x hx).snd, ?_⟩
  have h1 := w.words
  have h2 := w.lks
  clear w
  have h1 : ∀ x ∈ rests fs, Wd x := fun x hx => h1 x (List.mem_append_right _ hx)
  have h2 : ∀ a ∈ fs.map (·.1), ∃ abs ps, lkO ms rs a = some (.link abs ps) := fun a ha => h2 a (List.mem_append_left _ ha)
  intro f hf
  constructor
  · obtain ⟨abs, ps, h⟩ := h2 f.1 (List.mem_map.mpr ⟨f, hf, rfl⟩)
    exact fun x hx => (g.nm _ (at_mem (lkO_link.mp h)) x hx).2.2.1
  · have : ∀ (fs : Frs), f ∈ fs → ∀ x ∈ f.2, x ∈ rests fs := by
      intro fs
      induction fs with
      | nil => intro h; cases h
      | cons h fs ih =>
        intro hm x hx
        rcases List.mem_cons.mp hm with rfl | hm
        · exact List.mem_append_left _ hx
        · exact List.mem_append_right _ (ih hm x hx)
    exact fun x hx => (h1 x (this fs hf x hx)).snd
theorem wi_cap {rs : Rows} {ms keep : Bool} {p0 parts0 p xs : List Str} {fs E : Frs} {tr : List (List Str)} {k : Nat} (w : WI (lkO ms rs) keep Wd p0 parts0 p xs fs E tr) (c : Cap rs k) : fs.length + E.length ≤ k := by
  have := c _ w.nd fun a ha => by
    obtain ⟨abs, ps, h⟩ := w.lks a ha
    exact ⟨abs, ps, lkO_link.mp h⟩
  simpa using this
theorem rests_len {fs : Frs} (h : ∀ f ∈ fs, f.2.length ≤ 12) : (rests fs).length ≤ 12 * fs.length := by
  induction fs with
  | nil => simp [rests]
  | cons f fs ih =>
    have := h f (List.mem_cons_self ..)
    have := ih fun g hg => h g (List.mem_cons_of_mem _ hg)
    simp only [rests, List.length_append, List.length_cons]
    omega
end Ma
end

section
set_option Elab.async false
set_option linter.all false
set_option maxRecDepth 100000
/-! Pa4: steps of a mirror, for a tactic that goes through an expression. -/
namespace E
open PySem PySem.Spec PyProof.Rows L2 De Ma
variable {ρ ρ' : Rho} {r : RSt} {d a b c : D}
theorem nx {m1 m2 : MS} (h : m1 ρ = .next ρ') (k : m2 ρ' = r) : mSeq m1 m2 ρ = r := by unfold mSeq; rw [h]; exact k
theorem rt {m1 m2 : MS} {d : D} (h : m1 ρ = .ret d) : mSeq m1 m2 ρ = .ret d := by unfold mSeq; rw [h]
theorem rto {m1 m2 : MS} {d : D} (h : m1 ρ = .reto d) : mSeq m1 m2 ρ = .reto d := by unfold mSeq; rw [h]
theorem bk {m1 m2 : MS} (h : m1 ρ = .brk ρ') : mSeq m1 m2 ρ = .brk ρ' := by unfold mSeq; rw [h]
theorem run {m : MS} (h : m ρ = .ret d) : runD (m ρ) = .ok d := by rw [h]; rfl
theorem runN {m : MS} (h : m ρ = .next ρ') : runD (m ρ) = .ok .none := by rw [h]; rfl
theorem runo {m : MS} (h : m ρ = .reto d) : runO (m ρ) = .ok d := by rw [h]; rfl
theorem ifT {t : MT} {m1 m2 : MS} (h : t ρ = .ok true) (k : m1 ρ = r) : mIfS t m1 m2 ρ = r := by rw [ifsOk h, if_pos rfl]; exact k
theorem ifF {t : MT} {m1 m2 : MS} (h : t ρ = .ok false) (k : m2 ρ = r) : mIfS t m1 m2 ρ = r := by rw [ifsOk h, if_neg (by decide)]; exact k
theorem if_ {t : MT} {m1 m2 : MS} {z : Bool} (h : t ρ = .ok z) (k1 : z = true → m1 ρ = r) (k2 : z = false → m2 ρ = r) : mIfS t m1 m2 ρ = r := by
  cases z with
  | true => exact ifT h (k1 rfl)
  | false => exact ifF h (k2 rfl)
theorem skip : mSkip ρ = .next ρ := rfl
theorem set {i : Nat} {m : M} (h : m ρ = .ok d) : mSet i m ρ = .next (ρ.set i (some (.dat d))) := setOk h
theorem seto {i : Nat} {m : M} (h : m ρ = .ok d) : mSetO i m ρ = .next (ρ.set i (some (.own d))) := setoOk h
theorem ret {m : M} (h : m ρ = .ok d) : mRet m ρ = .ret d := retOk h
theorem expr {m : M} (h : m ρ = .ok d) : mExpr m ρ = .next ρ := by unfold mExpr; rw [h]; rfl
theorem asg {t : Tg} {m : M} (h : m ρ = .ok d) (k : t.put d ρ = some ρ') : mAsg t m ρ = .next ρ' := by unfold mAsg; rw [h, Res.st_ok, k]
theorem v {i : Nat} (h : ρ[i]? = some (some (.dat d))) : mVar i ρ = .ok d := vOk h
theorem vl {i : Nat} (h : ρ[i]? = some (some (.lck d))) : mVar i ρ = .ok d := vlOk h
theorem cc : mC d ρ = .ok d := rfl
theorem op {f : D → D → Res D} {m1 m2 : M} (h1 : m1 ρ = .ok a) (h2 : m2 ρ = .ok b) (h : f a b = .ok c) : mOp f m1 m2 ρ = .ok c := opOk h1 h2 h
theorem nil : mNil ρ = .ok [] := rfl
theorem cons {m : M} {r : MA} {ds : List D} (h1 : m ρ = .ok d) (h2 : r ρ = .ok ds) : mCons m r ρ = .ok (d :: ds) := consOk h1 h2
theorem call {n : Nat} {f : List D → Res D} {m : MA} {ds : List D} (h1 : m ρ = .ok ds) (hl : ds.length = n) (h : f ds = .ok d) : mCall n f m ρ = .ok d := callOk h1 h hl
theorem callB {f : List D → Res D} {m : MA} {ds : List D} (h1 : m ρ = .ok ds) (h : f ds = .ok d) : mCallB f m ρ = .ok d := callBOk h1 h
theorem tup {m : MA} {ds : List D} (h : m ρ = .ok ds) (hl : ds.length ≤ 1000) : mTup m ρ = .ok (.tuple ds) := tupOk h hl
theorem lst {m : MA} {ds : List D} (h : m ρ = .ok ds) (hl : ds.length ≤ 1000) : mLst m ρ = .ok (.list ds) := lstOk h hl
theorem tst {m : M} {z : Bool} (h : m ρ = .ok (.bool z)) : mTest m ρ = .ok z := tstOk h
theorem andT {m1 m2 : MT} {y z : Bool} (h1 : m1 ρ = .ok y) (h2 : m2 ρ = .ok z) : mAndT m1 m2 ρ = .ok (y && z) := andT_ok h1 h2
theorem andF {m1 m2 : MT} (h1 : m1 ρ = .ok false) : mAndT m1 m2 ρ = .ok false := by unfold mAndT; rw [h1]; rfl
theorem orTT {m1 m2 : MT} (h1 : m1 ρ = .ok true) : mOrT m1 m2 ρ = .ok true := by unfold mOrT; rw [h1]; rfl
theorem orT {m1 m2 : MT} {y z : Bool} (h1 : m1 ρ = .ok y) (h2 : m2 ρ = .ok z) : mOrT m1 m2 ρ = .ok (y || z) := orT_ok h1 h2
theorem notT {m : MT} {z : Bool} (h : m ρ = .ok z) : mNotT m ρ = .ok (!z) := notT_ok h
theorem not {m : M} {z : Bool} (h : m ρ = .ok (.bool z)) : mNot m ρ = .ok (.bool (!z)) := by unfold mNot; rw [h]; rfl
theorem and {m1 m2 : M} {y z : Bool} (h1 : m1 ρ = .ok (.bool y)) (h2 : m2 ρ = .ok (.bool z)) : mAnd m1 m2 ρ = .ok (.bool (y && z)) := by
  unfold mAnd; rw [h1]
  cases y
  · rfl
  · exact h2
theorem or {m1 m2 : M} {y z : Bool} (h1 : m1 ρ = .ok (.bool y)) (h2 : m2 ρ = .ok (.bool z)) : mOr m1 m2 ρ = .ok (.bool (y || z)) := by
  unfold mOr; rw [h1]
  cases y
  · exact h2
  · rfl
theorem isi {T : String} {m : M} (h1 : m ρ = .ok d) {c : D} (h : fIsi T d = .ok c) : mIsi T m ρ = .ok c := isiOk h1 h
theorem un {f : D → Res D} {m : M} {c : D} (h1 : m ρ = .ok d) (h : f d = .ok c) : mUn f m ρ = .ok c := by unfold mUn; rw [h1]; simp only [Res.bind]; rw [h]; rfl
theorem no : mNo ρ = .ok none := rfl
theorem part {m : M} {i : Int} (h : m ρ = .ok (.int i)) : mPart m ρ = .ok (some i) := by unfold mPart; rw [h]; rfl
theorem sl {f : D → Option Int → Option Int → Res D} {m : M} {l h : MP} {lo hi : Option Int} {c : D} (h1 : m ρ = .ok d) (h2 : l ρ = .ok lo) (h3 : h ρ = .ok hi) (k : f d lo hi = .ok c) : mSl f m l h ρ = .ok c := by
  unfold mSl; rw [h1]; simp only [Res.bind]; rw [h2]; simp only; rw [h3]; simp only; rw [k]; rfl
theorem seqI {m : M} {ds : List D} (h : m ρ = .ok d) (k : asSeq d = .ok ds) : mSeqI m ρ = .ok ds := by unfold mSeqI; rw [h]; exact k
theorem seqT (ds : List D) (h : ds.length ≤ 100000) : asSeq (.tuple ds) = .ok ds := if_pos (sz_big h)
theorem seqL (ds : List D) (h : ds.length ≤ 100000) : asSeq (.list ds) = .ok ds := if_pos (sz_big h)
theorem for_ {mi : MI} {t : Tg} {m : MS} {ds : List D} (h : mi ρ = .ok ds) (k : forGo t m ds ρ = r) : mFor mi t m ρ = r := by unfold mFor; rw [h, Res.st_ok]; exact k
theorem lc {mi : MI} {t : Tg} {vs : List Nat} {mt : MT} {me : M} {ds ys : List D} (h1 : mi ρ = .ok ds) (h2 : compGo (mStep t vs mt me ρ) ds = .ok ys) : mLc mi t vs mt me ρ = .ok (.list ys) := lc_of h1 h2
theorem par {is : List Nat} {m : MM} {sls : List Sl} (h : m ρ = .ok sls) (k : putSl is sls ρ = some ρ') : mPar is m ρ = .next ρ' := by unfold mPar; rw [h, Res.st_ok, k]
theorem mmN : mmNil ρ = .ok [] := rfl
theorem mmD {m : M} {r : MM} {ss : List Sl} (h1 : m ρ = .ok d) (h2 : r ρ = .ok ss) : mmDat m r ρ = .ok (.dat d :: ss) := by unfold mmDat; rw [h1]; simp only [Res.bind]; rw [h2]
theorem mmO {m : M} {r : MM} {ss : List Sl} (h1 : m ρ = .ok d) (h2 : r ρ = .ok ss) : mmOwn m r ρ = .ok (.own d :: ss) := by unfold mmOwn; rw [h1]; simp only [Res.bind]; rw [h2]
/-! operations -/
theorem addI (i j : Int) : fAdd (.int i) (.int j) = .ok (.int (i + j)) := rfl
theorem subI (i j : Int) : fSub (.int i) (.int j) = .ok (.int (i - j)) := rfl
theorem mulL (i j : Int) (h : i.natAbs < 4611686018427387904) : fMul (.int i) (.int j) = .ok (.int (i * j)) := fMul_l j h
theorem eqI (i j : Int) : fEq (.int i) (.int j) = .ok (.bool (decide (i = j))) := eq_int i j
theorem gtI (i j : Int) : fGt (.int i) (.int j) = .ok (.bool (decide (j < i))) := rfl
theorem leI (i j : Int) : fLe (.int i) (.int j) = .ok (.bool (decide (i ≤ j))) := rfl
theorem geI (i j : Int) : fGe (.int i) (.int j) = .ok (.bool (decide (j ≤ i))) := rfl
theorem ltI (i j : Int) : fLt (.int i) (.int j) = .ok (.bool (decide (i < j))) := rfl
theorem neg (i : Int) : fNeg (.int i) = .ok (.int (-i)) := rfl
theorem lenT (ds : List D) : fLen [.tuple ds] = .ok (.int ds.length) := rfl
theorem lenL (ds : List D) : fLen [.list ds] = .ok (.int ds.length) := rfl
theorem tupL (ds : List D) : fTuple [.list ds] = .ok (.tuple ds) := rfl
theorem lstT (ds : List D) : fList [.tuple ds] = .ok (.list ds) := rfl
theorem lstL (ds : List D) : fList [.list ds] = .ok (.list ds) := rfl
theorem ix0 (x : D) (xs : List D) : fIdx (.tuple (x :: xs)) (.int 0) = .ok x := by
  show (match L2.atI (x :: xs) 0 with | some x => Res.ok x | none => .stuck) = _
  rw [atI_nat (by omega) (by simp)]
  rfl
theorem ix1 (x y : D) (xs : List D) : fIdx (.tuple (x :: y :: xs)) (.int 1) = .ok y := by
  show (match L2.atI (x :: y :: xs) 1 with | some x => Res.ok x | none => .stuck) = _
  rw [atI_nat (by omega) (by simp; omega)]
  rfl
theorem ix2 (x y z : D) (xs : List D) : fIdx (.tuple (x :: y :: z :: xs)) (.int 2) = .ok z := by
  show (match L2.atI (x :: y :: z :: xs) 2 with | some x => Res.ok x | none => .stuck) = _
  rw [atI_nat (by omega) (by simp; omega)]
  rfl
theorem ixL0 (x : D) (xs : List D) : fIdx (.list (x :: xs)) (.int 0) = .ok x := by
  show (match L2.atI (x :: xs) 0 with | some x => Res.ok x | none => .stuck) = _
  rw [atI_nat (by omega) (by simp)]
  rfl
theorem ixL1 (x y : D) (xs : List D) : fIdx (.list (x :: y :: xs)) (.int 1) = .ok y := by
  show (match L2.atI (x :: y :: xs) 1 with | some x => Res.ok x | none => .stuck) = _
  rw [atI_nat (by omega) (by simp; omega)]
  rfl
/-! equality of data without truth values, dicts -/
mutual
def plainD : D → Bool
  | .none => true
  | .int _ => true
  | .str _ => true
  | .list xs => plainAll xs
  | .tuple xs => plainAll xs
  | _ => false
def plainAll : List D → Bool
  | [] => true
  | x :: xs => plainD x && plainAll xs
end
mutual
theorem eqv_iff : ∀ {x y : D}, plainD x = true → plainD y = true → (PyData.eqv x y = true ↔ x = y)
  | .none, y, _, h => by cases y <;> simp [PyData.eqv, plainD] at h ⊢
  | .int i, y, _, h => by cases y <;> simp [PyData.eqv, plainD] at h ⊢
  | .str i, y, _, h => by cases y <;> simp [PyData.eqv, plainD] at h ⊢
  | .bool _, _, h, _ => by simp [plainD] at h
  | .dict _, _, h, _ => by simp [plainD] at h
  | .list xs, y, hx, h => by
    cases y with
    | list ys =>
      have := eqvAll_iff (xs := xs) (ys := ys) (by simpa [plainD] using hx) (by simpa [plainD] using h)
      simp [PyData.eqv, this]
    | _ => simp [PyData.eqv, plainD] at h ⊢
  | .tuple xs, y, hx, h => by
    cases y with
    | tuple ys =>
      have := eqvAll_iff (xs := xs) (ys := ys) (by simpa [plainD] using hx) (by simpa [plainD] using h)
      simp [PyData.eqv, this]
    | _ => simp [PyData.eqv, plainD] at h ⊢
theorem eqvAll_iff : ∀ {xs ys : List D}, plainAll xs = true → plainAll ys = true → (PyData.eqvAll xs ys = true ↔ xs = ys)
  | [], ys, _, _ => by cases ys <;> simp [PyData.eqvAll]
  | x :: xs, [], _, _ => by simp [PyData.eqvAll]
  | x :: xs, y :: ys, hx, hy => by
    simp only [plainAll, Bool.and_eq_true] at hx hy
    have h1 := eqv_iff hx.1 hy.1
    have h2 := eqvAll_iff hx.2 hy.2
    simp [PyData.eqvAll, h1, h2]
end
open Classical in
theorem eqv_dec {x y : D} (hx : plainD x = true) (hy : plainD y = true) : PyData.eqv x y = decide (x = y) := by
  by_cases h : x = y
  · rw [decide_eq_true h]; exact (eqv_iff hx hy).mpr h
  · rw [decide_eq_false h]
    cases e : PyData.eqv x y with
    | true => exact absurd ((eqv_iff hx hy).mp e) h
    | false => rfl
/-- data that can be compared -/
def Cmp (x : D) : Prop := SeqAt.shaped x = true ∧ plainD x = true
theorem eq_same {x : D} (h : Cmp x) : fEq x x = .ok (.bool true) := by
  unfold fEq
  rw [h.1, (eqv_iff h.2 h.2).mpr rfl]
  rfl
theorem scr_none {x : D} (h : plainD x = true) : scr? x = none := by
  cases x <;> first | rfl | simp [plainD] at h
theorem ne_gen {x y : D} (hx : Cmp x) (hy : Cmp y) : fNe x y = .ok (.bool (!PyData.eqv x y)) := by
  unfold fNe
  rw [scr_none hx.2, hx.1, hy.1]
  rfl
theorem eq_gen {x y : D} (hx : Cmp x) (hy : Cmp y) : fEq x y = .ok (.bool (PyData.eqv x y)) := by
  unfold fEq
  rw [hx.1, hy.1]
  rfl
theorem ne_same {x : D} (h : Cmp x) : fNe x x = .ok (.bool false) := by
  rw [ne_gen h h, (eqv_iff h.2 h.2).mpr rfl]
  rfl
theorem ne_diff {x y : D} (hx : Cmp x) (hy : Cmp y) (h : x ≠ y) : fNe x y = .ok (.bool true) := by
  rw [ne_gen hx hy]
  cases e : PyData.eqv x y with
  | true => exact absurd ((eqv_iff hx.2 hy.2).mp e) h
  | false => rfl
theorem eq_diff {x y : D} (hx : Cmp x) (hy : Cmp y) (h : x ≠ y) : fEq x y = .ok (.bool false) := by
  rw [eq_gen hx hy]
  cases e : PyData.eqv x y with
  | true => exact absurd ((eqv_iff hx.2 hy.2).mp e) h
  | false => rfl
theorem plain_strs : ∀ xs : List Str, plainAll (xs.map PyData.str) = true
  | [] => by simp [plainAll]
  | x :: xs => by simp [plainAll, plainD, plain_strs xs]
theorem cmp_tD {xs : List Str} (h : Snd xs) : Cmp (tD xs) := ⟨shaped_tD h, by show plainD (.tuple _) = true; simp [plainD, plain_strs]⟩
theorem cmp_lD {xs : List Str} (h : Snd xs) : Cmp (.list (xs.map PyData.str)) := ⟨shaped_lst h, by simp [plainD, plain_strs]⟩
theorem cmp_str {x : Str} (h : PyData.strOk x = true) : Cmp (.str x) := ⟨shaped_str h, by simp [plainD]⟩
theorem cmp_path (abs : Bool) {ps : List Str} (h : Snd ps) : Cmp (pathD abs ps) := ⟨shaped_path abs h, by show plainD (.tuple _) = true; simp [plainD, plainAll, plain_strs]⟩
theorem cmp_end {e : Nv.WEnd} (h : SndE e) : Cmp (endD e) := ⟨shaped_endD h, by cases e <;> simp [endD, plainD, plainAll, plain_strs]⟩
theorem cmp_wD {w : Nv.Wh} (h : SndW w) : Cmp (wD w) := ⟨shaped_wD h, by cases w <;> simp [wD, plainD, plainAll, plain_strs]⟩
end E
end

section
set_option Elab.async false
set_option linter.all false
set_option maxRecDepth 100000
/-! Pa5: slices. -/
namespace Ma
open PySem PySem.Spec PyProof.Rows L2 De Nv
theorem cutLast {α : Type} (xs : List α) : De.cutD xs (some (-1)) none = xs.drop (xs.length - 1) := by
  unfold De.cutD HT.sIx
  simp
  rw [List.take_of_length_le (by simp)]
  congr 1
  omega
theorem cutPre {α : Type} (xs : List α) : De.cutD xs (some (-2)) (some (-1)) = (xs.drop (xs.length - 2)).take (xs.length - 1 - (xs.length - 2)) := by
  unfold De.cutD HT.sIx
  simp
  congr 1
  · omega
  · congr 1
    omega
theorem cutFrom {α : Type} (xs : List α) (n : Nat) : De.cutD xs (some (n : Int)) none = xs.drop n := by
  unfold De.cutD
  rw [HT.sIx_nat, HT.sIx_none]
  by_cases h : n ≤ xs.length
  · rw [Nat.min_eq_left h, List.take_of_length_le (by simp)]
  · rw [Nat.min_eq_right (by omega), List.drop_of_length_le (Nat.le_refl _), List.drop_of_length_le (by omega)]
    simp
end Ma
namespace E
open PySem PySem.Spec PyProof.Rows L2 De Ma Nv
theorem slT {lo hi : Option Int} {xs ys : List Str} (h : De.cutD xs lo hi = ys) : fSl (tD xs) lo hi = .ok (tD ys) := by
  show Res.ok (PyData.tuple (De.cutD (xs.map PyData.str) lo hi)) = _
  have : De.cutD (xs.map PyData.str) lo hi = (De.cutD xs lo hi).map PyData.str := by
    unfold De.cutD
    rw [List.length_map, List.map_take, List.map_drop]
  rw [this, h]
theorem slL {lo hi : Option Int} {xs ys : List Str} (h : De.cutD xs lo hi = ys) : fSlL (.list (xs.map PyData.str)) lo hi = .ok (.list (ys.map PyData.str)) := by
  show Res.ok (PyData.list (De.cutD (xs.map PyData.str) lo hi)) = _
  have : De.cutD (xs.map PyData.str) lo hi = (De.cutD xs lo hi).map PyData.str := by
    unfold De.cutD
    rw [List.length_map, List.map_take, List.map_drop]
  rw [this, h]
theorem eqT {xs ys : List Str} (hx : Snd xs) (hy : Snd ys) : fEq (tD xs) (tD ys) = .ok (.bool (decide (xs = ys))) := by
  rw [eq_gen (cmp_tD hx) (cmp_tD hy), eqv_tD]
theorem eqL {xs ys : List Str} (hx : Snd xs) (hy : Snd ys) : fEq (.list (xs.map PyData.str)) (.list (ys.map PyData.str)) = .ok (.bool (decide (xs = ys))) := by
  rw [eq_gen (cmp_lD hx) (cmp_lD hy)]
  show Res.ok (PyData.bool (PyData.eqvAll _ _)) = _
  rw [eqvAll_strs]
theorem map_inj {xs ys : List Str} (h : xs.map PyData.str = ys.map PyData.str) : xs = ys := by
  have h1 := eqvAll_strs xs ys
  rw [h, eqvAll_strs ys ys] at h1
  simpa using h1.symm
theorem tD_inj {xs ys : List Str} (h : tD xs = tD ys) : xs = ys := by
  injection h with h
  exact map_inj h
theorem path_inj {a b : Bool} {ps qs : List Str} (h : pathD a ps = pathD b qs) : a = b ∧ ps = qs := by
  injection h with h
  injection h with h1 h2
  injection h2 with h2 _
  refine ⟨?_, tD_inj h2⟩
  injection h1 with h1
  revert h1
  cases a <;> cases b <;> decide +kernel
theorem endD_inj {e e' : WEnd} (h : endD e = endD e') : e = e' := by
  cases e <;> cases e' <;> first
    | rfl
    | (exfalso; injection h with h; injection h with h1 h2; injection h1 with h1; exact absurd h1 (by decide +kernel))
    | (injection h with h; injection h with h1 h2; injection h2 with h2 h3; injection h3 with h3 _; rw [tD_inj h2, tD_inj h3]; done)
    | (injection h with h; injection h with h1 h2; injection h2 with h2 _; rw [tD_inj h2]; done)
theorem eqP {a b : Bool} {ps qs : List Str} (hx : Snd ps) (hy : Snd qs) : fEq (pathD a ps) (pathD b qs) = .ok (.bool (decide (a = b ∧ ps = qs))) := by
  by_cases h : a = b ∧ ps = qs
  · rw [decide_eq_true h, h.1, h.2]
    exact eq_same (cmp_path b hy)
  · rw [decide_eq_false h]
    exact eq_diff (cmp_path a hx) (cmp_path b hy) fun e => h (path_inj e)
theorem plain_tDs : ∀ xs : List (List Str), plainAll (xs.map tD) = true
  | [] => by simp [plainAll]
  | x :: xs => by
    rw [List.map_cons, plainAll, plain_tDs xs]
    have : plainD (tD x) = true := by show plainD (.tuple _) = true; simp [plainD, plain_strs]
    rw [this]
    rfl
theorem lay_tDs : ∀ {xs : List (List Str)}, (∀ x ∈ xs, Snd x) → PyData.canLayAll0 (xs.map tD) = true ∧ PyData.depthAll (xs.map tD) ≤ 2
  | [], _ => ⟨rfl, by simp [PyData.depthAll]⟩
  | x :: xs, h => by
    obtain ⟨h1, h2⟩ := lay_tDs (xs := xs) fun y hy => h y (List.mem_cons_of_mem _ hy)
    obtain ⟨h3, h4⟩ := lay_tD (h x (List.mem_cons_self ..))
    constructor
    · rw [List.map_cons, PyData.canLayAll0, h1, h3]; rfl
    · rw [List.map_cons, PyData.depthAll]; omega
theorem cmp_tDs {xs : List (List Str)} (h : ∀ x ∈ xs, Snd x) : Cmp (.list (xs.map tD)) := by
  obtain ⟨h1, h2⟩ := lay_tDs h
  refine ⟨?_, by simp [plainD, plain_tDs]⟩
  unfold SeqAt.shaped
  rw [Bool.and_eq_true]
  exact ⟨by simpa [PyData.canLay0] using h1, decide_eq_true (by simp only [PyData.depth]; omega)⟩
theorem ne_nilTs {xs : List (List Str)} (h : ∀ x ∈ xs, Snd x) : fNe (.list (xs.map tD)) (.list []) = .ok (.bool (!xs.isEmpty)) := by
  have h0 : Cmp (.list []) := cmp_tDs (xs := []) fun x hx => by simp at hx
  rw [ne_gen (cmp_tDs h) h0]
  cases xs <;> rfl
/-- a loop whose passes keep P -/
theorem forP {t : Tg} {b : MS} (P : Rho → Prop) : ∀ (ds : List D), (∀ d ∈ ds, ∀ ρ, P ρ → ∃ ρ1, t.put d ρ = some ρ1 ∧ ∃ ρ2, b ρ1 = .next ρ2 ∧ P ρ2) → ∀ ρ, P ρ → ∃ ρ', forGo t b ds ρ = .next ρ' ∧ P ρ'
  | [], _, ρ, hP => ⟨ρ, rfl, hP⟩
  | d :: ds, h, ρ, hP => by
    obtain ⟨ρ1, h1, ρ2, h2, h3⟩ := h d (List.mem_cons_self ..) ρ hP
    obtain ⟨ρ', h4, h5⟩ := forP P ds (fun e he => h e (List.mem_cons_of_mem _ he)) ρ2 h3
    refine ⟨ρ', ?_, h5⟩
    unfold forGo
    rw [h1]
    simp only
    rw [h2]
    exact h4
theorem rng1 {n : Int} {m : MA} {ρ : Rho} (h : m ρ = .ok [.int n]) (h1 : n ≤ 1000000) (h2 : -1000000 ≤ n) : (fun ρ => (m ρ).bind asRng1) ρ = .ok (rng 0 n.toNat) := by
  show (m ρ).bind asRng1 = _
  rw [h]
  exact if_pos ⟨h1, h2⟩
theorem mem_rng {lo : Int} {n : Nat} {d : D} (h : d ∈ rng lo n) : ∃ i : Nat, i < n ∧ d = .int (lo + i) := by
  unfold rng at h
  obtain ⟨i, hi, rfl⟩ := List.mem_map.mp h
  exact ⟨i, List.mem_range.mp hi, rfl⟩
/-- the first two items of an end -/
def cut2 : WEnd → D
  | .found a => .tuple [.str "found", tD a]
  | .unk a _ => .tuple [.str "unknown", tD a]
  | .missing => .tuple [.str "missing"]
  | .file => .tuple [.str "file"]
  | .loop => .tuple [.str "loop"]
theorem slE (e : WEnd) : fSl (endD e) none (some 2) = .ok (cut2 e) := by
  cases e <;> rfl
theorem cut2_eqv {e e' : WEnd} (h : Eqv e e') : cut2 e = cut2 e' := by
  rcases h with rfl | ⟨a, r, r', rfl, rfl⟩ <;> rfl
theorem cmp_cut2 {e : WEnd} (h : SndE e) : Cmp (cut2 e) := by
  cases e with
  | unk a r =>
      refine ⟨?_, by simp [cut2, plainD, plainAll, plain_strs]⟩
      obtain ⟨h1, h2⟩ := lay_tD h.1
      have h0 : PyData.canLay0 (.str "unknown") = true := by decide +kernel
      unfold SeqAt.shaped
      rw [Bool.and_eq_true]
      refine ⟨?_, decide_eq_true ?_⟩
      · show PyData.canLay0 (.tuple [.str "unknown", tD a]) = true
        rw [PyData.canLay0, PyData.canLayAll0, h0, PyData.canLayAll0, h1]
        rfl
      · show PyData.depth (.tuple [.str "unknown", tD a]) ≤ _
        simp only [PyData.depth, PyData.depthAll] at h2 ⊢
        omega
  | found a => exact cmp_end (e := .found a) h
  | missing => exact cmp_end (e := .missing) h
  | file => exact cmp_end (e := .file) h
  | loop => exact cmp_end (e := .loop) h
end E
end

section
set_option Elab.async false
set_option linter.all false
set_option maxRecDepth 100000
/-! Ro: rows as data: equality, place, order. -/
namespace Ma
open PySem PySem.Spec PyProof.Rows L2 De Nv E
open PySem.W (alike alikeAll dataLt dataLt_cons dataLt_tuple sort_pairwise sortLe_total keyToks keyToksAll)
theorem wD_inj {v w : Wh} (h : wD v = wD w) : v = w := by
  cases v <;> cases w <;> first
    | rfl
    | (obtain ⟨h1, h2⟩ := path_inj h; rw [h1, h2])
    | (exfalso; injection h with h; exact absurd h (by decide +kernel))
    | (exfalso; cases h; done)
theorem rowD_inj {r s : List Str × Wh} (h : rowD r = rowD s) : r = s := by
  have h : PyData.tuple [tD r.1, wD r.2] = .tuple [tD s.1, wD s.2] := h
  injection h with h
  injection h with h1 h2
  injection h2 with h2 _
  exact Prod.ext (tD_inj h1) (wD_inj h2)
theorem plain_rowD (r : List Str × Wh) : plainD (rowD r) = true := by
  have h1 : plainD (tD r.1) = true := by show plainD (.tuple _) = true; simp [plainD, plain_strs]
  have h2 : plainD (wD r.2) = true := by
    cases r.2 with
    | link abs ps => show plainD (.tuple _) = true; simp [plainD, plainAll, plain_strs]
    | _ => rfl
  show plainD (.tuple [tD r.1, wD r.2]) = true
  rw [plainD, plainAll, plainAll, plainAll, h1, h2]; rfl
theorem eqv_rowD (r s : List Str × Wh) : PyData.eqv (rowD r) (rowD s) = decide (r = s) := by
  by_cases h : r = s
  · rw [h, (eqv_iff (plain_rowD s) (plain_rowD s)).mpr rfl]; simp
  · rw [decide_eq_false h]
    cases e : PyData.eqv (rowD r) (rowD s) with
    | true => exact absurd (rowD_inj ((eqv_iff (plain_rowD r) (plain_rowD s)).mp e)) h
    | false => rfl
abbrev SndR (rs : Rows) : Prop := ∀ r ∈ rs, Snd r.1 ∧ SndW r.2
theorem Good.sndR {rs : Rows} (g : Good rs) : SndR rs := fun r h => ⟨g.sndA h, g.sndW h⟩
theorem plain_rows : ∀ rs : Rows, plainAll (rs.map rowD) = true
  | [] => rfl
  | r :: rs => by rw [List.map_cons, plainAll, plain_rows rs, plain_rowD]; rfl
theorem lay_row {r : List Str × Wh} (h : Snd r.1 ∧ SndW r.2) : PyData.canLay0 (rowD r) = true ∧ (rowD r).depth ≤ 4 := by
  have h1 := shaped_rowD h.1 h.2
  unfold SeqAt.shaped at h1
  rw [Bool.and_eq_true] at h1
  refine ⟨h1.1, ?_⟩
  obtain ⟨c1, d1⟩ := canLay_strs r.1 h.1
  have hd : (wD r.2).depth ≤ 3 := by
    obtain ⟨a, w⟩ := r
    obtain ⟨h, h2⟩ := h
    cases w with
    | link abs ps =>
      have := (canLay_strs ps h2).2
      show PyData.depth (.tuple _) ≤ 3
      simp only [PyData.depth, PyData.depthAll]
      omega
    | dir => show PyData.depth (.str _) ≤ 3; simp [PyData.depth]
    | file => show PyData.depth (.str _) ≤ 3; simp [PyData.depth]
    | absent => show PyData.depth (.str _) ≤ 3; simp [PyData.depth]
  show PyData.depth (.tuple [tD r.1, wD r.2]) ≤ _
  simp only [PyData.depth, PyData.depthAll]
  omega
theorem lay_rows : ∀ {rs : Rows}, SndR rs → PyData.canLayAll0 (rs.map rowD) = true ∧ PyData.depthAll (rs.map rowD) ≤ 4
  | [], _ => ⟨rfl, by simp [PyData.depthAll]⟩
  | r :: rs, h => by
    obtain ⟨h1, h2⟩ := lay_rows (rs := rs) fun y hy => h y (List.mem_cons_of_mem _ hy)
    obtain ⟨h3, h4⟩ := lay_row (h r (List.mem_cons_self ..))
    constructor
    · rw [List.map_cons, PyData.canLayAll0, h1, h3]; rfl
    · rw [List.map_cons, PyData.depthAll]; omega
theorem cmp_row {r : List Str × Wh} (h : Snd r.1 ∧ SndW r.2) : Cmp (rowD r) := ⟨shaped_rowD h.1 h.2, plain_rowD r⟩
theorem cmp_rowsT {rs : Rows} (h : SndR rs) : Cmp (.tuple (rs.map rowD)) := by
  obtain ⟨h1, h2⟩ := lay_rows h
  refine ⟨?_, by simp [plainD, plain_rows]⟩
  unfold SeqAt.shaped
  rw [Bool.and_eq_true]
  exact ⟨by simpa [PyData.canLay0] using h1, decide_eq_true (by simp only [PyData.depth]; omega)⟩
theorem in_rowsT {rs : Rows} (h : SndR rs) {r : List Str × Wh} (hr : Snd r.1 ∧ SndW r.2) : fIn (rowD r) (.tuple (rs.map rowD)) = .ok (.bool (decide (r ∈ rs))) := by
  show (if (SeqAt.shaped (rowD r) && SeqAt.shaped (.tuple (rs.map rowD))) = true then Res.ok ((rs.map rowD).any fun z => PyData.eqv z (rowD r)) else .stuck).bind _ = _
  rw [if_pos (by rw [(cmp_row hr).1, (cmp_rowsT h).1]; rfl)]
  have : ((rs.map rowD).any fun z => PyData.eqv z (rowD r)) = decide (r ∈ rs) := by
    rw [List.any_map, Bool.eq_iff_iff, List.any_eq_true, decide_eq_true_iff]
    constructor
    · rintro ⟨s, hs, e⟩
      have e : PyData.eqv (rowD s) (rowD r) = true := e
      rw [eqv_rowD, decide_eq_true_iff] at e
      exact e ▸ hs
    · intro h
      exact ⟨r, h, by show PyData.eqv (rowD r) (rowD r) = true; rw [eqv_rowD]; simp⟩
  rw [this]
  rfl
/-- a row taken out -/
theorem place_row {lf : Rows} {r : List Str × Wh} (h : r ∈ lf) : ∃ j, SeqAt.dataPlace (lf.map rowD) (rowD r) = some j ∧ ∃ lf' : Rows, (lf.map rowD).eraseIdx j = lf'.map rowD ∧ lf.Perm (r :: lf') := by
  induction lf with
  | nil => cases h
  | cons s lf ih =>
    unfold SeqAt.dataPlace
    rw [List.map_cons, List.findIdx?_cons, eqv_rowD]
    by_cases e : s = r
    · rw [decide_eq_true e, if_pos rfl]
      exact ⟨0, rfl, lf, rfl, by rw [e]⟩
    · rw [decide_eq_false e, if_neg (by decide)]
      rcases List.mem_cons.mp h with rfl | h
      · exact absurd rfl e
      · obtain ⟨j, h1, lf', h2, h3⟩ := ih h
        have h1 : (lf.map rowD).findIdx? (fun y => PyData.eqv y (rowD r)) = some j := h1
        rw [h1]
        exact ⟨j + 1, rfl, s :: lf', by rw [List.eraseIdx_cons_succ, h2]; rfl, (List.Perm.cons s h3).trans (List.Perm.swap r s lf')⟩
theorem shaped_rows {lf : Rows} (h : SndR lf) : ((lf.map rowD).all fun d => SeqAt.shaped d) = true := List.all_eq_true.mpr fun d hd => by
  obtain ⟨r, hr, rfl⟩ := List.mem_map.mp hd
  exact shaped_rowD (h r hr).1 (h r hr).2
theorem remove_row {i : Nat} {m : M} {lf : Rows} {r : List Str × Wh} {ρ : Rho} (hm : m ρ = .ok (rowD r)) (hi : ρ[i]? = some (some (.own (.list (lf.map rowD))))) (hs : SndR lf) (hr : r ∈ lf) :
    ∃ lf' : Rows, mRemove i m ρ = .next (ρ.set i (some (.own (.list (lf'.map rowD))))) ∧ lf.Perm (r :: lf') := by
  obtain ⟨j, h1, lf', h2, h3⟩ := place_row hr
  refine ⟨lf', ?_, h3⟩
  unfold mRemove
  rw [hi]
  show (m ρ).st ρ _ = _
  rw [hm, Res.st_ok]
  rw [if_pos (by rw [shaped_rows hs, shaped_rowD (hs r hr).1 (hs r hr).2]; rfl), h1]
  show (.next (ρ.set i (some (.own (.list ((lf.map rowD).eraseIdx j))))) : RSt) = _
  rw [h2]
/-! the order of rows -/
theorem lt_rowD {r s : List Str × Wh} (ne : r.1 ≠ s.1) : dataLt (rowD r) (rowD s) = dataLt (tD r.1) (tD s.1) := by
  show dataLt (.tuple _) (.tuple _) = _
  rw [dataLt_tuple, dataLt_cons (alike_tD _ _), if_neg]
  rw [eqv_tD]
  simpa using ne
theorem le0_leD {r s : List Str × Wh} (ne : r.1 ≠ s.1) : le0 (rowD r) (rowD s) = leD (rowD r) (rowD s) := by
  show (!dataLt (tD s.1) (tD r.1)) = !dataLt (rowD s) (rowD r)
  rw [lt_rowD (Ne.symm ne)]
theorem ord_uniq {xs ys : Rows} (g : Good xs) (hx : Ord xs) (hy : Ord ys) (p : xs.Perm ys) : xs = ys := by
  refine List.Perm.eq_of_pairwise (le := fun r s => leD (rowD r) (rowD s) = true) (fun a b ha hb h1 h2 => ?_) hx hy p
  have hb' : b ∈ xs := p.mem_iff.mpr hb
  by_cases e : a.1 = b.1
  · have e1 := at_of g.nd (a := a.1) (w := a.2) ha
    have e2 := at_of g.nd (a := b.1) (w := b.2) hb'
    rw [← e, e1] at e2
    exact Prod.ext e (Option.some.inj e2)
  · have l1 := lt_row e h1
    have h2 : (!dataLt (rowD a) (rowD b)) = true := h2
    rw [lt_rowD e, l1] at h2
    cases h2
theorem sort0_rows {rs : Rows} (g : Good rs) (hl : rs.length ≤ 100000) : ∃ ss : Rows, fSort0L (rs.map rowD) = .ok (.list (ss.map rowD)) ∧ ss.Perm rs ∧ Ord ss := by
  obtain ⟨ss, e, hp⟩ := perm_map (List.mergeSort_perm (rs.map rowD) le0)
  refine ⟨ss, ?_, hp, ?_⟩
  · unfold fSort0L
    rw [if_pos, e]
    refine ⟨?_, by rw [List.length_map]; exact sz_big hl⟩
    rw [Bool.and_eq_true]
    refine ⟨List.all_eq_true.mpr fun d hd => ?_, List.all_eq_true.mpr fun d hd => ?_⟩
    · obtain ⟨a, ha, rfl⟩ := List.mem_map.mp hd
      have ne := g.ne a ha
      have sn := g.sndA ha
      obtain ⟨ad, w⟩ := a
      cases ad with
      | nil => exact absurd rfl ne
      | cons x ks =>
        show ((ks.map PyData.str).all fun k => match k with | .str x => PyData.strOk x | _ => false) = true
        rw [List.all_map]
        exact List.all_eq_true.mpr fun k hk => sn k (List.mem_cons_of_mem _ hk)
    · obtain ⟨a, ha, rfl⟩ := List.mem_map.mp hd
      exact shaped_tD (g.sndA ha)
  · have h1 := sort_pairwise (sortLe_total (listOrd itemOrd) false fun b => keyToks (key0 b)) (rs.map rowD)
    have e2 : (rs.map rowD).mergeSort le0 = (rs.map rowD).mergeSort (PySem.W.sortLe (listOrd itemOrd) false fun b => keyToks (key0 b)) := rfl
    rw [← e2, e, List.pairwise_map] at h1
    have nd := (g.perm hp).nd
    rw [List.nodup_iff_pairwise_ne, List.pairwise_map] at nd
    exact (h1.and nd).imp fun ⟨a, b⟩ => (le0_leD b).symm.trans a
/-- rows in order, one more -/
theorem at_add {rs : Rows} {a b : List Str} {w v : Wh} (h : at_ rs a = some v) : at_ (rs ++ [(b, w)]) a = some v := by
  unfold at_ at h ⊢
  rw [List.find?_append]
  cases e : rs.find? fun r => decide (r.1 = a) with
  | none => rw [e] at h; cases h
  | some x => rw [e] at h; exact h
theorem at_perm {rs ss : Rows} (g : Good rs) (p : ss.Perm rs) {a : List Str} {v : Wh} (h : at_ rs a = some v) : at_ ss a = some v := at_of (g.perm p).nd (p.mem_iff.mpr (at_mem h))
theorem flat_rowD (r : List Str × Wh) : flat (rowD r) = true := by
  have h1 : flat (tD r.1) = true := by show flat (.tuple _) = true; simp [flat, flat_strs]
  have h2 : flat (wD r.2) = true := by
    cases r.2 with
    | link abs ps => show flat (.tuple _) = true; simp [flat, flatAll, flat_strs]
    | _ => rfl
  show flat (.tuple [tD r.1, wD r.2]) = true
  rw [flat, flatAll, flatAll, flatAll, h1, h2]
  rfl
theorem flat_rows : ∀ rs : Rows, flatAll (rs.map rowD) = true
  | [] => rfl
  | r :: rs => by rw [List.map_cons, flatAll, flat_rows rs, flat_rowD]; rfl
theorem in_tDsL {xs : List (List Str)} {a : List Str} (h : ∀ x ∈ xs, Snd x) (ha : Snd a) : fIn (tD a) (.list (xs.map tD)) = .ok (.bool (decide (a ∈ xs))) := by
  show (if (SeqAt.shaped (tD a) && SeqAt.shaped (.list (xs.map tD))) = true then Res.ok ((xs.map tD).any fun z => PyData.eqv z (tD a)) else .stuck).bind _ = _
  rw [if_pos (by rw [(cmp_tD ha).1, (cmp_tDs h).1]; rfl)]
  have : ((xs.map tD).any fun z => PyData.eqv z (tD a)) = decide (a ∈ xs) := by
    rw [List.any_map, Bool.eq_iff_iff, List.any_eq_true, decide_eq_true_iff]
    constructor
    · rintro ⟨s, hs, e⟩
      have e : PyData.eqv (tD s) (tD a) = true := e
      rw [eqv_tD, decide_eq_true_iff] at e
      exact e ▸ hs
    · intro h
      exact ⟨a, h, by show PyData.eqv (tD a) (tD a) = true; rw [eqv_tD]; simp⟩
  rw [this]
  rfl
theorem addT {xs ys : List D} (h : xs.length + ys.length ≤ 100000) : fAdd (.tuple xs) (.tuple ys) = .ok (.tuple (xs ++ ys)) := if_pos (sz_big h)
theorem sort0E {m : MA} {ρ : Rho} {d c : D} (h : m ρ = .ok [d]) (k : fSort0 d = .ok c) : mSort0 m ρ = .ok c := by unfold mSort0; rw [h]; exact k
theorem allBs (bs : List Bool) : fAll [.list (bs.map PyData.bool)] = .ok (.bool (bs.all _root_.id)) := by
  have h : asBools (bs.map PyData.bool) = some bs := by
    induction bs with
    | nil => rfl
    | cons d ds ih => rw [List.map_cons, asBools, ih]; rfl
  show (match asBools _ with | some bs => Res.ok (PyData.bool (bs.all _root_.id)) | none => .stuck) = _
  rw [h]
/-- a row that may come next -/
theorem next_good {rs bt lf : Rows} (g : Good rs) (gb : Good bt) (p : (bt ++ lf).Perm rs) {r : List Str × Wh} (hr : r ∈ lf) (hp : r.1.dropLast = [] ∨ r.1.dropLast ∈ dirRows bt) : Good (bt ++ [r]) ∧ at_ bt r.1 = none := by
  have hm : r ∈ rs := p.mem_iff.mp (List.mem_append_right _ hr)
  have nd : ((bt ++ lf).map (·.1)).Nodup := (p.map (·.1)).nodup_iff.mpr g.nd
  have hn : at_ bt r.1 = none := by
    cases e : at_ bt r.1 with
    | none => rfl
    | some v =>
      have := at_mem e
      rw [List.map_append, List.nodup_append] at nd
      exact absurd rfl (nd.2.2 r.1 (List.mem_map.mpr ⟨_, this, rfl⟩) r.1 (List.mem_map.mpr ⟨r, hr, rfl⟩))
  exact ⟨gb.add hn (g.ne r hm) (g.len r hm) (g.dlen r hm) (g.nm r hm) (hp.imp _root_.id mem_dirs) (g.lnk r hm), hn⟩
theorem dirs_mem {rs : Rows} {a : List Str} (h : (a, Wh.dir) ∈ rs) : a ∈ dirRows rs := List.mem_map.mpr ⟨_, List.mem_filter.mpr ⟨h, isW_dir.mpr rfl⟩, rfl⟩
/-- there is one -/
theorem ready_ex {rs bt lf : Rows} (g : Good rs) (p : (bt ++ lf).Perm rs) (hne : lf ≠ []) : ∃ r ∈ lf, r.1.dropLast = [] ∨ r.1.dropLast ∈ dirRows bt := by
  have key : ∀ n : Nat, ∀ r ∈ lf, r.1.length ≤ n → ∃ r ∈ lf, r.1.dropLast = [] ∨ r.1.dropLast ∈ dirRows bt := by
    intro n
    induction n with
    | zero =>
      intro r hr hl
      have := g.ne r (p.mem_iff.mp (List.mem_append_right _ hr))
      exact absurd (List.length_eq_zero_iff.mp (Nat.le_zero.mp hl)) this
    | succ n ih =>
      intro r hr hl
      have hm := p.mem_iff.mp (List.mem_append_right bt hr)
      rcases g.par r hm with h | h
      · exact ⟨r, hr, .inl h⟩
      · rcases List.mem_append.mp (p.mem_iff.mpr h) with h | h
        · exact ⟨r, hr, .inr (dirs_mem h)⟩
        · refine ih _ h ?_
          show r.1.dropLast.length ≤ n
          rw [List.length_dropLast]
          omega
  cases lf with
  | nil => exact absurd rfl hne
  | cons r lf => exact key r.1.length r (List.mem_cons_self ..) (Nat.le_refl _)
end Ma
end

section
set_option Elab.async false
set_option linter.all false
set_option maxRecDepth 100000
namespace L67
open PySem PySem.Spec PyProof.Rows L2 De Nv Ma
def kBody : MS := (mSeq (mSet 3 (mGet2 (mVar 0) (mSl fSl (mVar 1) mNo (mPart (mVar 2))) (mC (.str "unknown")))) (mIfS (mTest (mOp fNe (mVar 3) (mC (.str "dir"))))
  (mRet (mIf (mTest (mOp fEq (mVar 3) (mC (.str "unknown")))) (mC (.str "unknown")) (mC (.str "absent"))))
  mSkip))
def kLast : MS := (mRet (mIf (mTest (mOp fNe (mVar 1) (mTup mNil))) (mGet2 (mVar 0) (mVar 1) (mC (.str "unknown"))) (mC (.str "dir"))))
theorem known_eq : m_known_at = mSeq (mFor (fun ρ => ((mCons (mC (.int 1)) (mCons (mCallB fLen (mCons (mVar 1) mNil)) mNil)) ρ).bind asRng2) (.nm 2) kBody) kLast := rfl
theorem kloop {rs : Rows} (g : Good rs) {a : List Str} (nm : ∀ x ∈ a, Nm x) : ∀ (is : List Nat) (_ : ∀ i ∈ is, a.take (i + 1) ≠ [] ∧ at_ rs (a.take (i + 1)) = some .dir) (s2 s3 : Option Sl),
    ∃ t2 t3, forGo (.nm 2) kBody (is.map fun (i : Nat) => PyData.int (1 + (i : Int))) [some (.dat (.dict (rs.map rowP))), some (.dat (tD a)), s2, s3] = .next [some (.dat (.dict (rs.map rowP))), some (.dat (tD a)), t2, t3]
  | [], _, s2, s3 => ⟨s2, s3, rfl⟩
  | i :: is, h, s2, s3 => by
    obtain ⟨h1, h2⟩ := h i (List.mem_cons_self ..)
    have e : (1 + (i : Int)) = ((i + 1 : Nat) : Int) := by omega
    have hA : (mSet 3 (mGet2 (mVar 0) (mSl fSl (mVar 1) mNo (mPart (mVar 2))) (mC (.str "unknown")))) [some (.dat (.dict (rs.map rowP))), some (.dat (tD a)), some (.dat (.int (1 + (i : Int)))), s3] =
        .next [some (.dat (.dict (rs.map rowP))), some (.dat (tD a)), some (.dat (.int (1 + (i : Int)))), some (.dat (.str "dir"))] := by
      rw [e]
      exact setOk (get2Ok vOk (allT_rows rs) (slTo vOk rfl) rfl (by rw [get_at h1 (fun x hx => nm x (List.mem_of_mem_take hx)), h2]; first | done | rfl))
    have hB : kBody [some (.dat (.dict (rs.map rowP))), some (.dat (tD a)), some (.dat (.int (1 + (i : Int)))), s3] =
        .next [some (.dat (.dict (rs.map rowP))), some (.dat (tD a)), some (.dat (.int (1 + (i : Int)))), some (.dat (.str "dir"))] := by
      unfold kBody
      rw [mSeq_next hA, ifsOk (b := false) (tstOk (opOk vOk rfl (fNe_w (w := .dir) trivial (z := "dir") (by decide +kernel))))]
      exact if_neg (by decide)
    obtain ⟨t2, t3, e2⟩ := kloop g nm is (fun j hj => h j (List.mem_cons_of_mem _ hj)) (some (.dat (.int (1 + (i : Int))))) (some (.dat (.str "dir")))
    refine ⟨t2, t3, ?_⟩
    rw [List.map_cons]
    unfold forGo
    simp only [Tg.put, List.set_cons_succ, List.set_cons_zero]
    rw [hB]
    exact e2
theorem ne_nil {a : List Str} (hs : Snd a) : fNe (tD a) (.tuple []) = .ok (.bool (!decide (a = []))) := by
  have h : fNe (tD a) (.tuple []) = if (SeqAt.shaped (tD a) && SeqAt.shaped (tD [])) = true then .ok (.bool (!PyData.eqv (tD a) (tD []))) else .stuck := by
    unfold fNe
    rfl
  rw [h, shaped_tD hs, shaped_tD (xs := []) (fun _ h => by simp at h), eqv_tD]
  rfl
/-- prefixes of a known -/
theorem known_gen {rs : Rows} (g : Good rs) {a : List Str} (nm : ∀ x ∈ a, Nm x) (hl : a.length ≤ 100) (hp : ∀ i, i + 1 < a.length → at_ rs (a.take (i + 1)) = some .dir) :
    f_known_at [.dict (rs.map rowP), tD a] = .ok (if a = [] then .str "dir" else woD (at_ rs a)) := by
  obtain ⟨t2, t3, e⟩ := kloop g nm (List.range (a.length - 1)) (fun i hi => by
    have := List.mem_range.mp hi
    refine ⟨fun h => ?_, hp i (by omega)⟩
    have h2 : (a.take (i + 1)).length = 0 := by rw [h]; rfl
    rw [List.length_take] at h2
    omega) none none
  unfold f_known_at
  rw [known_eq]
  show runD (mSeq _ _ [some (.dat (.dict (rs.map rowP))), some (.dat (tD a)), none, none]) = _
  have eL : mFor (fun ρ => ((mCons (mC (.int 1)) (mCons (mCallB fLen (mCons (mVar 1) mNil)) mNil)) ρ).bind asRng2) (.nm 2) kBody [some (.dat (.dict (rs.map rowP))), some (.dat (tD a)), none, none] = .next [some (.dat (.dict (rs.map rowP))), some (.dat (tD a)), t2, t3] := by
    have z : (fun ρ => ((mCons (mC (.int 1)) (mCons (mCallB fLen (mCons (mVar 1) mNil)) mNil)) ρ).bind asRng2) [some (.dat (.dict (rs.map rowP))), some (.dat (tD a)), none, none] = .ok (rng 1 (a.length - 1)) := by
      show asRng2 [.int 1, .int (((a.map PyData.str).length : Nat) : Int)] = _
      rw [List.length_map]
      have : ((a.length : Int) - 1).toNat = a.length - 1 := by omega
      show (if _ then _ else _) = _
      rw [if_pos (by omega), this]
    unfold mFor
    rw [z, Res.st_ok]
    exact e
  rw [mSeq_next eL]
  have eT : (mTest (mOp fNe (mVar 1) (mTup mNil))) [some (.dat (.dict (rs.map rowP))), some (.dat (tD a)), t2, t3] = .ok (!decide (a = [])) :=
    tstOk (opOk vOk (tupOk rfl) (ne_nil fun x hx => (nm x hx).2.2.1))
  unfold kLast
  by_cases h : a = []
  · subst h
    rw [retOk ((ifOk eT).trans (if_neg (by decide)))]
    rfl
  · rw [if_neg h]
    have eT2 : (!decide (a = [])) = true := by simp [h]
    have eG : (mGet2 (mVar 0) (mVar 1) (mC (.str "unknown"))) [some (.dat (.dict (rs.map rowP))), some (.dat (tD a)), t2, t3] = .ok (woD (at_ rs a)) :=
      get2Ok vOk (allT_rows rs) vOk rfl (by rw [get_at h nm]; cases at_ rs a <;> rfl)
    rw [retOk (((ifOk eT).trans (if_pos eT2)).trans eG)]
    rfl
theorem pre_dirs {rs : Rows} (g : Good rs) {p : List Str} (hp : IsDir rs p) (i : Nat) (hi : i + 1 ≤ p.length) : at_ rs (p.take (i + 1)) = some .dir := by
  rcases hp.take g _ rfl (i + 1) with h | h
  · exfalso
    have h2 : (p.take (i + 1)).length = 0 := by rw [h]; rfl
    rw [List.length_take] at h2
    omega
  · exact h
theorem known_ok {rs : Rows} (g : Good rs) {p : List Str} (hp : IsDir rs p) {x : Str} (hx : Nm x) : f_known_at [.dict (rs.map rowP), tD (p ++ [x])] = .ok (woD (at_ rs (p ++ [x]))) := by
  rw [known_gen g (a := p ++ [x]), if_neg (by simp)]
  · intro y hy
    rcases List.mem_append.mp hy with h | h
    · exact hp.names g y h
    · rw [List.mem_singleton.mp h]; exact hx
  · have := hp.len g; simp; omega
  · intro i hi
    rw [List.length_append] at hi
    simp at hi
    rw [List.take_append_of_le_length (by omega)]
    exact pre_dirs g hp i (by omega)
theorem known_dir {rs : Rows} (g : Good rs) {p : List Str} (hp : IsDir rs p) : f_known_at [.dict (rs.map rowP), tD p] = .ok (.str "dir") := by
  rw [known_gen g (fun y hy => hp.names g y hy) (by have := hp.len g; omega) (fun i hi => pre_dirs g hp i (by omega))]
  rcases hp with rfl | h
  · rfl
  · rw [h]; split <;> rfl
end L67
end

section
set_option Elab.async false
set_option linter.all false
set_option maxRecDepth 100000
namespace L67
open PySem PySem.Spec PyProof.Rows L2 De Nv Ma
theorem remain_go (xs : List Str) (fs : Frs) (ρ : Rho) (hρ : ∀ d, Tg.put (.nm 1) d (wipeR ρ [1]) = some ((wipeR ρ [1]).set 1 (some (.dat d)))) (h1 : 1 < ρ.length) :
    compGo (mStep (.nm 1) [1] (mTest (mIsi "str" (mVar 1))) (mVar 1) ρ) (tkD xs fs) = .ok ((xs ++ rests fs).map PyData.str) := by
  have hv : ∀ d, mVar 1 ((wipeR ρ [1]).set 1 (some (.dat d))) = .ok d := fun d => vOk (by
    have : 1 < (wipeR ρ [1]).length := by simpa [wipeR] using h1
    rw [List.getElem?_set_self this])
  have hs : ∀ d b, fIsi "str" d = .ok (.bool b) → mStep (.nm 1) [1] (mTest (mIsi "str" (mVar 1))) (mVar 1) ρ d = .ok (if b = true then some d else none) := fun d b hb =>
    step_if (h1 := hρ d) (tstOk (isiOk (hv d) hb)) (hv d)
  have hx : ∀ (xs : List Str) (ds : List D) (r : List D), compGo (mStep (.nm 1) [1] (mTest (mIsi "str" (mVar 1))) (mVar 1) ρ) ds = .ok r → compGo (mStep (.nm 1) [1] (mTest (mIsi "str" (mVar 1))) (mVar 1) ρ) (xs.map PyData.str ++ ds) = .ok (xs.map PyData.str ++ r) := by
    intro xs ds r h
    induction xs with
    | nil => exact h
    | cons x xs ih =>
      rw [List.map_cons, List.cons_append]
      unfold compGo
      rw [hs _ _ (isi_str x), ih]
      rfl
  induction fs generalizing xs with
  | nil =>
    have := hx xs [] [] rfl
    simpa [tkD, rests] using this
  | cons f fs ih =>
    have h2 : compGo (mStep (.nm 1) [1] (mTest (mIsi "str" (mVar 1))) (mVar 1) ρ) (tD f.1 :: tkD f.2 fs) = .ok ((f.2 ++ rests fs).map PyData.str) := by
      unfold compGo
      rw [hs _ _ (isi_tup _), ih]
      rfl
    have := hx xs _ _ h2
    rw [List.map_append]
    exact this
theorem seqL_ok {m : M} {ρ : Rho} {ds : List D} (h : m ρ = .ok (.list ds)) (hl : ds.length ≤ 100000) : mSeqI m ρ = .ok ds := by
  unfold mSeqI
  rw [h]
  exact if_pos (sz_big hl)
theorem seqT_ok {m : M} {ρ : Rho} {ds : List D} (h : m ρ = .ok (.tuple ds)) (hl : ds.length ≤ 100000) : mSeqI m ρ = .ok ds := by
  unfold mSeqI
  rw [h]
  exact if_pos (sz_big hl)
theorem remaining_ok (xs : List Str) (fs : Frs) (hl : (tkD xs fs).length ≤ 100000) : f_remaining [.list (tkD xs fs)] = .ok (tD (xs ++ rests fs)) := by
  unfold f_remaining m_remaining
  show runD (mRet _ [some (.dat (.list (tkD xs fs))), none]) = _
  have h := remain_go xs fs [some (.dat (.list (tkD xs fs))), none] (fun d => rfl) (by simp)
  rw [retOk (callBOk (consOk (lc_of (ds := tkD xs fs) (seqL_ok vOk hl) h) rfl) rfl)]
  rfl
theorem eq_nilT {xs : List Str} (h : Snd xs) : fEq (tD xs) (.tuple []) = .ok (.bool (decide (xs = []))) := by
  have e : fEq (tD xs) (tD []) = if (SeqAt.shaped (tD xs) && SeqAt.shaped (tD [])) = true then .ok (.bool (PyData.eqv (tD xs) (tD []))) else .stuck := rfl
  show fEq (tD xs) (tD []) = _
  rw [e, shaped_tD h, shaped_tD (xs := []) (fun _ h => by simp at h), eqv_tD]
  rfl
theorem endat_ok {rs : Rows} {w : Option Wh} (hw : ∀ v, w = some v → SndW v) {a : List Str} {xs : List Str} {fs : Frs} (hl : (tkD xs fs).length ≤ 100000) (hs : Snd (xs ++ rests fs)) {mode : Str} (hmode : PyData.strOk mode = true) :
    f_end_at [woD w, tD a, .list (tkD xs fs), .str mode] = .ok (eaD (decide (mode = "keep")) a (xs ++ rests fs) w) := by
  generalize hr : xs ++ rests fs = rest at hs ⊢
  have h0 : (mSet 4 (mCall 1 f_remaining (mCons (mVar 2) mNil))) [some (.dat (woD w)), some (.dat (tD a)), some (.dat (.list (tkD xs fs))), some (.dat (.str mode)), none] =
      .next [some (.dat (woD w)), some (.dat (tD a)), some (.dat (.list (tkD xs fs))), some (.dat (.str mode)), some (.dat (tD rest))] := by
    rw [← hr]
    exact setOk (callOk (consOk vOk rfl) (remaining_ok xs fs hl))
  have eQ : ∀ z : Str, PyData.strOk z = true → (mTest (mOp fEq (mVar 0) (mC (.str z)))) [some (.dat (woD w)), some (.dat (tD a)), some (.dat (.list (tkD xs fs))), some (.dat (.str mode)), some (.dat (tD rest))] = .ok (isO w z) := fun z hz =>
    tstOk (opOk vOk rfl (fEq_o hw hz))
  have eR : (mTest (mOp fEq (mVar 4) (mTup mNil))) [some (.dat (woD w)), some (.dat (tD a)), some (.dat (.list (tkD xs fs))), some (.dat (.str mode)), some (.dat (tD rest))] = .ok (decide (rest = [])) :=
    tstOk (opOk vOk (tupOk rfl) (eq_nilT hs))
  have eM : (mTest (mOp fEq (mVar 3) (mC (.str "keep")))) [some (.dat (woD w)), some (.dat (tD a)), some (.dat (.list (tkD xs fs))), some (.dat (.str mode)), some (.dat (tD rest))] = .ok (decide (mode = "keep")) :=
    tstOk (opOk vOk rfl (eq_str hmode (by decide +kernel)))
  have eD : (mTest (mOp fNe (mVar 0) (mC (.str "dir")))) [some (.dat (woD w)), some (.dat (tD a)), some (.dat (.list (tkD xs fs))), some (.dat (.str mode)), some (.dat (tD rest))] = .ok (!isO w "dir") :=
    tstOk (opOk vOk rfl (fNe_o hw (by decide +kernel)))
  have e2 := eQ "unknown" (by decide +kernel)
  have e3 := eQ "absent" (by decide +kernel)
  have e4 := eQ "file" (by decide +kernel)
  have e6 := andT_ok eD (andT_ok eR eM)
  unfold f_end_at m_end_at
  show runD (mSeq _ _ [some (.dat (woD w)), some (.dat (tD a)), some (.dat (.list (tkD xs fs))), some (.dat (.str mode)), none]) = _
  rw [mSeq_next h0]
  cases w with
  | none =>
    have hB := (ifsOk (m1 := mRet (mTup (mCons (mC (.str "unknown")) (mCons (mVar 1) (mCons (mVar 4) mNil))))) (m2 := mSkip) e2).trans ((if_pos (by decide +kernel)).trans (retOk (tupOk (consOk rfl (consOk vOk (consOk vOk rfl))))))
    rw [mSeq_ret hB]
    rfl
  | some v =>
    have hB := (ifsOk (m1 := mRet (mTup (mCons (mC (.str "unknown")) (mCons (mVar 1) (mCons (mVar 4) mNil))))) (m2 := mSkip) e2).trans ((if_neg (by cases v <;> simp [isO, isW] <;> decide +kernel)).trans (rfl : mSkip _ = .next _))
    rw [mSeq_next hB]
    cases v with
    | absent =>
      have hC := (ifsOk (m1 := mRet (mTup (mCons (mC (.str "missing")) mNil))) (m2 := mSkip) e3).trans ((if_pos (by decide +kernel)).trans (retOk (tupOk (consOk rfl rfl))))
      rw [mSeq_ret hC]
      rfl
    | file =>
      have hC := (ifsOk (m1 := mRet (mTup (mCons (mC (.str "missing")) mNil))) (m2 := mSkip) e3).trans ((if_neg (by decide +kernel)).trans (rfl : mSkip _ = .next _))
      rw [mSeq_next hC]
      by_cases hz : rest = []
      · have hD := (ifsOk (m1 := mRet (mIf (mTest (mOp fEq (mVar 4) (mTup mNil))) (mTup (mCons (mC (.str "found")) (mCons (mVar 1) mNil))) (mTup (mCons (mC (.str "file")) mNil)))) (m2 := mSkip) e4).trans ((if_pos (by decide +kernel)).trans (retOk ((ifOk eR).trans ((if_pos (decide_eq_true hz)).trans (tupOk (consOk rfl (consOk vOk rfl)))))))
        rw [mSeq_ret hD]
        unfold eaD
        simp only [if_pos hz]
        rfl
      · have hD := (ifsOk (m1 := mRet (mIf (mTest (mOp fEq (mVar 4) (mTup mNil))) (mTup (mCons (mC (.str "found")) (mCons (mVar 1) mNil))) (mTup (mCons (mC (.str "file")) mNil)))) (m2 := mSkip) e4).trans ((if_pos (by decide +kernel)).trans (retOk ((ifOk eR).trans ((if_neg (by simp [hz])).trans (tupOk (consOk rfl rfl))))))
        rw [mSeq_ret hD]
        unfold eaD
        simp only [if_neg hz]
        rfl
    | dir =>
      have hC := (ifsOk (m1 := mRet (mTup (mCons (mC (.str "missing")) mNil))) (m2 := mSkip) e3).trans ((if_neg (by decide +kernel)).trans (rfl : mSkip _ = .next _))
      rw [mSeq_next hC]
      have hD := (ifsOk (m1 := mRet (mIf (mTest (mOp fEq (mVar 4) (mTup mNil))) (mTup (mCons (mC (.str "found")) (mCons (mVar 1) mNil))) (mTup (mCons (mC (.str "file")) mNil)))) (m2 := mSkip) e4).trans ((if_neg (by decide +kernel)).trans (rfl : mSkip _ = .next _))
      rw [mSeq_next hD]
      have hE := (ifsOk (m1 := mRet (mTup (mCons (mC (.str "found")) (mCons (mVar 1) mNil)))) (m2 := mSkip) e6).trans ((if_neg (by
        have : isO (some Wh.dir) "dir" = true := by decide +kernel
        rw [this]; simp)).trans (rfl : mSkip _ = .next _))
      rw [mSeq_next hE]
      rfl
    | link abs ps =>
      have hC := (ifsOk (m1 := mRet (mTup (mCons (mC (.str "missing")) mNil))) (m2 := mSkip) e3).trans ((if_neg (by simp [isO, isW])).trans (rfl : mSkip _ = .next _))
      rw [mSeq_next hC]
      have hD := (ifsOk (m1 := mRet (mIf (mTest (mOp fEq (mVar 4) (mTup mNil))) (mTup (mCons (mC (.str "found")) (mCons (mVar 1) mNil))) (mTup (mCons (mC (.str "file")) mNil)))) (m2 := mSkip) e4).trans ((if_neg (by simp [isO, isW])).trans (rfl : mSkip _ = .next _))
      rw [mSeq_next hD]
      by_cases hz : rest = [] ∧ decide (mode = "keep") = true
      · have hE := (ifsOk (m1 := mRet (mTup (mCons (mC (.str "found")) (mCons (mVar 1) mNil)))) (m2 := mSkip) e6).trans ((if_pos (by rw [decide_eq_true hz.1, hz.2]; simp [isO, isW])).trans (retOk (tupOk (consOk rfl (consOk vOk rfl)))))
        rw [mSeq_ret hE]
        unfold eaD
        simp only [if_pos hz]
        rfl
      · have hE := (ifsOk (m1 := mRet (mTup (mCons (mC (.str "found")) (mCons (mVar 1) mNil)))) (m2 := mSkip) e6).trans ((if_neg (fun h => hz (by
          obtain ⟨_, h⟩ := Bool.and_eq_true_iff.mp h
          obtain ⟨a, b⟩ := Bool.and_eq_true_iff.mp h
          exact ⟨of_decide_eq_true a, b⟩))).trans (rfl : mSkip _ = .next _))
        rw [mSeq_next hE]
        unfold eaD
        simp only [if_neg hz]
        rfl
end L67
end

section
set_option Elab.async false
set_option linter.all false
set_option maxRecDepth 100000
namespace L67
open PySem PySem.Spec PyProof.Rows L2 De Nv Ma
def wTest : MT := (lockR 6 (mTest (mOp fNe (mVar 6) (mLst mNil))) fun _ => true)
def wLink : MS := (mSeq (mDPut 8 (mVar 11) (mVar 11)) (mSeq (mSetO 6 (lockR 6 (mOp fCat (mOp fCat (mCallB fList (mCons (mOp fIdx (mVar 12) (mC (.int 1))) mNil)) (mLst (mCons (mVar 11) mNil))) (mVar 6)) flatO)) (mSet 5 (mIf (mTest (mOp fEq (mOp fIdx (mVar 12) (mC (.int 0))) (mC (.str "/")))) (mTup mNil) (mVar 5)))))
def wGo : MS := (mIfS (lockR 9 (mOrT (mTest (mOp fEq (mVar 12) (mC (.str "dir")))) (mTest (mOp fIn (mVar 11) (mVar 9)))) fun _ => true)
  (mSet 5 (lockR 9 (mGet2 (mVar 9) (mVar 11) (mVar 11)) flat))
  wLink)
def wRes : M := (lockR 6 (lockR 8 (mIf (mTest (mOp fIn (mVar 11) (mVar 8))) (mC (.tuple [(.str "loop")])) (mCall 4 f_end_at (mCons (mVar 12) (mCons (mVar 11) (mCons (mVar 6) (mCons (mVar 3) mNil)))))) flat) flat)
def wRet : MS := (mIfS (mTest (mOp fIsNot (mVar 13) (mC .none)))
  (fun ρ => (mRet (mTup (mCons (mVar 13) (mCons (mVar 7) mNil)))) (frzR 7 ρ))
  mSkip)
def wName : MS := (mSeq (mSet 11 (mOp fAdd (mVar 5) (mTup (mCons (mVar 10) mNil)))) (mSeq (mAppend 7 (mVar 11)) (mSeq (mSet 12 (mCall 2 f_known_at (mCons (mVar 0) (mCons (mVar 11) mNil)))) (mSeq (mSet 12 (mIf (mTest (mOp fEq (mVar 12) (mC (.str "unknown")))) (mVar 4) (mVar 12))) (mSeq (mSet 13 wRes) (mSeq wRet wGo))))))
def vBody : MS := (mSeq (mPop0 10 6) (mIfS (mNotT (mTest (mIsi "str" (mVar 10))))
  (mPutPop 9 8 (mVar 10) (mVar 5))
  (mIfS (mTest (mOp fEq (mVar 10) (mC (.str ".."))))
  (mSet 5 (mSl fSl (mVar 5) mNo (mPart (mUn fNeg (mC (.int 1))))))
  (mIfS (mTest (mOp fNe (mVar 10) (mC (.str "."))))
  wName
  mSkip))))
def wEnd : MS := (fun ρ => (mRet (mTup (mCons (mTup (mCons (mC (.str "found")) (mCons (mVar 5) mNil))) (mCons (mVar 7) mNil)))) (frzR 7 ρ))
theorem walk_eq : m_walk_steps = (mSeq (mSet 5 (mIf (mTest (mOp fEq (mOp fIdx (mVar 2) (mC (.int 0))) (mC (.str "/")))) (mTup mNil) (mVar 1))) (mSeq (mPar [6, 7] (mmOwn (mCallB fList (mCons (mOp fIdx (mVar 2) (mC (.int 1))) mNil)) (mmOwn (mLst mNil) mmNil))) (mSeq (mPar [8, 9] (mmOwn (mC (.dict [])) (mmOwn (mC (.dict [])) mmNil))) (mSeq (whileN wTest vBody fuel) wEnd)))) := rfl
abbrev actD (A : List (List Str)) : List (D × D) := rend (fun a => a) (fun a => tD a) A
abbrev endsD (E : Frs) : List (D × D) := rend (fun e : List Str × List Str => e.1) (fun e => tD e.2) E
abbrev wS (ms : Bool) (rs : Rows) (h pt : D) (mode : Str) (p : List Str) (tk : List D) (lk : List D) (A : List (List Str)) (E : Frs) (s10 s11 s12 s13 : Option Sl) : Rho :=
  [some (.dat (.dict (rs.map rowP))), some (.dat h), some (.dat pt), some (.dat (.str mode)), some (.dat (.str (misS ms))), some (.dat (tD p)), some (.own (.list tk)), some (.own (.list lk)), some (.own (.dict (actD A))), some (.own (.dict (endsD E))), s10, s11, s12, s13]
abbrev acts (fs : Frs) : List (List Str) := (fs.map (·.1)).reverse
/-- the rest at an unknown place is short -/
def RestB : WEnd → Prop
  | .unk _ r => r.length ≤ 1000
  | _ => True
/-- what is told of a walk: its end, what it looked up -/
def Told (ms : Bool) (rs : Rows) (keep : Bool) (p0 parts0 : List Str) (e : WEnd) (tr : List (List Str)) : Prop :=
  (∀ a ∈ tr, a ≠ [] ∧ ∀ x ∈ a, Nm x) ∧ Lim (lkO ms rs) keep p0 parts0 e ∧ RestB e ∧ ((∀ a ∈ tr, noLink (lkO ms rs a)) → ∀ c, nv (lkO ms rs) keep c p0 parts0 = e)
theorem wd_cases {x : Str} (h : Wd x) : x = ".." ∨ x = "." ∨ (Nm x ∧ x ≠ ".." ∧ x ≠ ".") := by
  rcases h with h | h | h
  · exact .inl h
  · exact .inr (.inl h)
  · exact .inr (.inr ⟨h, h.2.2.2.1, h.2.2.2.2⟩)
theorem vloop {ms : Bool} {rs : Rows} (g : Good rs) {kk : Nat} (kk60 : kk ≤ 60) (cap : Cap rs kk) {h pt : D} {mode : Str} (hmode : PyData.strOk mode = true) {p0 parts0 : List Str} : ∀ (f : Nat) (p xs : List Str) (fs E : Frs) (tr : List (List Str)) (s10 s11 s12 s13 : Option Sl), WI (lkO ms rs) (decide (mode = "keep")) Wd p0 parts0 p xs fs E tr → (∀ a ∈ tr, a ≠ [] ∧ ∀ x ∈ a, Nm x) →
    xs.length + (rests fs).length + fs.length + 13 * (kk - (fs.length + E.length)) < f → tr.length + f ≤ 50000 →
    ∃ e tr', mSeq (whileN wTest vBody f) wEnd (wS ms rs h pt mode p (tkD xs fs) (tr.map tD) (acts fs) E s10 s11 s12 s13) = .ret (.tuple [endD e, .list (tr'.map tD)]) ∧ Told ms rs (decide (mode = "keep")) p0 parts0 e tr'
  | 0, _, _, _, _, _, _, _, _, _, _, _, hf, _ => by omega
  | f + 1, p, xs, fs, E, tr, s10, s11, s12, s13, w, htr, hf, hl => by
    obtain ⟨snd, sndR, sndF⟩ := wi_snd g w
    have hcap := wi_cap w cap
    have htk := tkD_len xs fs
    have hsl := rests_len w.slen
    have hxl := w.len
    have hT : wTest (wS ms rs h pt mode p (tkD xs fs) (tr.map tD) (acts fs) E s10 s11 s12 s13) = .ok (!(tkD xs fs).isEmpty) :=
      lockOk (tstOk (opOk vOk (lstOk rfl) (ne_tk snd sndF))) rfl
    have hwd := dirL_is.mp w.dir
    have hpl := hwd.len g
    match xs, fs with
    | [], [] =>
      rw [mSeq_next (while_end hT)]
      obtain ⟨q1, q2⟩ := w.lim (e := .found p) fun c => by rw [show ([] : List Str) ++ rests [] = [] from rfl, nv_nil]
      refine ⟨.found p, tr, ?_, htr, q1, trivial, q2⟩
      exact retOk (ρ := wS ms rs h pt mode p (tkD [] []) (tr.map tD) (acts []) E s10 s11 s12 s13 |>.set 7 (some (.dat (.list (tr.map tD))))) (tupOk (consOk (tupOk (consOk rfl (consOk vOk rfl))) (consOk vOk rfl)))
    | [], (a, S) :: fs =>
      have w2 := w.pop
      obtain ⟨abs, ps, hat'⟩ := w.lks a (by simp)
      have hat := lkO_link.mp hat'
      have hne : a ≠ [] := g.ne _ (at_mem hat)
      have hnm : inD.keyOk (a.map PyData.str) = true := keyOk_names hne fun x hx => (g.nm _ (at_mem hat) x hx).2.1
      have hnd := w.nd
      rw [List.map_cons, List.cons_append, List.nodup_cons] at hnd
      have hP : mPop0 10 6 (wS ms rs h pt mode p (tkD [] ((a, S) :: fs)) (tr.map tD) (acts ((a, S) :: fs)) E s10 s11 s12 s13) = .next (wS ms rs h pt mode p (tkD S fs) (tr.map tD) (acts ((a, S) :: fs)) E (some (.dat (tD a))) s11 s12 s13) := pop0_ok (by decide)
      have eact : acts ((a, S) :: fs) = acts fs ++ [a] := by simp [acts]
      have hI : (mNotT (mTest (mIsi "str" (mVar 10)))) (wS ms rs h pt mode p (tkD S fs) (tr.map tD) (acts ((a, S) :: fs)) E (some (.dat (tD a))) s11 s12 s13) = .ok true :=
        notT_ok (b := false) (tstOk (isiOk vOk (isi_tup _)))
      have hM : mPutPop 9 8 (mVar 10) (mVar 5) (wS ms rs h pt mode p (tkD S fs) (tr.map tD) (acts ((a, S) :: fs)) E (some (.dat (tD a))) s11 s12 s13) = .next (wS ms rs h pt mode p (tkD S fs) (tr.map tD) (acts fs) (E ++ [(a, p)]) (some (.dat (tD a))) s11 s12 s13) := by
        refine putpop_ok (kvs := endsD E) (ls := actD (acts ((a, S) :: fs))) (ks := a.map PyData.str) (zs := a.map PyData.str) (v := tD p) vOk (allT_gen _) (by simp only [endsD, rend, List.length_map]; omega) (allT_gen _) (by decide) vOk hnm ?_ hnm ?_
        · have := find_gen (key := fun a : List Str => a) (val := fun a => tD a) a (acts ((a, S) :: fs))
          rw [this]
          have hm : a ∈ acts ((a, S) :: fs) := by rw [eact]; simp
          cases hfd : (acts ((a, S) :: fs)).find? fun e => decide (e = a) with
          | none => exact absurd (List.find?_eq_none.mp hfd a hm) (by simp)
          | some b =>
            have := List.find?_some hfd
            have hb : b = a := by simpa using this
            rw [hb]
            rfl
        · have e1 : dputK (endsD E) (.tuple (a.map PyData.str)) (tD p) = endsD (E ++ [(a, p)]) := put_gen (key := fun e : List Str × List Str => e.1) (val := fun e => tD e.2) (e := (a, p)) fun x hx hxa => hnd.1 (List.mem_append_right _ (List.mem_map.mpr ⟨x, hx, hxa⟩))
          have e2 : ddropK (actD (acts ((a, S) :: fs))) (.tuple (a.map PyData.str)) = actD (acts fs) := by
            rw [eact]
            exact drop_gen (key := fun a : List Str => a) (val := fun a => tD a) (e := a) (L := acts fs) fun x hx hxa => hnd.1 (List.mem_append_left _ (by subst hxa; exact List.mem_reverse.mp hx))
          rw [e1, e2]
          rfl
      have hB : vBody (wS ms rs h pt mode p (tkD [] ((a, S) :: fs)) (tr.map tD) (acts ((a, S) :: fs)) E s10 s11 s12 s13) = .next (wS ms rs h pt mode p (tkD S fs) (tr.map tD) (acts fs) (E ++ [(a, p)]) (some (.dat (tD a))) s11 s12 s13) := by
        unfold vBody
        rw [mSeq_next hP, ifsOk hI, if_pos rfl, hM]
      have ih := vloop g kk60 cap (h := h) (pt := pt) hmode f p S fs (E ++ [(a, p)]) tr (some (.dat (tD a))) s11 s12 s13 w2 htr (by simp only [rests, List.length_append, List.length_cons, List.length_nil] at hf hcap ⊢; omega) (by omega)
      obtain ⟨e, tr', ih, ih2⟩ := ih
      refine ⟨e, tr', ?_, ih2⟩
      rw [← ih]
      unfold mSeq
      rw [while_next hT hB]
    | t :: xs, fs =>
      have hts : Wd t := w.words t (by simp)
      have hP : mPop0 10 6 (wS ms rs h pt mode p (tkD (t :: xs) fs) (tr.map tD) (acts fs) E s10 s11 s12 s13) = .next (wS ms rs h pt mode p (tkD xs fs) (tr.map tD) (acts fs) E (some (.dat (.str t))) s11 s12 s13) := by
        rw [tkD_cons]
        exact pop0_ok (by decide)
      have hTt : wTest (wS ms rs h pt mode p (tkD (t :: xs) fs) (tr.map tD) (acts fs) E s10 s11 s12 s13) = .ok true := by
        rw [hT, tkD_cons]; rfl
      have hI : (mNotT (mTest (mIsi "str" (mVar 10)))) (wS ms rs h pt mode p (tkD xs fs) (tr.map tD) (acts fs) E (some (.dat (.str t))) s11 s12 s13) = .ok false :=
        notT_ok (b := true) (tstOk (isiOk vOk (isi_str _)))
      have eU : (mTest (mOp fEq (mVar 10) (mC (.str "..")))) (wS ms rs h pt mode p (tkD xs fs) (tr.map tD) (acts fs) E (some (.dat (.str t))) s11 s12 s13) = .ok (decide (t = "..")) :=
        tstOk (opOk vOk rfl (eq_str hts.snd (by decide +kernel)))
      have eO : (mTest (mOp fNe (mVar 10) (mC (.str ".")))) (wS ms rs h pt mode p (tkD xs fs) (tr.map tD) (acts fs) E (some (.dat (.str t))) s11 s12 s13) = .ok (!decide (t = ".")) :=
        tstOk (opOk vOk rfl (ne_str hts.snd (by decide +kernel)))
      simp only [List.length_cons] at hf
      rcases wd_cases hts with h0 | h0 | ⟨hwn, hn1, hn2⟩
      · have hB : vBody (wS ms rs h pt mode p (tkD (t :: xs) fs) (tr.map tD) (acts fs) E s10 s11 s12 s13) = .next (wS ms rs h pt mode p.dropLast (tkD xs fs) (tr.map tD) (acts fs) E (some (.dat (.str t))) s11 s12 s13) := by
          unfold vBody
          rw [mSeq_next hP, ifsOk hI, if_neg (by decide), ifsOk eU, if_pos (decide_eq_true h0)]
          exact setOk (slInit vOk)
        have w2 : WI (lkO ms rs) (decide (mode = "keep")) Wd p0 parts0 p.dropLast xs fs E tr := w.pass (d := 0) (U := True) (g.upL _ w.dir) (fun v c _ => by rw [h0, nv_up]; simp) (.inr (.inr trivial)) fun h => ⟨rfl, h⟩
        obtain ⟨e, tr', ih, ih2⟩ := vloop g kk60 cap (h := h) (pt := pt) hmode f p.dropLast xs fs E tr (some (.dat (.str t))) s11 s12 s13 w2 htr (by omega) (by omega)
        refine ⟨e, tr', ?_, ih2⟩
        rw [← ih]
        unfold mSeq
        rw [while_next hTt hB]
      · have h1 : t ≠ ".." := by rw [h0]; decide +kernel
        have hB : vBody (wS ms rs h pt mode p (tkD (t :: xs) fs) (tr.map tD) (acts fs) E s10 s11 s12 s13) = .next (wS ms rs h pt mode p (tkD xs fs) (tr.map tD) (acts fs) E (some (.dat (.str t))) s11 s12 s13) := by
          unfold vBody
          rw [mSeq_next hP, ifsOk hI, if_neg (by decide), ifsOk eU, if_neg (by simp [h1]), ifsOk eO, if_neg (by simp [h0])]
          rfl
        have w2 : WI (lkO ms rs) (decide (mode = "keep")) Wd p0 parts0 p xs fs E tr := w.pass (d := 0) (U := True) w.dir (fun v c _ => by rw [h0, nv_dot]; simp) (.inr (.inr trivial)) fun h => ⟨rfl, h⟩
        obtain ⟨e, tr', ih, ih2⟩ := vloop g kk60 cap (h := h) (pt := pt) hmode f p xs fs E tr (some (.dat (.str t))) s11 s12 s13 w2 htr (by omega) (by omega)
        refine ⟨e, tr', ?_, ih2⟩
        rw [← ih]
        unfold mSeq
        rw [while_next hTt hB]
      · -- a name
        have nma : ∀ x ∈ p ++ [t], Nm x := fun x hx => by
          rcases List.mem_append.mp hx with h | h
          · exact hwd.names g x h
          · rw [List.mem_singleton.mp h]; exact hwn
        have nea : p ++ [t] ≠ [] := by simp
        have h11 : mSet 11 (mOp fAdd (mVar 5) (mTup (mCons (mVar 10) mNil))) (wS ms rs h pt mode p (tkD xs fs) (tr.map tD) (acts fs) E (some (.dat (.str t))) s11 s12 s13) = .next (wS ms rs h pt mode p (tkD xs fs) (tr.map tD) (acts fs) E (some (.dat (.str t))) (some (.dat (tD (p ++ [t])))) s12 s13) :=
          setOk (opOk vOk (tupOk (consOk vOk rfl)) (add_tup (xs := p) (ys := [t]) (by simp; omega)))
        have h7 : mAppend 7 (mVar 11) (wS ms rs h pt mode p (tkD xs fs) (tr.map tD) (acts fs) E (some (.dat (.str t))) (some (.dat (tD (p ++ [t])))) s12 s13) = .next (wS ms rs h pt mode p (tkD xs fs) ((tr ++ [p ++ [t]]).map tD) (acts fs) E (some (.dat (.str t))) (some (.dat (tD (p ++ [t])))) s12 s13) :=
          append_ok (ds := tr.map tD) vOk (by rw [List.length_map]; omega) (by rw [List.map_append]; rfl)
        have htr2 : ∀ a ∈ tr ++ [p ++ [t]], a ≠ [] ∧ ∀ x ∈ a, Nm x := fun a ha => by
          rcases List.mem_append.mp ha with h | h
          · exact htr a h
          · rw [List.mem_singleton.mp h]; exact ⟨nea, nma⟩
        have tr2l : (tr ++ [p ++ [t]]).length = tr.length + 1 := by simp
        have hpt : p ++ [t] ∈ tr ++ [p ++ [t]] := by simp
        have hsub : ∀ a ∈ tr, a ∈ tr ++ [p ++ [t]] := fun a ha => List.mem_append_left _ ha
        have hmem : ∀ {P : List Str → Prop}, (∀ a ∈ tr ++ [p ++ [t]], P a) → ∀ a ∈ tr, P a := fun h a ha => h a (List.mem_append_left _ ha)
        generalize htr2e : tr ++ [p ++ [t]] = tr2 at *
        generalize ha : p ++ [t] = a at *
        generalize hw0 : at_ rs a = w0
        generalize hw8 : lkO ms rs a = w8
        have h12 : mSet 12 (mCall 2 f_known_at (mCons (mVar 0) (mCons (mVar 11) mNil))) (wS ms rs h pt mode p (tkD xs fs) (tr2.map tD) (acts fs) E (some (.dat (.str t))) (some (.dat (tD a))) s12 s13) = .next (wS ms rs h pt mode p (tkD xs fs) (tr2.map tD) (acts fs) E (some (.dat (.str t))) (some (.dat (tD a))) (some (.dat (woD w0))) s13) :=
          setOk (d := woD w0) (callOk (consOk vOk (consOk vOk rfl)) (by rw [← hw0, ← ha]; exact known_ok g hwd hwn))
        have sw0 : ∀ v, w0 = some v → SndW v := fun v hv => g.sndO (a := a) v (by rw [hw0, hv])
        have hw80 : w8 = misO ms w0 := by rw [← hw8, ← hw0]; rfl
        have sw : ∀ v, w8 = some v → SndW v := fun v hv => by
          rw [hw80] at hv
          cases w0 with
          | none =>
            cases ms
            · cases hv
            · cases hv; trivial
          | some u => exact sw0 v hv
        have h12b : mSet 12 (mIf (mTest (mOp fEq (mVar 12) (mC (.str "unknown")))) (mVar 4) (mVar 12)) (wS ms rs h pt mode p (tkD xs fs) (tr2.map tD) (acts fs) E (some (.dat (.str t))) (some (.dat (tD a))) (some (.dat (woD w0))) s13) = .next (wS ms rs h pt mode p (tkD xs fs) (tr2.map tD) (acts fs) E (some (.dat (.str t))) (some (.dat (tD a))) (some (.dat (woD w8))) s13) := by
          have e := tstOk (opOk (f := fEq) (ρ := wS ms rs h pt mode p (tkD xs fs) (tr2.map tD) (acts fs) E (some (.dat (.str t))) (some (.dat (tD a))) (some (.dat (woD w0))) s13) (m1 := mVar 12) (m2 := mC (.str "unknown")) vOk rfl (fEq_o sw0 (z := "unknown") (by decide +kernel)))
          refine setOk (d := woD w8) ((ifOk e).trans ?_)
          rw [hw80]
          cases w0 with
          | none => cases ms <;> exact (if_pos (by decide +kernel)).trans vOk
          | some v => exact (if_neg (by cases v <;> simp [isO, isW] <;> decide +kernel)).trans vOk
        have lenTk : (tkD xs fs).length ≤ 100000 := by rw [tkD_len]; omega
        have sndR2 : Snd (xs ++ rests fs) := fun x hx => sndR x (by simp only [List.cons_append]; exact List.mem_cons_of_mem _ hx)
        -- the result
        have hR : wRes (wS ms rs h pt mode p (tkD xs fs) (tr2.map tD) (acts fs) E (some (.dat (.str t))) (some (.dat (tD a))) (some (.dat (woD w8))) s13) = .ok (if a ∈ fs.map (·.1) then endD .loop else eaD (decide (mode = "keep")) a (xs ++ rests fs) w8) := by
          have eIn : fIn (tD a) (.dict (actD (acts fs))) = .ok (.bool (decide (a ∈ fs.map (·.1)))) := by
            rw [in_gen nea nma]
            congr 2
            rw [Bool.eq_iff_iff, List.any_eq_true]
            simp only [decide_eq_true_eq, exists_eq_right, acts, List.mem_reverse]
          refine lockOk (d := .list (tkD xs fs)) (lockOk (d := .dict (actD (acts fs))) ((ifOk (tstOk (opOk vOk vOk eIn))).trans ?_) ?_) ?_
          · by_cases hm : a ∈ fs.map (·.1)
            · rw [if_pos (decide_eq_true hm), if_pos hm]
              rfl
            · rw [if_neg (by simpa using hm), if_neg hm]
              exact callOk (consOk vOk (consOk vOk (consOk vOk (consOk vOk rfl)))) (endat_ok (rs := rs) sw lenTk sndR2 hmode)
          · split
            · exact flat_endD _
            · exact flat_ea _ _ _ _
          · split
            · exact flat_endD _
            · exact flat_ea _ _ _ _
        generalize hres : (if a ∈ fs.map (·.1) then endD .loop else eaD (decide (mode = "keep")) a (xs ++ rests fs) w8) = R at hR
        have h13 := setOk (i := 13) hR
        have hBody : ∀ r, mSeq wRet wGo (wS ms rs h pt mode p (tkD xs fs) (tr2.map tD) (acts fs) E (some (.dat (.str t))) (some (.dat (tD a))) (some (.dat (woD w8))) (some (.dat R))) = r → vBody (wS ms rs h pt mode p (tkD (t :: xs) fs) (tr.map tD) (acts fs) E s10 s11 s12 s13) = r := by
          intro r hr
          unfold vBody
          rw [mSeq_next hP, ifsOk hI, if_neg (by decide), ifsOk eU, if_neg (by simp [hn1]), ifsOk eO, if_pos (by simp [hn2])]
          unfold wName
          rw [mSeq_next h11, mSeq_next h7, mSeq_next h12, mSeq_next h12b, mSeq_next h13]
          exact hr
        have eN : (mTest (mOp fIsNot (mVar 13) (mC .none))) (wS ms rs h pt mode p (tkD xs fs) (tr2.map tD) (acts fs) E (some (.dat (.str t))) (some (.dat (tD a))) (some (.dat (woD w8))) (some (.dat R))) = .ok (!isNon R) :=
          tstOk (opOk vOk rfl rfl)
        -- it ends
        have ends : isNon R = false → ∀ e, R = endD e → RestB e → (∀ c, nv (lkO ms rs) (decide (mode = "keep")) c p (t :: (xs ++ rests fs)) = e) → ∃ e tr', mSeq (whileN wTest vBody (f + 1)) wEnd (wS ms rs h pt mode p (tkD (t :: xs) fs) (tr.map tD) (acts fs) E s10 s11 s12 s13) = .ret (.tuple [endD e, .list (tr'.map tD)]) ∧ Told ms rs (decide (mode = "keep")) p0 parts0 e tr' := by
          intro hnon e he hrb hnv
          obtain ⟨hL, hP⟩ := w.lim hnv
          refine ⟨e, tr2, mSeq_ret (while_ret hTt (hBody _ (mSeq_ret ?_))), htr2, hL, hrb, fun hp => hP (hmem hp)⟩
          rw [← he]
          refine (ifsOk eN).trans ((if_pos (by rw [hnon]; rfl)).trans ?_)
          exact retOk (ρ := wS ms rs h pt mode p (tkD xs fs) (tr2.map tD) (acts fs) E (some (.dat (.str t))) (some (.dat (tD a))) (some (.dat (woD w8))) (some (.dat R)) |>.set 7 (some (.dat (.list (tr2.map tD))))) (tupOk (consOk vOk (consOk vOk rfl)))
        by_cases hm : a ∈ fs.map (·.1)
        · rw [if_pos hm] at hres
          exact ends (by rw [← hres]; rfl) .loop hres.symm trivial fun c => FI.loop fs xs (by rw [ha]; exact hm) w.fi c
        · rw [if_neg hm] at hres
          have eD := fun (z : Str) (hz : PyData.strOk z = true) => tstOk (opOk (f := fEq) (ρ := wS ms rs h pt mode p (tkD xs fs) (tr2.map tD) (acts fs) E (some (.dat (.str t))) (some (.dat (tD a))) (some (.dat (woD w8))) (some (.dat R)) |>.set 9 (some (.dat (.dict (endsD E))))) (m1 := mVar 12) (m2 := mC (.str z)) vOk rfl (fEq_o sw (z := z) hz))
          have eE : (mTest (mOp fIn (mVar 11) (mVar 9))) (wS ms rs h pt mode p (tkD xs fs) (tr2.map tD) (acts fs) E (some (.dat (.str t))) (some (.dat (tD a))) (some (.dat (woD w8))) (some (.dat R)) |>.set 9 (some (.dat (.dict (endsD E))))) = .ok (E.any fun e => decide (e.1 = a)) :=
            tstOk (opOk vOk vOk (in_gen nea nma E))
          have eGT := lockOk (i := 9) (ok := fun _ => true) (ρ := wS ms rs h pt mode p (tkD xs fs) (tr2.map tD) (acts fs) E (some (.dat (.str t))) (some (.dat (tD a))) (some (.dat (woD w8))) (some (.dat R))) (orT_ok (eD "dir" (by decide +kernel)) eE) rfl
          -- it goes on
          have skip : R = .none → mSeq wRet wGo (wS ms rs h pt mode p (tkD xs fs) (tr2.map tD) (acts fs) E (some (.dat (.str t))) (some (.dat (tD a))) (some (.dat (woD w8))) (some (.dat R))) = wGo (wS ms rs h pt mode p (tkD xs fs) (tr2.map tD) (acts fs) E (some (.dat (.str t))) (some (.dat (tD a))) (some (.dat (woD w8))) (some (.dat R))) := by
            intro hn
            refine mSeq_next ?_
            refine (ifsOk eN).trans ((if_neg (by rw [hn]; decide)).trans rfl)
          have place : ∀ q : List Str, (isO w8 "dir" || E.any fun e => decide (e.1 = a)) = true → (((E.find? fun e => decide (e.1 = a)).map fun e => tD e.2).getD (tD a)) = tD q →
              wGo (wS ms rs h pt mode p (tkD xs fs) (tr2.map tD) (acts fs) E (some (.dat (.str t))) (some (.dat (tD a))) (some (.dat (woD w8))) (some (.dat R))) = .next (wS ms rs h pt mode q (tkD xs fs) (tr2.map tD) (acts fs) E (some (.dat (.str t))) (some (.dat (tD a))) (some (.dat (woD w8))) (some (.dat R))) := by
            intro q h1 h2
            unfold wGo
            refine (ifsOk eGT).trans ((if_pos h1).trans ?_)
            refine setOk (d := tD q) (lockOk (d := .dict (endsD E)) (get2Ok vOk (allT_gen E) vOk vOk ?_) (flat_strs q))
            rw [getD_gen nea nma, h2]
          have goOn : ∀ (q xs' : List Str) (fs' : Frs), mSeq wRet wGo (wS ms rs h pt mode p (tkD xs fs) (tr2.map tD) (acts fs) E (some (.dat (.str t))) (some (.dat (tD a))) (some (.dat (woD w8))) (some (.dat R))) = .next (wS ms rs h pt mode q (tkD xs' fs') (tr2.map tD) (acts fs') E (some (.dat (.str t))) (some (.dat (tD a))) (some (.dat (woD w8))) (some (.dat R))) →
              WI (lkO ms rs) (decide (mode = "keep")) Wd p0 parts0 q xs' fs' E tr2 → xs'.length + (rests fs').length + fs'.length + 13 * (kk - (fs'.length + E.length)) < f →
              ∃ e tr', mSeq (whileN wTest vBody (f + 1)) wEnd (wS ms rs h pt mode p (tkD (t :: xs) fs) (tr.map tD) (acts fs) E s10 s11 s12 s13) = .ret (.tuple [endD e, .list (tr'.map tD)]) ∧ Told ms rs (decide (mode = "keep")) p0 parts0 e tr' := by
            intro q xs' fs' hgo w2 hf2
            obtain ⟨e, tr', ih, ih2⟩ := vloop g kk60 cap (h := h) (pt := pt) hmode f q xs' fs' E tr2 (some (.dat (.str t))) (some (.dat (tD a))) (some (.dat (woD w8))) (some (.dat R)) w2 htr2 hf2 (by omega)
            refine ⟨e, tr', ?_, ih2⟩
            rw [← ih]
            unfold mSeq
            rw [while_next hTt (hBody _ hgo)]
          have lkE : ∀ e ∈ E, ∃ abs ps, lkO ms rs e.1 = some (.link abs ps) := fun e he => w.lks e.1 (List.mem_append_right _ (List.mem_map.mpr ⟨e, he, rfl⟩))
          cases w8 with
          | none =>
            refine ends (by rw [← hres]; rfl) (.unk a (xs ++ rests fs)) hres.symm (by show (xs ++ rests fs).length ≤ 1000; simp only [List.length_cons] at hxl; rw [List.length_append]; omega) ?_
            exact fun c => by rw [nv_name c p _ hn1 hn2, ha, hw8, nvL, ha]
          | some v =>
            cases v with
            | absent =>
              refine ends (by rw [← hres]; rfl) .missing hres.symm trivial ?_
              exact fun c => by rw [nv_name c p _ hn1 hn2, ha, hw8, nvL]
            | file =>
              refine ends ?_ (if xs ++ rests fs = [] then .found a else .file) ?_ (by split <;> trivial) ?_
              · rw [← hres]; unfold eaD; simp only; split <;> rfl
              · rw [← hres]; unfold eaD; simp only; split <;> rfl
              · exact fun c => by rw [nv_name c p _ hn1 hn2, ha, hw8, nvL, ha]
            | dir =>
              have hRn : R = .none := hres.symm
              have noE : (E.find? fun e => decide (e.1 = a)) = none := List.find?_eq_none.mpr fun e he hea => by
                obtain ⟨abs, ps, h1⟩ := lkE e he
                have : e.1 = a := by simpa using hea
                rw [this, hw8] at h1
                cases h1
              have hst : ∀ k v, nv (lkO ms rs) (decide (mode = "keep")) k p (t :: v) = nv (lkO ms rs) (decide (mode = "keep")) k a v := fun k v => by
                rw [nv_name k p _ hn1 hn2, ha, hw8, nvL, ha]
              refine goOn a xs fs ((skip hRn).trans (place a (by
                have : isO (some Wh.dir) "dir" = true := by decide +kernel
                rw [this]; rfl) (by rw [noE]; rfl))) (w.pass (d := 0) (U := True) (.inr hw8) (fun v c _ => by rw [hst]; simp) (.inr (.inr trivial)) fun h => ⟨rfl, hmem h⟩) (by omega)
            | link abs ps =>
              have hw8b := lkO_link.mp hw8
              obtain ⟨lk1, lk2', lk3⟩ := g.lnk _ (at_mem hw8b) abs ps rfl
              have noL : ∀ {P : Prop}, (∀ b ∈ tr2, noLink (lkO ms rs b)) → P := fun h => by
                have := h a hpt
                rw [hw8] at this
                exact this.elim
              by_cases hz : xs ++ rests fs = [] ∧ decide (mode = "keep") = true
              · refine ends ?_ (.found a) ?_ trivial ?_
                · rw [← hres]; unfold eaD; simp only [if_pos hz]; rfl
                · rw [← hres]; unfold eaD; simp only [if_pos hz]
                · exact fun c => by rw [nv_name c p _ hn1 hn2, ha, hw8, nvL_kept hz, ha]
              · have hRn : R = .none := by rw [← hres]; unfold eaD; simp only [if_neg hz]
                have hc : xs ++ rests fs ≠ [] ∨ decide (mode = "keep") = false := by
                  by_cases h1 : xs ++ rests fs = []
                  · exact .inr (by cases h2 : decide (mode = "keep") with
                      | true => exact absurd ⟨h1, h2⟩ hz
                      | false => rfl)
                  · exact .inl h1
                cases hfe : E.find? fun e => decide (e.1 = a) with
                | some e =>
                  have he := List.mem_of_find?_eq_some hfe
                  have hea : e.1 = a := by simpa using List.find?_some hfe
                  obtain ⟨hq, b, x, m, h1, h2⟩ := w.mem e he
                  rw [hea, ← ha] at h1
                  obtain ⟨rfl, hx⟩ := List.append_inj' h1 rfl
                  have hx : t = x := by simpa using hx
                  subst hx
                  refine goOn e.2 xs fs ((skip hRn).trans (place e.2 (by
                    rw [Bool.or_eq_true, List.any_eq_true]
                    exact .inr ⟨e, he, decide_eq_true hea⟩) (by rw [hfe]; rfl))) (w.pass (d := m) (U := False) hq (fun v c hv => ?_) (by simpa using hc) noL) (by omega)
                  have := h2 v c (by simpa using hv)
                  simpa using this
                | none =>
                  have hnE : ∀ e ∈ E, e.1 ≠ a := fun e he hea => List.find?_eq_none.mp hfe e he (by simp [hea])
                  have hnE2 : (E.any fun e => decide (e.1 = a)) = false := by
                    rw [List.any_eq_false]
                    intro e he
                    simpa using hnE e he
                  have hst : ∀ v c, (v ≠ [] ∨ decide (mode = "keep") = false) → nv (lkO ms rs) (decide (mode = "keep")) c p (t :: v) = if c < 1 then .loop else nv (lkO ms rs) (decide (mode = "keep")) (c - 1) (if abs = true then [] else p) (ps ++ v) := fun v c hv => by
                    have hv2 : ¬ (v = [] ∧ decide (mode = "keep") = true) := by
                      rintro ⟨h1, h2⟩
                      rcases hv with hv | hv
                      · exact hv h1
                      · rw [h2] at hv; cases hv
                    rw [nv_name c p _ hn1 hn2, ha, hw8, nvL_link hv2]
                    rfl
                  have w2 : WI (lkO ms rs) (decide (mode = "keep")) Wd p0 parts0 (if abs = true then [] else p) ps ((a, xs) :: fs) E tr2 := by
                    rw [← htr2e, ← ha]
                    exact w.link (by cases abs; exact w.dir; exact .inl rfl) lk1 lk3 (by rw [ha]; exact hw8) (by rw [ha]; exact hm) (by
                      rw [ha]
                      intro h
                      obtain ⟨e, he, hea⟩ := List.mem_map.mp h
                      exact hnE e he hea) hst hc
                  have hcap2 := wi_cap w2 cap
                  have eact : acts ((a, xs) :: fs) = acts fs ++ [a] := by simp [acts]
                  have hgo : wGo (wS ms rs h pt mode p (tkD xs fs) (tr2.map tD) (acts fs) E (some (.dat (.str t))) (some (.dat (tD a))) (some (.dat (woD (some (Wh.link abs ps))))) (some (.dat R))) = .next (wS ms rs h pt mode (if abs = true then [] else p) (tkD ps ((a, xs) :: fs)) (tr2.map tD) (acts ((a, xs) :: fs)) E (some (.dat (.str t))) (some (.dat (tD a))) (some (.dat (woD (some (Wh.link abs ps))))) (some (.dat R))) := by
                    unfold wGo
                    refine (ifsOk eGT).trans ((if_neg (by rw [hnE2]; simp [isO, isW])).trans ?_)
                    have hna : ∀ x ∈ acts fs, x ≠ a := fun x hx hxa => hm (by rw [← hxa]; exact List.mem_reverse.mp hx)
                    have l1 : mDPut 8 (mVar 11) (mVar 11) (wS ms rs h pt mode p (tkD xs fs) (tr2.map tD) (acts fs) E (some (.dat (.str t))) (some (.dat (tD a))) (some (.dat (woD (some (Wh.link abs ps))))) (some (.dat R))) = .next (wS ms rs h pt mode p (tkD xs fs) (tr2.map tD) (acts ((a, xs) :: fs)) E (some (.dat (.str t))) (some (.dat (tD a))) (some (.dat (woD (some (Wh.link abs ps))))) (some (.dat R))) := by
                      refine dput_ok (kvs := actD (acts fs)) (ks := a.map PyData.str) (v := tD a) vOk (allT_gen _) (by simp only [actD, rend, List.length_map, acts, List.length_reverse]; omega) vOk (keyOk_names nea fun x hx => (nma x hx).2.1) ?_
                      have e1 : dputK (actD (acts fs)) (.tuple (a.map PyData.str)) (tD a) = actD (acts fs ++ [a]) := put_gen (key := fun a : List Str => a) (val := fun a => tD a) (e := a) hna
                      rw [e1, eact]
                      rfl
                    have l2 : mSetO 6 (lockR 6 (mOp fCat (mOp fCat (mCallB fList (mCons (mOp fIdx (mVar 12) (mC (.int 1))) mNil)) (mLst (mCons (mVar 11) mNil))) (mVar 6)) flatO) (wS ms rs h pt mode p (tkD xs fs) (tr2.map tD) (acts ((a, xs) :: fs)) E (some (.dat (.str t))) (some (.dat (tD a))) (some (.dat (woD (some (Wh.link abs ps))))) (some (.dat R))) =
                        .next (wS ms rs h pt mode p (tkD ps ((a, xs) :: fs)) (tr2.map tD) (acts ((a, xs) :: fs)) E (some (.dat (.str t))) (some (.dat (tD a))) (some (.dat (woD (some (Wh.link abs ps))))) (some (.dat R))) := by
                      refine setoOk (d := .list (tkD ps ((a, xs) :: fs))) (lockOk (d := .list (tkD xs fs)) (opOk (opOk (c := .list (ps.map PyData.str ++ [tD a])) (callBOk (d := .list (ps.map PyData.str)) (consOk (opOk (a := pathD abs ps) (c := tD ps) vOk rfl rfl) rfl) rfl) (lstOk (consOk vOk rfl)) (cat_ok (by simp; omega))) vOk ?_) (flat_tk ps ((a, xs) :: fs)))
                      rw [cat_ok (by rw [tkD_len]; simp; omega)]
                      show Res.ok (PyData.list (ps.map PyData.str ++ [tD a] ++ tkD xs fs)) = Res.ok (PyData.list (ps.map PyData.str ++ (tD a :: tkD xs fs)))
                      rw [List.append_assoc]
                      rfl
                    have eA : (mTest (mOp fEq (mOp fIdx (mVar 12) (mC (.int 0))) (mC (.str "/")))) (wS ms rs h pt mode p (tkD ps ((a, xs) :: fs)) (tr2.map tD) (acts ((a, xs) :: fs)) E (some (.dat (.str t))) (some (.dat (tD a))) (some (.dat (woD (some (Wh.link abs ps))))) (some (.dat R))) = .ok abs :=
                      tstOk (opOk (opOk (a := pathD abs ps) (c := .str (startS abs)) vOk rfl rfl) rfl (eq_start abs))
                    have l3 : mSet 5 (mIf (mTest (mOp fEq (mOp fIdx (mVar 12) (mC (.int 0))) (mC (.str "/")))) (mTup mNil) (mVar 5)) (wS ms rs h pt mode p (tkD ps ((a, xs) :: fs)) (tr2.map tD) (acts ((a, xs) :: fs)) E (some (.dat (.str t))) (some (.dat (tD a))) (some (.dat (woD (some (Wh.link abs ps))))) (some (.dat R))) =
                        .next (wS ms rs h pt mode (if abs = true then [] else p) (tkD ps ((a, xs) :: fs)) (tr2.map tD) (acts ((a, xs) :: fs)) E (some (.dat (.str t))) (some (.dat (tD a))) (some (.dat (woD (some (Wh.link abs ps))))) (some (.dat R))) := by
                      cases abs with
                      | true => exact setOk ((ifOk eA).trans ((if_pos rfl).trans (tupOk rfl)))
                      | false => exact setOk ((ifOk eA).trans ((if_neg (by decide)).trans vOk))
                    unfold wLink
                    rw [mSeq_next l1, mSeq_next l2, l3]
                  refine goOn (if abs = true then [] else p) ps ((a, xs) :: fs) ((skip hRn).trans hgo) w2 ?_
                  simp only [rests, List.length_append, List.length_cons] at hcap2 ⊢
                  omega
end L67
end

section
set_option Elab.async false
set_option linter.all false
set_option maxRecDepth 100000
namespace L67
open PySem PySem.Spec PyProof.Rows L2 De Nv Ma
theorem walk_steps_ok (ms : Bool) {rs : Rows} (g : Good rs) (hr : rs.length ≤ 60) {here : List Str} (hh : IsDir rs here) {abs : Bool} {ps : List Str} (hps : ∀ x ∈ ps, Wd x) (hl : ps.length ≤ 12) {mode : Str} (hmode : PyData.strOk mode = true) :
    ∃ e tr, f_walk_steps [.dict (rs.map rowP), tD here, pathD abs ps, .str mode, .str (misS ms)] = .ok (.tuple [endD e, .list (tr.map tD)]) ∧ Told ms rs (decide (mode = "keep")) (base abs here) ps e tr := by
  unfold f_walk_steps
  rw [walk_eq]
  show ∃ e tr, runD (mSeq _ _ [some (.dat (.dict (rs.map rowP))), some (.dat (tD here)), some (.dat (pathD abs ps)), some (.dat (.str mode)), some (.dat (.str (misS ms))), none, none, none, none, none, none, none, none, none]) = _ ∧ _
  have hA : (mSet 5 (mIf (mTest (mOp fEq (mOp fIdx (mVar 2) (mC (.int 0))) (mC (.str "/")))) (mTup mNil) (mVar 1))) [some (.dat (.dict (rs.map rowP))), some (.dat (tD here)), some (.dat (pathD abs ps)), some (.dat (.str mode)), some (.dat (.str (misS ms))), none, none, none, none, none, none, none, none, none] =
      .next [some (.dat (.dict (rs.map rowP))), some (.dat (tD here)), some (.dat (pathD abs ps)), some (.dat (.str mode)), some (.dat (.str (misS ms))), some (.dat (tD (if abs = true then [] else here))), none, none, none, none, none, none, none, none] := by
    have eA : (mTest (mOp fEq (mOp fIdx (mVar 2) (mC (.int 0))) (mC (.str "/")))) [some (.dat (.dict (rs.map rowP))), some (.dat (tD here)), some (.dat (pathD abs ps)), some (.dat (.str mode)), some (.dat (.str (misS ms))), none, none, none, none, none, none, none, none, none] = .ok abs :=
      tstOk (opOk (opOk (a := pathD abs ps) (c := .str (startS abs)) vOk rfl rfl) rfl (eq_start abs))
    cases abs with
    | true => exact setOk ((ifOk eA).trans ((if_pos rfl).trans (tupOk rfl)))
    | false => exact setOk ((ifOk eA).trans ((if_neg (by decide)).trans vOk))
  unfold base
  generalize hp0 : (if abs = true then [] else here) = p0 at hA ⊢
  have hd : IsDir rs p0 := by rw [← hp0]; cases abs; exact hh; exact .inl rfl
  have hB : (mPar [6, 7] (mmOwn (mCallB fList (mCons (mOp fIdx (mVar 2) (mC (.int 1))) mNil)) (mmOwn (mLst mNil) mmNil))) [some (.dat (.dict (rs.map rowP))), some (.dat (tD here)), some (.dat (pathD abs ps)), some (.dat (.str mode)), some (.dat (.str (misS ms))), some (.dat (tD p0)), none, none, none, none, none, none, none, none] =
      .next [some (.dat (.dict (rs.map rowP))), some (.dat (tD here)), some (.dat (pathD abs ps)), some (.dat (.str mode)), some (.dat (.str (misS ms))), some (.dat (tD p0)), some (.own (.list (ps.map PyData.str))), some (.own (.list [])), none, none, none, none, none, none] := by
    have eC : (mCallB fList (mCons (mOp fIdx (mVar 2) (mC (.int 1))) mNil)) [some (.dat (.dict (rs.map rowP))), some (.dat (tD here)), some (.dat (pathD abs ps)), some (.dat (.str mode)), some (.dat (.str (misS ms))), some (.dat (tD p0)), none, none, none, none, none, none, none, none] = .ok (.list (ps.map PyData.str)) :=
      callBOk (consOk (opOk (a := pathD abs ps) (c := tD ps) vOk rfl rfl) rfl) rfl
    have eL : (mLst mNil) [some (.dat (.dict (rs.map rowP))), some (.dat (tD here)), some (.dat (pathD abs ps)), some (.dat (.str mode)), some (.dat (.str (misS ms))), some (.dat (tD p0)), none, none, none, none, none, none, none, none] = .ok (.list []) := lstOk rfl
    unfold mPar mmOwn mmNil
    rw [eC]
    simp only [Res.bind]
    rw [eL]
    rfl
  have hC : (mPar [8, 9] (mmOwn (mC (.dict [])) (mmOwn (mC (.dict [])) mmNil))) [some (.dat (.dict (rs.map rowP))), some (.dat (tD here)), some (.dat (pathD abs ps)), some (.dat (.str mode)), some (.dat (.str (misS ms))), some (.dat (tD p0)), some (.own (.list (ps.map PyData.str))), some (.own (.list [])), none, none, none, none, none, none] =
      .next (wS ms rs (tD here) (pathD abs ps) mode p0 (tkD ps []) [] (acts []) [] none none none none) := rfl
  have w : WI (lkO ms rs) (decide (mode = "keep")) Wd p0 ps p0 ps [] [] [] := WI.start (dirL_is.mpr hd) hps hl
  obtain ⟨e, tr, e1, e2⟩ := vloop g hr (cap_len rs) (h := tD here) (pt := pathD abs ps) hmode fuel p0 ps [] [] [] none none none none w (fun a h => by simp at h) (by refine Nat.lt_of_lt_of_le (m := 5000) ?_ (by decide); simp [rests]; omega) (by show _ ≤ 50000; simp [fuel])
  refine ⟨e, tr, ?_, e2⟩
  rw [mSeq_next hA, mSeq_next hB, mSeq_next hC]
  exact congrArg runD e1
theorem result_ok {rs : Rows} (g : Good rs) (hr : rs.length ≤ 60) {here : List Str} (hh : IsDir rs here) {abs : Bool} {ps : List Str} (hps : ∀ x ∈ ps, Wd x) (hl : ps.length ≤ 12) {mode : Str} (hmode : PyData.strOk mode = true) :
    ∃ e, f_result_of [.tuple (rs.map rowD), tD here, pathD abs ps, .str mode] = .ok (endD e) ∧ Lim (lkO false rs) (decide (mode = "keep")) (base abs here) ps e ∧ RestB e := by
  obtain ⟨e0, tr, e, _, e2, e3, _⟩ := walk_steps_ok false g hr hh (abs := abs) hps hl hmode
  refine ⟨e0, ?_, e2, e3⟩
  unfold f_result_of m_result_of
  show runD (mSeq _ _ [some (.dat (.tuple (rs.map rowD))), some (.dat (tD here)), some (.dat (pathD abs ps)), some (.dat (.str mode)), none, none]) = _
  have hA : (mAsg (.tp [4, 5]) (mCall 5 f_walk_steps (mCons (mCallB fDict (mCons (mVar 0) mNil)) (mCons (mVar 1) (mCons (mVar 2) (mCons (mVar 3) (mCons (mC (.str "unknown")) mNil))))))) [some (.dat (.tuple (rs.map rowD))), some (.dat (tD here)), some (.dat (pathD abs ps)), some (.dat (.str mode)), none, none] =
      .next [some (.dat (.tuple (rs.map rowD))), some (.dat (tD here)), some (.dat (pathD abs ps)), some (.dat (.str mode)), some (.dat (endD e0)), some (.dat (.list (tr.map tD)))] := by
    unfold mAsg
    rw [callOk (n := 5) (consOk (callBOk (consOk vOk rfl) (dict_rows g (by omega))) (consOk vOk (consOk vOk (consOk vOk (consOk rfl rfl))))) e, Res.st_ok]
    rfl
  rw [mSeq_next hA, retOk vOk]
  rfl
/-! the checks -/
theorem size_len (x : Str) : x.length = x.cps.size := rfl
theorem sign_in (c : Nat) : fIn (.str ⟨#[c]⟩) (.str letS) = .ok (.bool (decide (c ∈ letS.cps.toList))) := rfl
/-- is_name of a text -/
theorem isName_str {x : Str} (hl : x.length ≤ 100000) : f_is_name [.str x] = .ok (.bool (nameT x)) := by
  unfold f_is_name m_is_name
  show runD (mRet _ [some (.dat (.str x)), none]) = _
  have h2 : (mChain fLe fLe (mC (.int 1)) (mCallB fLen (mCons (mVar 0) mNil)) (mC (.int 3))) [some (.dat (.str x)), none] = .ok (.bool (decide (1 ≤ x.length) && decide (x.length ≤ 3))) := by
    have e : (mCallB fLen (mCons (mVar 0) mNil)) [some (.dat (.str x)), none] = .ok (.int (x.length : Nat)) := by
      refine callBOk (ds := [.str x]) (consOk vOk rfl) ?_
      show (if _ then _ else _) = _
      exact if_pos (sz_big hl)
    unfold mChain
    rw [e]
    simp only [mC, Res.bind, fLe, Res.plain, asB]
    have e1 : decide ((1 : Int) ≤ (x.length : Nat)) = decide (1 ≤ x.length) := decide_eq_decide.mpr (by omega)
    have e2 : decide (((x.length : Nat) : Int) ≤ 3) = decide (x.length ≤ 3) := decide_eq_decide.mpr (by omega)
    rw [e1, e2]
    cases decide (1 ≤ x.length) <;> rfl
  have h3 : (mCallB fAll (mCons (mLc (mStrI (mVar 0)) (.nm 1) [1] mYes (mOp fIn (mVar 1) (mC (.str "abcdefghijklmnopqrstuvwxyz")))) mNil)) [some (.dat (.str x)), none] = .ok (.bool (x.cps.toList.all fun c => decide (c ∈ letS.cps.toList))) := by
    refine callBOk (consOk (lc_of (ds := De.signs x) (by
      show (if _ then _ else _) = _
      exact if_pos (by rw [← size_len]; exact sz_big hl)) (ys := x.cps.toList.map fun c => PyData.bool (decide (c ∈ letS.cps.toList))) ?_) rfl) ?_
    · unfold De.signs
      have := compGo_fm (step := mStep (.nm 1) [1] mYes (mOp fIn (mVar 1) (mC (.str "abcdefghijklmnopqrstuvwxyz"))) [some (.dat (.str x)), none]) (f := fun c : Nat => PyData.str ⟨#[c]⟩) (p := fun _ => true) (g := fun c => PyData.bool (decide (c ∈ letS.cps.toList))) (rs := x.cps.toList) fun c hc => step_some (h1 := rfl) (opOk vOk rfl (sign_in c))
      rw [List.filter_eq_self.mpr (fun _ _ => rfl)] at this
      exact this
    · have h : asBools (x.cps.toList.map fun c => PyData.bool (decide (c ∈ letS.cps.toList))) = some (x.cps.toList.map fun c => decide (c ∈ letS.cps.toList)) := by
        induction x.cps.toList with
        | nil => rfl
        | cons d ds ih => rw [List.map_cons, asBools, ih]; rfl
      show (match asBools _ with | some bs => Res.ok (PyData.bool (bs.all _root_.id)) | none => .stuck) = _
      rw [h]
      simp [List.all_map]
  have h1 : (mIsi "str" (mVar 0)) [some (.dat (.str x)), none] = .ok (.bool true) := isiOk vOk (isi_str x)
  rw [retOk (mand_t h1 ?_)]
  · rfl
  · unfold mAnd
    rw [h2]
    simp only [Res.bind, asB]
    unfold nameT
    cases decide (1 ≤ x.length) && decide (x.length ≤ 3) with
    | false => rfl
    | true => exact h3
theorem isName_ok {x : Str} (h : Nm x) : f_is_name [.str x] = .ok (.bool true) := by
  have hl : x.length ≤ 3 := by
    have := h.1
    unfold nameT at this
    simp at this
    exact this.1.2
  rw [isName_str (by omega), h.1]
theorem isPart_ok {x : Str} (h : Wd x) : f_is_part [.str x] = .ok (.bool true) := by
  rcases h with rfl | rfl | h
  · exact isT_ok (by decide +kernel)
  · exact isT_ok (by decide +kernel)
  · unfold f_is_part m_is_part
    show runD (mRet _ [some (.dat (.str x))]) = _
    rw [retOk (mor_t (callOk (consOk vOk rfl) (isName_ok h)))]
    rfl
theorem isi_tt (ds : List D) : fIsi "tuple" (.tuple ds) = .ok (.bool true) := rfl
theorem isAddress_ok {a : List Str} (h : ∀ x ∈ a, Nm x) (hl : a.length ≤ 30) : f_is_address [tD a] = .ok (.bool true) := by
  unfold f_is_address m_is_address
  show runD (mRet _ [some (.dat (tD a)), none]) = _
  have h2 : (mOp fLe (mCallB fLen (mCons (mVar 0) mNil)) (mC (.int 30))) [some (.dat (tD a)), none] = .ok (.bool true) :=
    opOk (callBOk (consOk vOk rfl) rfl) rfl (by
      show Res.ok (PyData.bool (decide ((((a.map PyData.str).length : Nat) : Int) ≤ 30))) = _
      rw [List.length_map, decide_eq_true (by omega)])
  rw [retOk (mand_t (isiOk vOk (isi_tt _)) (mand_t h2 (strs_all (xs := a) (seqT_ok vOk (by simp; omega)) fun x hx => step_some (h1 := rfl) (callOk (consOk vOk rfl) (isName_ok (h x hx))))))]
  rfl
theorem eq_int2 (a b : Int) : fNe (.int a) (.int b) = .ok (.bool (!decide (a = b))) := by
  show Res.ok (PyData.bool (!PyData.eqv (.int a) (.int b))) = _
  by_cases h : a = b <;> simp [PyData.eqv, h]
theorem isPath_ok {abs : Bool} {ps : List Str} (h : ∀ x ∈ ps, Wd x) (hl : ps.length ≤ 12) (hne : abs = false → ps ≠ []) : f_is_path [pathD abs ps] = .ok (.bool true) := by
  have snd : Snd ps := fun x hx => (h x hx).snd
  unfold f_is_path m_is_path
  show runD (mSeq _ _ [some (.dat (pathD abs ps)), none, none, none]) = _
  have t1 : (mOrT (mNotT (mTest (mIsi "tuple" (mVar 0)))) (mOrT (mTest (mOp fNe (mCallB fLen (mCons (mVar 0) mNil)) (mC (.int 2)))) (mNotT (mTest (mIsi "str" (mOp fIdx (mVar 0) (mC (.int 0)))))))) [some (.dat (pathD abs ps)), none, none, none] = .ok false :=
    orT_ok (b := false) (notT_ok (b := true) (tstOk (isiOk vOk (isi_tt _)))) (orT_ok (b := false) (tstOk (opOk (callBOk (d := .int 2) (consOk vOk rfl) rfl) rfl (eq_int2 2 2))) (notT_ok (b := true) (tstOk (isiOk (opOk (a := pathD abs ps) (c := .str (startS abs)) vOk rfl rfl) (isi_str _)))))
  rw [mSeq_next (skipIf t1)]
  have t2 : mAsg (.tp [1, 2]) (mVar 0) [some (.dat (pathD abs ps)), none, none, none] = .next [some (.dat (pathD abs ps)), some (.dat (.str (startS abs))), some (.dat (tD ps)), none] := rfl
  rw [mSeq_next t2]
  have t3 : (mTest (mOp fNotIn (mVar 1) (mTup (mCons (mC (.str "/")) (mCons (mC (.str "")) mNil))))) [some (.dat (pathD abs ps)), some (.dat (.str (startS abs))), some (.dat (tD ps)), none] = .ok false := by
    refine tstOk (opOk vOk (tupOk (consOk rfl (consOk rfl rfl))) ?_)
    cases abs <;> exact isF_ok (by decide +kernel)
  have t4 : (mOrT (mTest (mOp fNotIn (mVar 1) (mTup (mCons (mC (.str "/")) (mCons (mC (.str "")) mNil))))) (mOrT (mNotT (mTest (mIsi "tuple" (mVar 2)))) (mNotT (mTest (mCallB fAll (mCons (mLc (mSeqI (mVar 2)) (.nm 3) [3] mYes (mCall 1 f_is_part (mCons (mVar 3) mNil))) mNil)))))) [some (.dat (pathD abs ps)), some (.dat (.str (startS abs))), some (.dat (tD ps)), none] = .ok false :=
    orT_ok (b := false) t3 (orT_ok (b := false) (notT_ok (b := true) (tstOk (isiOk vOk (isi_tt _)))) (notT_ok (b := true) (tstOk (strs_all (xs := ps) (seqT_ok vOk (by simp; omega)) fun x hx => step_some (h1 := rfl) (callOk (consOk vOk rfl) (isPart_ok (h x hx)))))))
  rw [mSeq_next (skipIf t4)]
  have t5 : (mOp fLe (mCallB fLen (mCons (mVar 2) mNil)) (mC (.int 12))) [some (.dat (pathD abs ps)), some (.dat (.str (startS abs))), some (.dat (tD ps)), none] = .ok (.bool true) :=
    opOk (callBOk (consOk vOk rfl) rfl) rfl (by
      show Res.ok (PyData.bool (decide ((((ps.map PyData.str).length : Nat) : Int) ≤ 12))) = _
      rw [List.length_map, decide_eq_true (by omega)])
  have t6 : (mOp fEq (mVar 1) (mC (.str "/"))) [some (.dat (pathD abs ps)), some (.dat (.str (startS abs))), some (.dat (tD ps)), none] = .ok (.bool abs) := opOk vOk rfl (eq_start abs)
  have t7 : (mOp fNe (mVar 2) (mTup mNil)) [some (.dat (pathD abs ps)), some (.dat (.str (startS abs))), some (.dat (tD ps)), none] = .ok (.bool (!decide (ps = []))) := opOk vOk (tupOk rfl) (ne_nil snd)
  cases abs with
  | true => rw [retOk (mand_t t5 (mor_t t6))]; rfl
  | false =>
    rw [retOk (mand_t t5 (mor_f t6 t7)), decide_eq_false (hne rfl)]
    rfl
theorem isWhat_ok {rs : Rows} (g : Good rs) {r : List Str × Wh} (hr : r ∈ rs) : f_is_what [wD r.2] = .ok (.bool true) := by
  cases hw : r.2 with
  | dir => exact isT_ok (by decide +kernel)
  | file => exact isT_ok (by decide +kernel)
  | absent => exact isT_ok (by decide +kernel)
  | link abs ps =>
    obtain ⟨h1, h2, h3⟩ := g.lnk r hr abs ps hw
    unfold f_is_what m_is_what
    show runD (mRet _ [some (.dat (pathD abs ps))]) = _
    rw [retOk (mor_t (callOk (consOk vOk rfl) (isPath_ok h3 h1 h2)))]
    rfl
theorem isRow_ok {rs : Rows} (g : Good rs) {r : List Str × Wh} (hr : r ∈ rs) : f_is_row [rowD r] = .ok (.bool true) := by
  have hA : f_is_address [tD r.1] = .ok (.bool true) := isAddress_ok (g.nm r hr) (g.len r hr)
  have i0 : (mOp fIdx (mVar 0) (mC (.int 0))) [some (.dat (rowD r))] = .ok (tD r.1) := opOk (a := rowD r) (c := tD r.1) vOk rfl rfl
  have i1 : (mOp fIdx (mVar 0) (mC (.int 1))) [some (.dat (rowD r))] = .ok (wD r.2) := opOk (a := rowD r) (c := wD r.2) vOk rfl rfl
  unfold f_is_row m_is_row
  show runD (mSeq _ _ [some (.dat (rowD r))]) = _
  have t1 : (mOrT (mNotT (mTest (mIsi "tuple" (mVar 0)))) (mOrT (mTest (mOp fNe (mCallB fLen (mCons (mVar 0) mNil)) (mC (.int 2)))) (mNotT (mTest (mCall 1 f_is_address (mCons (mOp fIdx (mVar 0) (mC (.int 0))) mNil)))))) [some (.dat (rowD r))] = .ok false :=
    orT_ok (b := false) (notT_ok (b := true) (tstOk (isiOk vOk (isi_tt _)))) (orT_ok (b := false) (tstOk (opOk (callBOk (d := .int 2) (consOk vOk rfl) rfl) rfl (eq_int2 2 2))) (notT_ok (b := true) (tstOk (callOk (consOk i0 rfl) hA))))
  rw [mSeq_next (skipIf t1)]
  have t2 : (mOp fNe (mOp fIdx (mVar 0) (mC (.int 0))) (mTup mNil)) [some (.dat (rowD r))] = .ok (.bool true) := by
    have := opOk i0 (tupOk (m := mNil) (ds := []) rfl) (ne_nil (g.sndA hr))
    rw [decide_eq_false (g.ne r hr)] at this
    exact this
  have t3 : r.2 = .dir → (mOp fLt (mCallB fLen (mCons (mOp fIdx (mVar 0) (mC (.int 0))) mNil)) (mC (.int 30))) [some (.dat (rowD r))] = .ok (.bool true) :=
    fun hd => opOk (callBOk (consOk i0 rfl) rfl) rfl (by
      show Res.ok (PyData.bool (decide ((((r.1.map PyData.str).length : Nat) : Int) < 30))) = _
      have := g.dlen r hr hd
      rw [List.length_map, decide_eq_true (by omega)])
  have t4 : (mOp fNe (mOp fIdx (mVar 0) (mC (.int 1))) (mC (.str "dir"))) [some (.dat (rowD r))] = .ok (.bool (!isW r.2 "dir")) := opOk i1 rfl (fNe_w (g.sndW hr) (by decide +kernel))
  have t5 : (mOr (mOp fNe (mOp fIdx (mVar 0) (mC (.int 1))) (mC (.str "dir"))) (mOp fLt (mCallB fLen (mCons (mOp fIdx (mVar 0) (mC (.int 0))) mNil)) (mC (.int 30)))) [some (.dat (rowD r))] = .ok (.bool true) := by
    cases hb : isW r.2 "dir" with
    | true => rw [hb] at t4; exact mor_f t4 (t3 (isW_dir.mp hb))
    | false => rw [hb] at t4; exact mor_t t4
  rw [retOk (mand_t (callOk (consOk i1 rfl) (isWhat_ok g hr)) (mand_t t2 t5))]
  rfl
theorem zip_mem {rs : Rows} (ho : Ord rs) : ∀ d ∈ zipD (rs.map rowD) (rs.map rowD).tail, ∃ r s, r ∈ rs ∧ s ∈ rs ∧ leD (rowD r) (rowD s) = true ∧ (∃ i j : Nat, i < j ∧ rs[i]? = some r ∧ rs[j]? = some s) ∧ d = lseD [rowD r, rowD s] := by
  intro d hd
  obtain ⟨i, hi⟩ := List.getElem?_of_mem hd
  obtain ⟨x, y, h1, h2, rfl⟩ := zipD_at hi
  rw [List.getElem?_map] at h1
  rw [List.getElem?_tail, List.getElem?_map] at h2
  obtain ⟨r, hr, rfl⟩ := Option.map_eq_some_iff.mp h1
  obtain ⟨s, hs, rfl⟩ := Option.map_eq_some_iff.mp h2
  refine ⟨r, s, List.mem_of_getElem? hr, List.mem_of_getElem? hs, ?_, ⟨i, i + 1, by omega, hr, hs⟩, rfl⟩
  obtain ⟨h3, h4⟩ := List.getElem?_eq_some_iff.mp hr
  obtain ⟨h5, h6⟩ := List.getElem?_eq_some_iff.mp hs
  have := List.pairwise_iff_getElem.mp ho i (i + 1) h3 h5 (by omega)
  rw [h4, h6] at this
  exact this
theorem isChart_ok {rs : Rows} (g : Good rs) (ho : Ord rs) (hl : rs.length ≤ 60) : f_is_chart [.tuple (rs.map rowD)] = .ok (.bool true) := by
  unfold f_is_chart m_is_chart
  show runD (mSeq _ _ [some (.dat (.tuple (rs.map rowD))), none, none, none, none]) = _
  have t1 : (mOrT (mNotT (mTest (mIsi "tuple" (mVar 0)))) (mOrT (mTest (mOp fGt (mCallB fLen (mCons (mVar 0) mNil)) (mC (.int 60)))) (mNotT (mTest (mCallB fAll (mCons (mLc (mSeqI (mVar 0)) (.nm 2) [2] mYes (mCall 1 f_is_row (mCons (mVar 2) mNil))) mNil)))))) [some (.dat (.tuple (rs.map rowD))), none, none, none, none] = .ok false := by
    refine orT_ok (b := false) (notT_ok (b := true) (tstOk (isiOk vOk (isi_tt _)))) (orT_ok (b := false) (tstOk (opOk (callBOk (consOk vOk rfl) rfl) rfl ?_)) (notT_ok (b := true) (tstOk (all_ok (seqT_ok vOk (by simp; omega)) fun d hd => ?_))))
    · show Res.ok (PyData.bool (decide ((60 : Int) < (((rs.map rowD).length : Nat) : Int)))) = _
      rw [List.length_map, decide_eq_false (by omega)]
    · obtain ⟨r, hr, rfl⟩ := List.mem_map.mp hd
      exact step_some (h1 := rfl) (callOk (consOk vOk rfl) (isRow_ok g hr))
  rw [mSeq_next (skipIf t1)]
  have t2 : (mNotT (mTest (mCallB fAll (mCons (mLc (fun ρ => ((mCons (mVar 0) (mCons (mSl fSl (mVar 0) (mPart (mC (.int 1))) mNo) mNil)) ρ).bind asZip) (.tp [3, 4]) [3, 4] mYes (mOp fLt (mOp fIdx (mVar 3) (mC (.int 0))) (mOp fIdx (mVar 4) (mC (.int 0))))) mNil)))) [some (.dat (.tuple (rs.map rowD))), none, none, none, none] = .ok false := by
    have e1 : (mSl fSl (mVar 0) (mPart (mC (.int 1))) mNo) [some (.dat (.tuple (rs.map rowD))), none, none, none, none] = .ok (.tuple (rs.map rowD).tail) := by
      show (fSl (.tuple (rs.map rowD)) (some 1) none).plain = _
      show (Res.ok (PyData.tuple (De.cutD (rs.map rowD) (some 1) none))).plain = _
      rw [cut1]
      rfl
    have e2 : (mCons (mVar 0) (mCons (mSl fSl (mVar 0) (mPart (mC (.int 1))) mNo) mNil)) [some (.dat (.tuple (rs.map rowD))), none, none, none, none] = .ok [.tuple (rs.map rowD), .tuple (rs.map rowD).tail] := consOk vOk (consOk e1 rfl)
    refine notT_ok (b := true) (tstOk (all_ok (ds := zipD (rs.map rowD) (rs.map rowD).tail) (by
      show Res.bind _ _ = _
      rw [e2]
      exact if_pos (by rw [List.length_map]; exact sz_big (by omega))) fun d hd => ?_))
    obtain ⟨r, s, hr, hs, hle, ⟨i, j, hij, hri, hsj⟩, rfl⟩ := zip_mem ho d hd
    have ne : r.1 ≠ s.1 := fun he => by
      have h1 : (rs.map (·.1))[i]? = some r.1 := by rw [List.getElem?_map, hri]; rfl
      have h2 : (rs.map (·.1))[j]? = some s.1 := by rw [List.getElem?_map, hsj]; rfl
      obtain ⟨h3, h4⟩ := List.getElem?_eq_some_iff.mp h1
      obtain ⟨h5, h6⟩ := List.getElem?_eq_some_iff.mp h2
      have := List.pairwise_iff_getElem.mp g.nd i j h3 h5 hij
      rw [h4, h6] at this
      exact this he
    have hlt : fLt (tD r.1) (tD s.1) = .ok (.bool true) := by
      show (if (SeqAt.shaped (tD r.1) && SeqAt.shaped (tD s.1) && PySem.W.alikeAll (r.1.map PyData.str) (s.1.map PyData.str)) = true then Res.ok (PyData.bool (PySem.W.dataLt (tD r.1) (tD s.1))) else .stuck) = _
      rw [shaped_tD (g.sndA hr), shaped_tD (g.sndA hs), alike_strs, lt_row ne hle]
      rfl
    exact step_some (ρ1 := [some (.dat (.tuple (rs.map rowD))), none, none, some (.dat (rowD r)), some (.dat (rowD s))]) (h1 := rfl) (opOk (opOk (a := rowD r) (c := tD r.1) vOk rfl rfl) (opOk (a := rowD s) (c := tD s.1) vOk rfl rfl) hlt)
  rw [mSeq_next (skipIf t2)]
  rw [mSeq_next (setOk (i := 1) (callBOk (consOk vOk rfl) (dict_rows g (by omega))))]
  have t3 : (mCallB fAll (mCons (mLc (mSeqI (mVar 0)) (.nm 2) [2] mYes (mOr (mOp fEq (mCallB fLen (mCons (mOp fIdx (mVar 2) (mC (.int 0))) mNil)) (mC (.int 1))) (mOp fEq (mGet1 (mVar 1) (mSl fSl (mOp fIdx (mVar 2) (mC (.int 0))) mNo (mPart (mUn fNeg (mC (.int 1)))))) (mC (.str "dir"))))) mNil)) [some (.dat (.tuple (rs.map rowD))), some (.dat (.dict (rs.map rowP))), none, none, none] = .ok (.bool true) := by
    refine all_ok (seqT_ok vOk (by simp; omega)) fun d hd => ?_
    obtain ⟨r, hr, rfl⟩ := List.mem_map.mp hd
    have i0 : (mOp fIdx (mVar 2) (mC (.int 0))) [some (.dat (.tuple (rs.map rowD))), some (.dat (.dict (rs.map rowP))), some (.dat (rowD r)), none, none] = .ok (tD r.1) := opOk (a := rowD r) (c := tD r.1) vOk rfl rfl
    refine step_some (ρ1 := [some (.dat (.tuple (rs.map rowD))), some (.dat (.dict (rs.map rowP))), some (.dat (rowD r)), none, none]) (h1 := rfl) ?_
    have l1 : (mOp fEq (mCallB fLen (mCons (mOp fIdx (mVar 2) (mC (.int 0))) mNil)) (mC (.int 1))) [some (.dat (.tuple (rs.map rowD))), some (.dat (.dict (rs.map rowP))), some (.dat (rowD r)), none, none] = .ok (.bool (decide ((((r.1.map PyData.str).length : Nat) : Int) = 1))) :=
      opOk (callBOk (consOk i0 rfl) rfl) rfl (eq_int _ _)
    by_cases h1 : r.1.dropLast = []
    · have : r.1.length = 1 := by
        have h2 := congrArg List.length h1
        have h3 := List.length_pos_iff.mpr (g.ne r hr)
        simp at h2
        omega
      rw [List.length_map, this] at l1
      exact mor_t l1
    · have h2 : (r.1.dropLast, Wh.dir) ∈ rs := (g.par r hr).resolve_left h1
      have h3 : r.1.length ≠ 1 := fun h => h1 (by
        have : r.1.dropLast.length = 0 := by simp [h]
        exact List.length_eq_zero_iff.mp this)
      rw [List.length_map, decide_eq_false (by omega)] at l1
      refine mor_f l1 (opOk ?_ rfl (fEq_w (w := .dir) trivial (z := "dir") (by decide +kernel)))
      have e3 := get_at (rs := rs) (d := .none) h1 fun x hx => g.nm _ h2 x hx
      rw [at_of g.nd h2] at e3
      unfold mGet1
      rw [vOk (i := 1) (d := .dict (rs.map rowP))]
      simp only [Res.bind]
      rw [if_pos (allT_rows rs), slInit i0]
      simp only
      rw [e3]
      rfl
  have t4 := retOk t3
  show runD (mRet _ _) = _
  rw [show ([some (.dat (.tuple (rs.map rowD))), none, none, none, none] : Rho).set 1 (some (.dat (.dict (rs.map rowP)))) = [some (.dat (.tuple (rs.map rowD))), some (.dat (.dict (rs.map rowP))), none, none, none] from rfl, t4]
  rfl
theorem isDirectory_ok {rs : Rows} (g : Good rs) (hl : rs.length ≤ 60) {p : List Str} (hp : IsDir rs p) : f_is_directory [.tuple (rs.map rowD), tD p] = .ok (.bool true) := by
  unfold f_is_directory m_is_directory
  show runD (mRet _ [some (.dat (.tuple (rs.map rowD))), some (.dat (tD p))]) = _
  rw [retOk (mand_t (callOk (consOk vOk rfl) (isAddress_ok (hp.names g) (by have := hp.len g; omega))) (opOk (callOk (consOk (callBOk (consOk vOk rfl) (dict_rows g (by omega))) (consOk vOk rfl)) (known_dir g hp)) rfl (fEq_w (w := .dir) trivial (z := "dir") (by decide +kernel))))]
  rfl
theorem mexpr_ok {m : M} {ρ : Rho} {d : D} (h : m ρ = .ok d) : mExpr m ρ = .next ρ := by unfold mExpr; rw [h]; rfl
theorem stuckIf {t : MT} {m1 : MS} {ρ : Rho} (h : t ρ = .ok true) : mIfS (mNotT t) m1 mSkip ρ = .next ρ := skipIf (notT_ok h)
theorem walk_ok {rs : Rows} (g : Good rs) (ho : Ord rs) (hr : rs.length ≤ 60) {here : List Str} (hh : IsDir rs here) {abs : Bool} {ps : List Str} (hps : ∀ x ∈ ps, Wd x) (hl : ps.length ≤ 12) (hne : abs = false → ps ≠ []) {mode : Str} (hmode : mode = "follow" ∨ mode = "keep") :
    ∃ e, f_walk [.tuple (rs.map rowD), tD here, pathD abs ps, .str mode] = .ok (endD e) ∧ Lim (lkO false rs) (decide (mode = "keep")) (base abs here) ps e ∧ RestB e := by
  have hm : PyData.strOk mode = true := by rcases hmode with rfl | rfl <;> decide +kernel
  have c1 : f_check_chart [.tuple (rs.map rowD)] = .ok .none := by
    unfold f_check_chart m_check_chart
    show runD (mIfS _ _ _ [some (.dat (.tuple (rs.map rowD)))]) = _
    rw [stuckIf (tstOk (callOk (consOk vOk rfl) (isChart_ok g ho hr)))]
    rfl
  have c2 : f_check_directory [.tuple (rs.map rowD), tD here] = .ok .none := by
    unfold f_check_directory m_check_directory
    show runD (mIfS _ _ _ [some (.dat (.tuple (rs.map rowD))), some (.dat (tD here))]) = _
    rw [stuckIf (tstOk (callOk (consOk vOk (consOk vOk rfl)) (isDirectory_ok g hr hh)))]
    rfl
  have c3 : f_check_path [pathD abs ps] = .ok .none := by
    unfold f_check_path m_check_path
    show runD (mIfS _ _ _ [some (.dat (pathD abs ps))]) = _
    rw [stuckIf (tstOk (callOk (consOk vOk rfl) (isPath_ok hps (by omega) hne)))]
    rfl
  have c4 : f_check_mode [.str mode] = .ok .none := by
    unfold f_check_mode m_check_mode
    show runD (mIfS _ _ _ [some (.dat (.str mode))]) = _
    have t : (mOrT (mNotT (mTest (mIsi "str" (mVar 0)))) (mTest (mOp fNotIn (mVar 0) (mTup (mCons (mC (.str "follow")) (mCons (mC (.str "keep")) mNil)))))) [some (.dat (.str mode))] = .ok false := by
      refine orT_ok (b := false) (notT_ok (b := true) (tstOk (isiOk vOk (isi_str _)))) (tstOk (opOk vOk (tupOk (consOk rfl (consOk rfl rfl))) ?_))
      rcases hmode with rfl | rfl <;> exact isF_ok (by decide +kernel)
    rw [skipIf t]
    rfl
  have c5 : f_check_walk [.tuple (rs.map rowD), tD here, pathD abs ps, .str mode] = .ok .none := by
    unfold f_check_walk m_check_walk
    show runD (mSeq _ _ [some (.dat (.tuple (rs.map rowD))), some (.dat (tD here)), some (.dat (pathD abs ps)), some (.dat (.str mode))]) = _
    rw [mSeq_next (mexpr_ok (callOk (consOk vOk rfl) c1)), mSeq_next (mexpr_ok (callOk (consOk vOk (consOk vOk rfl)) c2)), mSeq_next (mexpr_ok (callOk (consOk vOk rfl) c3)), mexpr_ok (callOk (consOk vOk rfl) c4)]
    rfl
  obtain ⟨e, e1, e2, e3⟩ := result_ok g hr hh (abs := abs) hps hl hm
  refine ⟨e, ?_, e2, e3⟩
  unfold f_walk m_walk
  show runD (mSeq _ _ [some (.dat (.tuple (rs.map rowD))), some (.dat (tD here)), some (.dat (pathD abs ps)), some (.dat (.str mode))]) = _
  rw [mSeq_next (mexpr_ok (callOk (consOk vOk (consOk vOk (consOk vOk (consOk vOk rfl)))) c5)), retOk (callOk (consOk vOk (consOk vOk (consOk vOk (consOk vOk rfl)))) e1)]
  rfl
end L67
end

section
set_option Elab.async false
set_option linter.all false
set_option maxRecDepth 100000
/-! Hd0: drawn numbers, drawn paths. -/
namespace L67
open PySem PySem.Spec PyProof.Rows L2 De Nv Ma
theorem log2_small {j : Int} (h : j.natAbs < 4611686018427387904) : j.natAbs.log2 < 9000 := by
  by_cases e : j.natAbs = 0
  · rw [e]; decide
  · exact Nat.lt_of_lt_of_le ((Nat.log2_lt (k := 62) e).mpr h) (by decide)
def dTail : MS := (mSeq (mSet 3 (mOp fMod (mOp fAdd (mOp fMul (mOp fMod (mVar 3) (mC (.int 2147483563))) (mC (.int 69069))) (mOp fMul (mC (.int 104723)) (mOp fAdd (mVar 1) (mC (.int 1))))) (mC (.int 2147483563)))) (mSeq (mSet 3 (mOp fMod (mOp fAdd (mOp fMul (mVar 3) (mVar 3)) (mOp fDiv (mVar 3) (mC (.int 3)))) (mC (.int 2147483399)))) (mRet (mOp fMod (mOp fDiv (mOp fMod (mOp fAdd (mOp fMul (mVar 3) (mVar 3)) (mOp fDiv (mVar 3) (mC (.int 7)))) (mC (.int 2147483647))) (mC (.int 11))) (mVar 2)))))
def dLoop : MS := (whileN (mAndT (mTest (mOp fGt (mVar 5) (mC (.int 0)))) (mTest (mOp fGt (mVar 4) (mC (.int 0)))))
  (mSeq (mSet 5 (mOp fDiv (mVar 5) (mC (.int 1000000)))) (mSet 4 (mOp fSub (mVar 4) (mC (.int 1))))) fuel)
def dBig : MS := (mIfS (mAndT (mTest (mOp fGe (mVar 3) (mOp fPow (mC (.int 10)) (mC (.int 18))))) (mTest (mOp fLt (mVar 4) (mC (.int 60)))))
  (mSeq (mSet 5 (mOp fDiv (mVar 3) (mOp fPow (mC (.int 10)) (mC (.int 18))))) (mSeq dLoop (mIfS (mTest (mOp fGt (mVar 5) (mC (.int 0))))
  (mRet (mOp fMod (mOp fMod (mVar 5) (mC (.int 1000000))) (mVar 2)))
  mSkip)))
  mSkip)
def dHead : MS := (mIfS (mTest (mOp fNe (mVar 0) (mLst mNil)))
  (mSeq (mSet 3 (mOp fIdx (mVar 0) (mOp fMod (mVar 1) (mCallB fLen (mCons (mVar 0) mNil))))) (mSeq (mSet 4 (mOp fDiv (mVar 1) (mCallB fLen (mCons (mVar 0) mNil)))) (mSeq dBig (mSet 3 (mOp fAdd (mVar 3) (mOp fMul (mC (.int 6553)) (mOp fDiv (mVar 1) (mCallB fLen (mCons (mVar 0) mNil)))))))))
  mSkip)
theorem drawn_eq : m__law_drawn = mSeq (mSet 3 (mOp fMul (mC (.int 7)) (mVar 1))) (mSeq dHead dTail) := rfl
abbrev dS (ns : List Int) (k many c : Int) (s4 s5 : Option Sl) : Rho := [some (.dat (scrD ns)), some (.dat (.int k)), some (.dat (.int many)), some (.dat (.int c)), s4, s5]
theorem tail_ok (ns : List Int) (k c : Int) {many : Int} (hm : 0 < many) (s4 s5 : Option Sl) : ∃ r, dTail (dS ns k many c s4 s5) = .ret (.int r) ∧ 0 ≤ r ∧ r < many := by
  have bd : ∀ (a m : Int), 0 < m → 0 ≤ a % m ∧ a % m < m := fun a m h => ⟨Int.emod_nonneg _ (by omega), Int.emod_lt_of_pos _ h⟩
  obtain ⟨u1, u2⟩ := bd c 2147483563 (by decide)
  generalize hd : (c % 2147483563 * 69069 + 104723 * (k + 1)) % 2147483563 = d
  have hd0 : 0 ≤ d ∧ d < 2147483563 := by rw [← hd]; exact bd _ _ (by decide)
  generalize he : (d * d + d / 3) % 2147483399 = e
  have he0 : 0 ≤ e ∧ e < 2147483399 := by rw [← he]; exact bd _ _ (by decide)
  refine ⟨(e * e + e / 7) % 2147483647 / 11 % many, ?_, (bd _ _ hm).1, (bd _ _ hm).2⟩
  refine E.nx (ρ' := dS ns k many d s4 s5) (E.set (d := .int d) (E.op (E.op (E.op (E.op (E.v rfl) E.cc (fMod_ok c (by decide))) E.cc (fMul_l _ (by omega))) (E.op E.cc (E.op (E.v rfl) E.cc (E.addI _ _)) (fMul_l _ (by decide))) (E.addI _ _)) E.cc ?_))
    (E.nx (ρ' := dS ns k many e s4 s5) (E.set (d := .int e) (E.op (E.op (E.op (E.v rfl) (E.v rfl) (fMul_l _ (by omega))) (E.op (E.v rfl) E.cc (fDiv_ok d (by decide) (by decide +kernel))) (E.addI _ _)) E.cc ?_))
      (E.ret (E.op (E.op (E.op (E.op (E.op (E.v rfl) (E.v rfl) (fMul_l _ (by omega))) (E.op (E.v rfl) E.cc (fDiv_ok e (by decide) (by decide +kernel))) (E.addI _ _)) E.cc (fMod_ok _ (by decide))) E.cc (fDiv_ok _ (by decide) (by decide +kernel))) (E.v rfl) (fMod_ok _ hm))))
  · rw [← hd]; exact fMod_ok _ (by decide)
  · rw [← he]; exact fMod_ok _ (by decide)
theorem dloop_ok (s k m c : Option Sl) : ∀ (n f : Nat) (r a : Int), 0 ≤ a → a.toNat ≤ n → n < f →
    ∃ r' a', whileN (mAndT (mTest (mOp fGt (mVar 5) (mC (.int 0)))) (mTest (mOp fGt (mVar 4) (mC (.int 0)))))
      (mSeq (mSet 5 (mOp fDiv (mVar 5) (mC (.int 1000000)))) (mSet 4 (mOp fSub (mVar 4) (mC (.int 1))))) f [s, k, m, c, some (.dat (.int a)), some (.dat (.int r))] = .next [s, k, m, c, some (.dat (.int a')), some (.dat (.int r'))]
  | n, 0, r, a, _, _, h => by omega
  | n, f + 1, r, a, ha, hn, hf => by
    have t : (mAndT (mTest (mOp fGt (mVar 5) (mC (.int 0)))) (mTest (mOp fGt (mVar 4) (mC (.int 0))))) [s, k, m, c, some (.dat (.int a)), some (.dat (.int r))] = .ok (decide (0 < r) && decide (0 < a)) :=
      E.andT (E.tst (E.op (E.v rfl) E.cc (E.gtI _ _))) (E.tst (E.op (E.v rfl) E.cc (E.gtI _ _)))
    by_cases h : (decide (0 < r) && decide (0 < a)) = true
    · rw [h] at t
      obtain ⟨h1, h2⟩ : 0 < r ∧ 0 < a := by simpa using h
      obtain ⟨r', a', e⟩ := dloop_ok s k m c (n - 1) f (r / 1000000) (a - 1) (by omega) (by omega) (by omega)
      refine ⟨r', a', (while_next t ?_).trans e⟩
      exact E.nx (E.set (E.op (E.v rfl) E.cc (fDiv_ok r (by decide) (by decide +kernel)))) (E.set (E.op (E.v rfl) E.cc (E.subI _ _)))
    · have h : (decide (0 < r) && decide (0 < a)) = false := by simpa using h
      rw [h] at t
      exact ⟨r, a, while_end t⟩
/-- a drawn number lies below many -/
theorem drawn_ok (ns : List Int) (hn : ns.length ≤ 63) (k many : Int) (hk : 0 ≤ k) (hk2 : k ≤ 4000) (hm : 0 < many) : ∃ r, f__law_drawn [scrD ns, .int k, .int many] = .ok (.int r) ∧ 0 ≤ r ∧ r < many := by
  have h0 : (mSet 3 (mOp fMul (mC (.int 7)) (mVar 1))) [some (.dat (scrD ns)), some (.dat (.int k)), some (.dat (.int many)), none, none, none] = .next (dS ns k many (7 * k) none none) := E.set (E.op E.cc (E.v rfl) (fMul_l _ (by decide)))
  have run : ∀ {r : Int}, mSeq dHead dTail (dS ns k many (7 * k) none none) = .ret (.int r) → f__law_drawn [scrD ns, .int k, .int many] = .ok (.int r) := fun {r} h => by
    unfold f__law_drawn
    rw [drawn_eq]
    show runD (mSeq _ _ [some (.dat (scrD ns)), some (.dat (.int k)), some (.dat (.int many)), none, none, none]) = _
    exact E.run (E.nx h0 h)
  cases ns with
  | nil =>
    obtain ⟨r, e, h1, h2⟩ := tail_ok [] k (7 * k) hm none none
    refine ⟨r, run (E.nx (E.ifF (E.tst (E.op (E.v rfl) (E.lst E.nil (by exact Nat.le_of_ble_eq_true rfl)) (show fNe (scrD []) (.list []) = .ok (.bool false) from rfl))) E.skip) e), h1, h2⟩
  | cons x xs =>
    generalize hl : (x :: xs) = ns at *
    have hpos : 0 < (ns.length : Int) := by rw [← hl]; simp
    have hlen : (ns.length : Int) ≤ 63 := by omega
    have tT : (mTest (mOp fNe (mVar 0) (mLst mNil))) (dS ns k many (7 * k) none none) = .ok true := E.tst (E.op (E.v rfl) (E.lst E.nil (by exact Nat.le_of_ble_eq_true rfl)) (by rw [← hl]; rfl))
    have eL : ∀ ρ : Rho, ρ[0]? = some (some (.dat (scrD ns))) → (mCallB fLen (mCons (mVar 0) mNil)) ρ = .ok (.int (ns.length : Int)) := fun ρ h => E.callB (E.cons (E.v h) E.nil) (by
      show Res.ok (PyData.int ((ns.map PyData.int).length : Nat)) = _
      rw [List.length_map])
    have m1 : 0 ≤ k % (ns.length : Int) := Int.emod_nonneg _ (by omega)
    have m2 : k % (ns.length : Int) < (ns.length : Int) := Int.emod_lt_of_pos _ hpos
    obtain ⟨y, hy⟩ : ∃ y, ns[(k % (ns.length : Int)).toNat]? = some y := ⟨_, List.getElem?_eq_getElem (by omega)⟩
    have e1 : fIdx (scrD ns) (.int (k % (ns.length : Int))) = .ok (.int y) := by
      have : L2.atI (ns.map PyData.int) (k % (ns.length : Int)) = some (.int y) := by
        unfold L2.atI L2.ixN
        rw [List.length_map, if_pos m1, if_pos m2, Option.bind_some, List.getElem?_map, hy]
        rfl
      show (match L2.atI (ns.map PyData.int) (k % (ns.length : Int)) with | some x => Res.ok x | none => .stuck) = _
      rw [this]
    have dv := fDiv_ok k (j := (ns.length : Int)) hpos (log2_small (by omega))
    have d1 : 0 ≤ k / (ns.length : Int) := Int.ediv_nonneg hk (by omega)
    have d2 : k / (ns.length : Int) ≤ k := Int.ediv_le_self _ hk
    have a1 : (mSet 3 (mOp fIdx (mVar 0) (mOp fMod (mVar 1) (mCallB fLen (mCons (mVar 0) mNil))))) (dS ns k many (7 * k) none none) = .next (dS ns k many y none none) :=
      E.set (E.op (E.v rfl) (E.op (E.v rfl) (eL _ rfl) (fMod_ok k hpos)) e1)
    have a2 : (mSet 4 (mOp fDiv (mVar 1) (mCallB fLen (mCons (mVar 0) mNil)))) (dS ns k many y none none) = .next (dS ns k many y (some (.dat (.int (k / (ns.length : Int))))) none) := E.set (E.op (E.v rfl) (eL _ rfl) dv)
    have a4 : ∀ s4 s5, ∃ r, mSeq (mSet 3 (mOp fAdd (mVar 3) (mOp fMul (mC (.int 6553)) (mOp fDiv (mVar 1) (mCallB fLen (mCons (mVar 0) mNil)))))) dTail (dS ns k many y s4 s5) = .ret (.int r) ∧ 0 ≤ r ∧ r < many := fun s4 s5 => by
      obtain ⟨r, e, h1, h2⟩ := tail_ok ns k (y + 6553 * (k / (ns.length : Int))) hm s4 s5
      exact ⟨r, E.nx (ρ' := dS ns k many (y + 6553 * (k / (ns.length : Int))) s4 s5) (E.set (E.op (E.v rfl) (E.op E.cc (E.op (E.v rfl) (eL _ rfl) dv) (fMul_l _ (by decide))) (E.addI _ _))) e, h1, h2⟩
    have e18 : ∀ ρ : Rho, (mOp fPow (mC (.int 10)) (mC (.int 18))) ρ = .ok (.int 1000000000000000000) := fun ρ => E.op E.cc E.cc rfl
    -- what dBig does
    have a3 : (∃ r, dBig (dS ns k many y (some (.dat (.int (k / (ns.length : Int))))) none) = .ret (.int r) ∧ 0 ≤ r ∧ r < many) ∨ ∃ s4 s5, dBig (dS ns k many y (some (.dat (.int (k / (ns.length : Int))))) none) = .next (dS ns k many y s4 s5) := by
      have t : (mAndT (mTest (mOp fGe (mVar 3) (mOp fPow (mC (.int 10)) (mC (.int 18))))) (mTest (mOp fLt (mVar 4) (mC (.int 60))))) (dS ns k many y (some (.dat (.int (k / (ns.length : Int))))) none) = .ok (decide ((1000000000000000000 : Int) ≤ y) && decide (k / (ns.length : Int) < 60)) :=
        E.andT (E.tst (E.op (E.v rfl) (e18 _) (E.geI _ _))) (E.tst (E.op (E.v rfl) E.cc (E.ltI _ _)))
      cases hz : (decide ((1000000000000000000 : Int) ≤ y) && decide (k / (ns.length : Int) < 60)) with
      | false => rw [hz] at t; exact .inr ⟨_, _, E.ifF t E.skip⟩
      | true =>
        rw [hz] at t
        obtain ⟨r', a', eW⟩ := dloop_ok (some (.dat (scrD ns))) (some (.dat (.int k))) (some (.dat (.int many))) (some (.dat (.int y))) _ fuel (y / 1000000000000000000) (k / (ns.length : Int)) d1 (Nat.le_refl _) (by show _ < 20000; omega)
        have b1 : (mSet 5 (mOp fDiv (mVar 3) (mOp fPow (mC (.int 10)) (mC (.int 18))))) (dS ns k many y (some (.dat (.int (k / (ns.length : Int))))) none) = .next (dS ns k many y (some (.dat (.int (k / (ns.length : Int))))) (some (.dat (.int (y / 1000000000000000000))))) :=
          E.set (E.op (E.v rfl) (e18 _) (fDiv_ok y (by decide) (by decide +kernel)))
        have tg : (mTest (mOp fGt (mVar 5) (mC (.int 0)))) (dS ns k many y (some (.dat (.int a'))) (some (.dat (.int r')))) = .ok (decide (0 < r')) := E.tst (E.op (E.v rfl) E.cc (E.gtI _ _))
        by_cases hr : 0 < r'
        · rw [decide_eq_true hr] at tg
          exact .inl ⟨r' % 1000000 % many, E.ifT t (E.nx b1 (E.nx eW (E.ifT tg (E.ret (E.op (E.op (E.v rfl) E.cc (fMod_ok r' (by decide))) (E.v rfl) (fMod_ok _ hm)))))), Int.emod_nonneg _ (by omega), Int.emod_lt_of_pos _ hm⟩
        · rw [decide_eq_false hr] at tg
          exact .inr ⟨_, _, E.ifT t (E.nx b1 (E.nx eW (E.ifF tg E.skip)))⟩
    rcases a3 with ⟨r, e, h1, h2⟩ | ⟨s4, s5, e⟩
    · exact ⟨r, run (E.rt (E.ifT tT (E.nx a1 (E.nx a2 (E.rt e))))), h1, h2⟩
    · obtain ⟨r, e4, h1, h2⟩ := a4 s4 s5
      refine ⟨r, run ?_, h1, h2⟩
      -- the last statement of the head, then the tail
      have split : mSeq (mSet 3 (mOp fAdd (mVar 3) (mOp fMul (mC (.int 6553)) (mOp fDiv (mVar 1) (mCallB fLen (mCons (mVar 0) mNil)))))) dTail (dS ns k many y s4 s5) = .ret (.int r) := e4
      have s3 : (mSet 3 (mOp fAdd (mVar 3) (mOp fMul (mC (.int 6553)) (mOp fDiv (mVar 1) (mCallB fLen (mCons (mVar 0) mNil)))))) (dS ns k many y s4 s5) = .next (dS ns k many (y + 6553 * (k / (ns.length : Int))) s4 s5) := E.set (E.op (E.v rfl) (E.op E.cc (E.op (E.v rfl) (eL _ rfl) dv) (fMul_l _ (by decide))) (E.addI _ _))
      rw [mSeq_next s3] at split
      exact E.nx (E.ifT tT (E.nx a1 (E.nx a2 (E.nx e s3)))) split
end L67
end

section
set_option Elab.async false
set_option linter.all false
set_option maxRecDepth 100000
/-! Hd1: drawn paths, drawn charts. -/
namespace L67
open PySem PySem.Spec PyProof.Rows L2 De Nv Ma
abbrev pws : List Str := ["a", "b", "c", "..", "a", ".", "b", ".."]
abbrev pwL : MA := (mCons (mC (.str "a")) (mCons (mC (.str "b")) (mCons (mC (.str "c")) (mCons (mC (.str "..")) (mCons (mC (.str "a")) (mCons (mC (.str ".")) (mCons (mC (.str "b")) (mCons (mC (.str "..")) mNil))))))))
theorem pws_wd {x : Str} (h : x ∈ pws) : Wd x := by
  simp only [pws, List.mem_cons, List.not_mem_nil, or_false] at h
  rcases h with rfl | rfl | rfl | rfl | rfl | rfl | rfl | rfl <;> decide +kernel
variable {ns : List Int}
def pApp : MS := (mAppend 4 (mOp fIdx (mLst pwL) (mCall 3 f__law_drawn (mCons (mVar 0) (mCons (mOp fAdd (mOp fAdd (mVar 1) (mC (.int 2))) (mVar 5)) (mCons (mC (.int 8)) mNil))))))
theorem idxL_words {ws : List Str} {r : Int} (h0 : 0 ≤ r) (h1 : r < (ws.length : Int)) : ∃ w ∈ ws, fIdx (.list (ws.map PyData.str)) (.int r) = .ok (.str w) := by
  obtain ⟨x, hx, e⟩ := idx_lst (xs := ws.map PyData.str) h0 (by simpa using h1)
  obtain ⟨w, hw, rfl⟩ := List.mem_map.mp hx
  exact ⟨w, hw, e⟩
theorem ploop_ok (hn : ns.length ≤ 63) {p : Int} (hp : 0 ≤ p) (hp2 : p ≤ 3000) (s2 s3 : Option Sl) : ∀ (is : List Nat) (_ : ∀ i ∈ is, i ≤ 100) (ps : List Str) (s5 : Option Sl), ps.length + is.length ≤ 1000 →
    ∃ qs t5, forGo (.nm 5) pApp (is.map fun (i : Nat) => PyData.int (0 + (i : Int))) [some (.dat (scrD ns)), some (.dat (.int p)), s2, s3, some (.own (.list (ps.map PyData.str))), s5] = .next [some (.dat (scrD ns)), some (.dat (.int p)), s2, s3, some (.own (.list ((ps ++ qs).map PyData.str))), t5] ∧ qs.length = is.length ∧ ∀ q ∈ qs, q ∈ pws
  | [], _, ps, s5, _ => ⟨[], s5, by rw [List.append_nil]; rfl, rfl, fun q h => by simp at h⟩
  | i :: is, hi, ps, s5, hl => by
    have hi0 := hi i (List.mem_cons_self ..)
    simp only [List.length_cons] at hl
    obtain ⟨r, e1, h1, h2⟩ := drawn_ok ns hn (p + 2 + (0 + (i : Int))) 8 (by omega) (by omega) (by decide)
    obtain ⟨w, hw, e2⟩ := idxL_words (ws := pws) h1 (by exact h2)
    have ea : pApp [some (.dat (scrD ns)), some (.dat (.int p)), s2, s3, some (.own (.list (ps.map PyData.str))), some (.dat (.int (0 + (i : Int))))] = .next [some (.dat (scrD ns)), some (.dat (.int p)), s2, s3, some (.own (.list ((ps ++ [w]).map PyData.str))), some (.dat (.int (0 + (i : Int))))] := by
      refine append_ok (d := .str w) (ds := ps.map PyData.str) (E.op (E.lst (E.cons E.cc (E.cons E.cc (E.cons E.cc (E.cons E.cc (E.cons E.cc (E.cons E.cc (E.cons E.cc (E.cons E.cc E.nil)))))))) (by exact Nat.le_of_ble_eq_true rfl)) (E.call (E.cons (E.v rfl) (E.cons (E.op (E.op (E.v rfl) E.cc (E.addI _ _)) (E.v rfl) (E.addI _ _)) (E.cons E.cc E.nil))) rfl e1) e2) (by rw [List.length_map]; omega) ?_
      rw [List.map_append]
      rfl
    obtain ⟨qs, t5, e3, l3, k3⟩ := ploop_ok hn hp hp2 s2 s3 is (fun j hj => hi j (List.mem_cons_of_mem _ hj)) (ps ++ [w]) (some (.dat (.int (0 + (i : Int))))) (by rw [List.length_append]; simp only [List.length_cons, List.length_nil]; omega)
    refine ⟨w :: qs, t5, ?_, by simp [l3], fun q h => ?_⟩
    · rw [List.map_cons]
      unfold forGo
      simp only [Tg.put, List.set_cons_succ, List.set_cons_zero]
      rw [ea]
      simp only
      rw [e3, List.append_assoc]
      rfl
    · rcases List.mem_cons.mp h with rfl | h
      · exact hw
      · exact k3 q h
theorem path_ok (hn : ns.length ≤ 63) (p most : Int) (hp : 0 ≤ p) (hp2 : p ≤ 3000) (hm : 0 < most) (hm2 : most ≤ 12) :
    ∃ abs ps, f__law_path [scrD ns, .int p, .int most] = .ok (pathD abs ps) ∧ 1 ≤ ps.length ∧ (ps.length : Int) ≤ most ∧ ∀ x ∈ ps, x ∈ pws := by
  obtain ⟨r, e1, h1, h2⟩ := drawn_ok ns hn p 3 hp (by omega) (by decide)
  obtain ⟨st, hst, e2⟩ := idxL_words (ws := ["", "/", ""]) h1 (by exact h2)
  obtain ⟨r2, e3, h3, h4⟩ := drawn_ok ns hn (p + 1) most (by omega) (by omega) hm
  obtain ⟨qs, t5, e4, l4, k4⟩ := ploop_ok hn hp hp2 (some (.dat (.int most))) (some (.dat (.str st))) (List.range (1 + r2).toNat) (fun i hi => by have := List.mem_range.mp hi; omega) [] none (by rw [List.length_range]; simp; omega)
  obtain ⟨abs, habs⟩ : ∃ abs, startS abs = st := by
    simp only [List.mem_cons, List.not_mem_nil, or_false] at hst
    rcases hst with rfl | rfl | rfl
    · exact ⟨false, rfl⟩
    · exact ⟨true, rfl⟩
    · exact ⟨false, rfl⟩
  rw [List.length_range] at l4
  refine ⟨abs, qs, ?_, by omega, by omega, k4⟩
  unfold f__law_path m__law_path
  show runD (mSeq _ _ [some (.dat (scrD ns)), some (.dat (.int p)), some (.dat (.int most)), none, none, none]) = _
  refine E.run (E.nx (ρ' := [some (.dat (scrD ns)), some (.dat (.int p)), some (.dat (.int most)), some (.dat (.str st)), none, none]) (E.set (E.op (E.lst (E.cons E.cc (E.cons E.cc (E.cons E.cc E.nil))) (by exact Nat.le_of_ble_eq_true rfl)) (E.call (E.cons (E.v rfl) (E.cons (E.v rfl) (E.cons E.cc E.nil))) rfl e1) e2))
    (E.nx (E.seto (E.lst E.nil (by exact Nat.le_of_ble_eq_true rfl))) (E.nx (E.for_ (E.rng1 (E.cons (E.op E.cc (E.call (E.cons (E.v rfl) (E.cons (E.op (E.v rfl) E.cc (E.addI _ _)) (E.cons (E.v rfl) E.nil))) rfl e3) (E.addI _ _)) E.nil) (by omega) (by omega)) e4) (E.ret ?_))))
  rw [List.nil_append]
  refine lockOk (d := .list (qs.map PyData.str)) (r := pathD abs qs) (E.tup (E.cons (E.v rfl) (E.cons (E.callB (E.cons (E.v rfl) E.nil) (E.tupL _)) E.nil)) (by exact Nat.le_of_ble_eq_true rfl) |>.trans ?_) ?_ rfl
  · rw [← habs]
  · simp [flat, flatAll, flat_strs]
/-! ### charts -/
abbrev whats : List Str := ["link", "dir", "file", "link", "dir", "absent"]
def Gr (r : List Str × Wh) : Prop := r.1.length ≤ 3 ∧ (∀ x ∈ r.1, x = "a" ∨ x = "b" ∨ x = "c") ∧ ∀ abs ps, r.2 = .link abs ps → 1 ≤ ps.length ∧ ps.length ≤ 2 ∧ ∀ x ∈ ps, x ∈ pws
def cPlace : MS := (mSet 8 (mOp fAdd (mOp fIdx (mVar 5) (mCall 3 f__law_drawn (mCons (mVar 0) (mCons (mVar 7) (mCons (mCallB fLen (mCons (mVar 5) mNil)) mNil))))) (mTup (mCons (mOp fIdx (mC (.str "abc")) (mCall 3 f__law_drawn (mCons (mVar 0) (mCons (mOp fAdd (mVar 7) (mC (.int 1))) (mCons (mC (.int 3)) mNil))))) mNil))))
def cWhat : MS := (mSet 9 (mOp fIdx (mVar 3) (mCall 3 f__law_drawn (mCons (mVar 0) (mCons (mOp fAdd (mVar 7) (mC (.int 2))) (mCons (mCallB fLen (mCons (mVar 3) mNil)) mNil))))))
def cTest : MT := (lockR 4 (mAndT (mTest (mOp fNotIn (mVar 8) (mVar 4))) (mTest (mOp fLt (mCallB fLen (mCons (mVar 8) mNil)) (mC (.int 4))))) fun _ => true)
def cPut : MS := (mDPut 4 (mVar 8) (mIf (mTest (mOp fEq (mVar 9) (mC (.str "link")))) (mCall 3 f__law_path (mCons (mVar 0) (mCons (mOp fAdd (mVar 7) (mC (.int 3))) (mCons (mC (.int 2)) mNil)))) (mVar 9)))
def cPl : MS := (mSet 5 (mOp fCat (mVar 5) (mIf (mTest (mOp fEq (mVar 9) (mC (.str "dir")))) (mLst (mCons (mVar 8) mNil)) (mLst mNil))))
def cBody : MS := (mSeq (mSet 7 (mOp fAdd (mOp fAdd (mVar 1) (mC (.int 1))) (mOp fMul (mC (.int 8)) (mVar 6)))) (mSeq cPlace (mSeq cWhat (mIfS cTest (mSeq cPut cPl) mSkip))))
def cRet : MS := (mRet (lckR 4 (mCallB fTuple (mCons (mSort0 (mCons (mLc (mKeys 4) (.nm 8) [8] mYes (mTup (mCons (mVar 8) (mCons (mOp dgetK (mVar 4) (mVar 8)) mNil)))) mNil)) mNil)) flat))
theorem chart_eq : m__law_chart = mSeq (mPar [4, 5] (mmOwn (mC (.dict [])) (mmDat (mLst (mCons (mTup mNil) mNil)) mmNil))) (mSeq (mFor (fun ρ => ((mCons (mCall 3 f__law_drawn (mCons (mVar 0) (mCons (mVar 1) (mCons (mOp fAdd (mVar 2) (mC (.int 1))) mNil)))) mNil) ρ).bind asRng1) (.nm 6) cBody) cRet) := rfl
abbrev cS (ns : List Int) (p most : Int) (rs : Rows) (pl : List (List Str)) (s6 s7 s8 s9 : Option Sl) : Rho :=
  [some (.dat (scrD ns)), some (.dat (.int p)), some (.dat (.int most)), some (.dat (.list (whats.map PyData.str))), some (.own (.dict (rs.map rowP))), some (.dat (.list (pl.map tD))), s6, s7, s8, s9]
theorem abc_ix {r : Int} (h0 : 0 ≤ r) (h1 : r < 3) : ∃ w : Str, (w = "a" ∨ w = "b" ∨ w = "c") ∧ fIdx (.str "abc") (.int r) = .ok (.str w) := by
  have : r = 0 ∨ r = 1 ∨ r = 2 := by omega
  rcases this with rfl | rfl | rfl
  · exact ⟨"a", .inl rfl, by rfl⟩
  · exact ⟨"b", .inr (.inl rfl), by rfl⟩
  · exact ⟨"c", .inr (.inr rfl), by rfl⟩
theorem cbody_ok (hn : ns.length ≤ 63) {p most i : Int} (hp : 0 ≤ p) (hi : 0 ≤ i) (hb : p + 9 * i ≤ 2000) {rs : Rows} {pl : List (List Str)} (g : Good rs) (gr : ∀ r ∈ rs, Gr r) (hl : rs.length ≤ 1000) (hpl : ∀ q ∈ pl, q = [] ∨ (q, Wh.dir) ∈ rs) (hp0 : pl ≠ []) (hlp : pl.length ≤ 1000) (s7 s8 s9 : Option Sl) :
    ∃ rs' pl' t7 t8 t9, cBody (cS ns p most rs pl (some (.dat (.int i))) s7 s8 s9) = .next (cS ns p most rs' pl' (some (.dat (.int i))) t7 t8 t9) ∧ Good rs' ∧ (∀ r ∈ rs', Gr r) ∧ rs'.length ≤ rs.length + 1 ∧ (∀ q ∈ pl', q = [] ∨ (q, Wh.dir) ∈ rs') ∧ pl' ≠ [] ∧ pl'.length ≤ pl.length + 1 := by
  have b1 : (mSet 7 (mOp fAdd (mOp fAdd (mVar 1) (mC (.int 1))) (mOp fMul (mC (.int 8)) (mVar 6)))) (cS ns p most rs pl (some (.dat (.int i))) s7 s8 s9) = .next (cS ns p most rs pl (some (.dat (.int i))) (some (.dat (.int (p + 1 + 8 * i)))) s8 s9) :=
    E.set (E.op (E.op (E.v rfl) E.cc (E.addI _ _)) (E.op E.cc (E.v rfl) (fMul_l _ (by decide))) (E.addI _ _))
  generalize hh : p + 1 + 8 * i = here at b1
  have lpl : 0 < pl.length := List.length_pos_iff.mpr hp0
  obtain ⟨r1, e1, h1, h2⟩ := drawn_ok ns hn here (((pl.map tD).length : Nat) : Int) (by omega) (by omega) (by simp; omega)
  obtain ⟨x, hx, e2⟩ := idx_lst (xs := pl.map tD) h1 (by exact h2)
  obtain ⟨home, hhome, rfl⟩ := List.mem_map.mp hx
  obtain ⟨r2, e3, h3, h4⟩ := drawn_ok ns hn (here + 1) 3 (by omega) (by omega) (by decide)
  obtain ⟨nm, hnm, e4⟩ := abc_ix h3 h4
  obtain ⟨r3, e5, h5, h6⟩ := drawn_ok ns hn (here + 2) 6 (by omega) (by omega) (by decide)
  obtain ⟨kd, hkd, e6⟩ := idxL_words (ws := whats) h5 (by exact h6)
  have hhm := hpl home hhome
  have lhome : home.length ≤ 3 := by
    rcases hhm with rfl | h
    · simp
    · exact (gr _ h).1
  have hnm2 : Nm nm := by rcases hnm with h | h | h <;> rw [h] <;> decide +kernel
  have hnames : ∀ x ∈ home ++ [nm], x = "a" ∨ x = "b" ∨ x = "c" := fun x hx => by
    rcases List.mem_append.mp hx with h | h
    · rcases hhm with rfl | h'
      · simp at h
      · exact (gr _ h').2.1 x h
    · rw [List.mem_singleton.mp h]; exact hnm
  have nmad : ∀ x ∈ home ++ [nm], Nm x := fun x hx => by rcases hnames x hx with h | h | h <;> rw [h] <;> decide +kernel
  have nead : home ++ [nm] ≠ [] := by simp
  have b2 : cPlace (cS ns p most rs pl (some (.dat (.int i))) (some (.dat (.int here))) s8 s9) = .next (cS ns p most rs pl (some (.dat (.int i))) (some (.dat (.int here))) (some (.dat (tD (home ++ [nm])))) s9) :=
    E.set (E.op (E.op (E.v rfl) (E.call (E.cons (E.v rfl) (E.cons (E.v rfl) (E.cons (E.callB (E.cons (E.v rfl) E.nil) (E.lenL _)) E.nil))) rfl e1) e2) (E.tup (E.cons (E.op E.cc (E.call (E.cons (E.v rfl) (E.cons (E.op (E.v rfl) E.cc (E.addI _ _)) (E.cons E.cc E.nil))) rfl e3) e4) E.nil) (by exact Nat.le_of_ble_eq_true rfl)) (add_tup (xs := home) (ys := [nm]) (by simp; omega)))
  have b3 : cWhat (cS ns p most rs pl (some (.dat (.int i))) (some (.dat (.int here))) (some (.dat (tD (home ++ [nm])))) s9) = .next (cS ns p most rs pl (some (.dat (.int i))) (some (.dat (.int here))) (some (.dat (tD (home ++ [nm])))) (some (.dat (.str kd)))) :=
    E.set (E.op (E.v rfl) (E.call (E.cons (E.v rfl) (E.cons (E.op (E.v rfl) E.cc (E.addI _ _)) (E.cons (E.callB (E.cons (E.v rfl) E.nil) (E.lenL _)) E.nil))) rfl e5) e6)
  have b4 : cTest (cS ns p most rs pl (some (.dat (.int i))) (some (.dat (.int here))) (some (.dat (tD (home ++ [nm])))) (some (.dat (.str kd)))) = .ok ((at_ rs (home ++ [nm])).isNone && decide ((((home ++ [nm]).map PyData.str).length : Int) < 4)) :=
    lockOk (E.andT (E.tst (E.op (E.v rfl) (E.v rfl) (in_rows nead nmad))) (E.tst (E.op (E.callB (E.cons (E.v rfl) E.nil) (E.lenT _)) E.cc (E.ltI _ _)))) rfl
  by_cases hz : ((at_ rs (home ++ [nm])).isNone && decide ((((home ++ [nm]).map PyData.str).length : Int) < 4)) = true
  · rw [hz] at b4
    obtain ⟨z1, z2⟩ := Bool.and_eq_true_iff.mp hz
    have z1 : at_ rs (home ++ [nm]) = none := Option.isNone_iff_eq_none.mp z1
    have z2 : (home ++ [nm]).length ≤ 3 := by have := of_decide_eq_true z2; rw [List.length_map] at this; omega
    obtain ⟨w, hV, hd, hlk, hGr⟩ : ∃ w, (mIf (mTest (mOp fEq (mVar 9) (mC (.str "link")))) (mCall 3 f__law_path (mCons (mVar 0) (mCons (mOp fAdd (mVar 7) (mC (.int 3))) (mCons (mC (.int 2)) mNil)))) (mVar 9)) (cS ns p most rs pl (some (.dat (.int i))) (some (.dat (.int here))) (some (.dat (tD (home ++ [nm])))) (some (.dat (.str kd)))) = .ok (wD w) ∧
        (decide (kd = "dir") = true → w = .dir) ∧ (∀ abs ps, w = .link abs ps → ps.length ≤ 12 ∧ (abs = false → ps ≠ []) ∧ ∀ x ∈ ps, Wd x) ∧ (∀ abs ps, w = .link abs ps → 1 ≤ ps.length ∧ ps.length ≤ 2 ∧ ∀ x ∈ ps, x ∈ pws) := by
      have eT : (mTest (mOp fEq (mVar 9) (mC (.str "link")))) (cS ns p most rs pl (some (.dat (.int i))) (some (.dat (.int here))) (some (.dat (tD (home ++ [nm])))) (some (.dat (.str kd)))) = .ok (decide (kd = "link")) := by
        have hk : PyData.strOk kd = true := by
          simp only [whats, List.mem_cons, List.not_mem_nil, or_false] at hkd
          rcases hkd with rfl | rfl | rfl | rfl | rfl | rfl <;> decide +kernel
        exact E.tst (E.op (E.v rfl) E.cc (eq_str hk (by decide +kernel)))
      have plain : ∀ w : Wh, wD w = .str kd → decide (kd = "link") = false → (decide (kd = "dir") = true → w = .dir) → (∀ abs ps, w ≠ .link abs ps) → ∃ w, (mIf (mTest (mOp fEq (mVar 9) (mC (.str "link")))) (mCall 3 f__law_path (mCons (mVar 0) (mCons (mOp fAdd (mVar 7) (mC (.int 3))) (mCons (mC (.int 2)) mNil)))) (mVar 9)) (cS ns p most rs pl (some (.dat (.int i))) (some (.dat (.int here))) (some (.dat (tD (home ++ [nm])))) (some (.dat (.str kd)))) = .ok (wD w) ∧
        (decide (kd = "dir") = true → w = .dir) ∧ (∀ abs ps, w = .link abs ps → ps.length ≤ 12 ∧ (abs = false → ps ≠ []) ∧ ∀ x ∈ ps, Wd x) ∧ (∀ abs ps, w = .link abs ps → 1 ≤ ps.length ∧ ps.length ≤ 2 ∧ ∀ x ∈ ps, x ∈ pws) := fun w hw hk hdd hnl => by
        refine ⟨w, ?_, hdd, fun abs ps e => absurd e (hnl abs ps), fun abs ps e => absurd e (hnl abs ps)⟩
        refine (ifOk eT).trans ?_
        rw [hk, hw, if_neg (by decide)]
        exact E.v rfl
      have link : kd = "link" → ∃ w, (mIf (mTest (mOp fEq (mVar 9) (mC (.str "link")))) (mCall 3 f__law_path (mCons (mVar 0) (mCons (mOp fAdd (mVar 7) (mC (.int 3))) (mCons (mC (.int 2)) mNil)))) (mVar 9)) (cS ns p most rs pl (some (.dat (.int i))) (some (.dat (.int here))) (some (.dat (tD (home ++ [nm])))) (some (.dat (.str kd)))) = .ok (wD w) ∧
        (decide (kd = "dir") = true → w = .dir) ∧ (∀ abs ps, w = .link abs ps → ps.length ≤ 12 ∧ (abs = false → ps ≠ []) ∧ ∀ x ∈ ps, Wd x) ∧ (∀ abs ps, w = .link abs ps → 1 ≤ ps.length ∧ ps.length ≤ 2 ∧ ∀ x ∈ ps, x ∈ pws) := fun hk => by
        obtain ⟨abs, ps, e8, h7, h8, h9⟩ := path_ok hn (here + 3) 2 (by omega) (by omega) (by decide) (by decide)
        refine ⟨.link abs ps, ?_, fun h => ?_, fun abs' ps' e => by cases e; exact ⟨by omega, fun _ h => by rw [h] at h7; simp at h7, fun x hx => pws_wd (h9 x hx)⟩, fun abs' ps' e => by cases e; exact ⟨h7, by omega, h9⟩⟩
        · rw [ifOk eT, if_pos (decide_eq_true hk)]
          exact E.call (E.cons (E.v rfl) (E.cons (E.op (E.v rfl) E.cc (E.addI _ _)) (E.cons E.cc E.nil))) rfl e8
        · rw [hk] at h; exact absurd h (by decide +kernel)
      simp only [whats, List.mem_cons, List.not_mem_nil, or_false] at hkd
      rcases hkd with h | h | h | h | h | h
      · exact link h
      · subst h; exact plain .dir rfl (by decide +kernel) (fun _ => rfl) (fun _ _ h => by cases h)
      · subst h; exact plain .file rfl (by decide +kernel) (fun h => absurd h (by decide +kernel)) (fun _ _ h => by cases h)
      · exact link h
      · subst h; exact plain .dir rfl (by decide +kernel) (fun _ => rfl) (fun _ _ h => by cases h)
      · subst h; exact plain .absent rfl (by decide +kernel) (fun h => absurd h (by decide +kernel)) (fun _ _ h => by cases h)
    have b5 : cPut (cS ns p most rs pl (some (.dat (.int i))) (some (.dat (.int here))) (some (.dat (tD (home ++ [nm])))) (some (.dat (.str kd)))) = .next (cS ns p most (rs ++ [(home ++ [nm], w)]) pl (some (.dat (.int i))) (some (.dat (.int here))) (some (.dat (tD (home ++ [nm])))) (some (.dat (.str kd)))) :=
      dput_ok (kvs := rs.map rowP) hV (allT_rows rs) (by rw [List.length_map]; omega) (E.v rfl) (keyOk_names nead fun x hx => (nmad x hx).2.1) (by rw [put_new z1]; rfl)
    have g' : Good (rs ++ [(home ++ [nm], w)]) := g.add z1 nead (by omega) (fun _ => by omega) nmad (by rw [List.dropLast_concat]; exact hhm) hlk
    have gr' : ∀ r ∈ rs ++ [(home ++ [nm], w)], Gr r := fun r hr => by
      rcases List.mem_append.mp hr with h | h
      · exact gr r h
      · rw [List.mem_singleton.mp h]; exact ⟨z2, hnames, hGr⟩
    have eD : (mTest (mOp fEq (mVar 9) (mC (.str "dir")))) (cS ns p most (rs ++ [(home ++ [nm], w)]) pl (some (.dat (.int i))) (some (.dat (.int here))) (some (.dat (tD (home ++ [nm])))) (some (.dat (.str kd)))) = .ok (decide (kd = "dir")) := by
      have hk : PyData.strOk kd = true := by
        simp only [whats, List.mem_cons, List.not_mem_nil, or_false] at hkd
        rcases hkd with rfl | rfl | rfl | rfl | rfl | rfl <;> decide +kernel
      exact E.tst (E.op (E.v rfl) E.cc (eq_str hk (by decide +kernel)))
    have more : ∀ q ∈ pl, q = [] ∨ (q, Wh.dir) ∈ rs ++ [(home ++ [nm], w)] := fun q hq => (hpl q hq).imp _root_.id fun h => List.mem_append_left _ h
    cases hkk : decide (kd = "dir") with
    | true =>
      rw [hkk] at eD
      have b6 : cPl (cS ns p most (rs ++ [(home ++ [nm], w)]) pl (some (.dat (.int i))) (some (.dat (.int here))) (some (.dat (tD (home ++ [nm])))) (some (.dat (.str kd)))) = .next (cS ns p most (rs ++ [(home ++ [nm], w)]) (pl ++ [home ++ [nm]]) (some (.dat (.int i))) (some (.dat (.int here))) (some (.dat (tD (home ++ [nm])))) (some (.dat (.str kd)))) := by
        refine E.set (d := .list ((pl ++ [home ++ [nm]]).map tD)) (E.op (E.v rfl) ((ifOk eD).trans ((if_pos rfl).trans (E.lst (E.cons (E.v rfl) E.nil) (by exact Nat.le_of_ble_eq_true rfl)))) ?_)
        rw [cat_ok (by simp; omega), List.map_append]
        rfl
      refine ⟨_, _, _, _, _, E.nx b1 (E.nx b2 (E.nx b3 (E.ifT b4 (E.nx b5 b6)))), g', gr', by simp, fun q hq => ?_, by simp, by simp⟩
      rcases List.mem_append.mp hq with h | h
      · exact more q h
      · rw [List.mem_singleton.mp h, hd hkk]; exact .inr (by simp)
    | false =>
      rw [hkk] at eD
      have b6 : cPl (cS ns p most (rs ++ [(home ++ [nm], w)]) pl (some (.dat (.int i))) (some (.dat (.int here))) (some (.dat (tD (home ++ [nm])))) (some (.dat (.str kd)))) = .next (cS ns p most (rs ++ [(home ++ [nm], w)]) pl (some (.dat (.int i))) (some (.dat (.int here))) (some (.dat (tD (home ++ [nm])))) (some (.dat (.str kd)))) := by
        refine E.set (d := .list (pl.map tD)) (E.op (E.v rfl) ((ifOk eD).trans ((if_neg (by decide)).trans (E.lst E.nil (by exact Nat.le_of_ble_eq_true rfl)))) ?_)
        rw [cat_ok (by simp; omega), List.append_nil]
      exact ⟨_, _, _, _, _, E.nx b1 (E.nx b2 (E.nx b3 (E.ifT b4 (E.nx b5 b6)))), g', gr', by simp, more, hp0, by omega⟩
  · have hz : ((at_ rs (home ++ [nm])).isNone && decide ((((home ++ [nm]).map PyData.str).length : Int) < 4)) = false := by simpa using hz
    rw [hz] at b4
    exact ⟨_, _, _, _, _, E.nx b1 (E.nx b2 (E.nx b3 (E.ifF b4 E.skip))), g, gr, by omega, hpl, hp0, by omega⟩
end L67
end

section
set_option Elab.async false
set_option linter.all false
set_option maxRecDepth 100000
/-! Hd2: the chart drawn; the chart's checks. -/
namespace L67
open PySem PySem.Spec PyProof.Rows L2 De Nv Ma
variable {ns : List Int}
theorem cloop_ok (hn : ns.length ≤ 63) {p most : Int} (hp : 0 ≤ p) (hp2 : p ≤ 1000) : ∀ (is : List Nat) (_ : ∀ i ∈ is, i ≤ 100) (rs : Rows) (pl : List (List Str)) (s6 s7 s8 s9 : Option Sl), Good rs → (∀ r ∈ rs, Gr r) → rs.length + is.length ≤ 500 → (∀ q ∈ pl, q = [] ∨ (q, Wh.dir) ∈ rs) → pl ≠ [] → pl.length + is.length ≤ 500 →
    ∃ rs' pl' t6 t7 t8 t9, forGo (.nm 6) cBody (is.map fun (i : Nat) => PyData.int (0 + (i : Int))) (cS ns p most rs pl s6 s7 s8 s9) = .next (cS ns p most rs' pl' t6 t7 t8 t9) ∧ Good rs' ∧ (∀ r ∈ rs', Gr r) ∧ rs'.length ≤ rs.length + is.length
  | [], _, rs, pl, s6, s7, s8, s9, g, gr, _, _, _, _ => ⟨rs, pl, s6, s7, s8, s9, rfl, g, gr, Nat.le_add_right _ _⟩
  | i :: is, hi, rs, pl, s6, s7, s8, s9, g, gr, hl, hpl, hp0, hlp => by
    have hi0 := hi i (List.mem_cons_self ..)
    simp only [List.length_cons] at hl hlp
    obtain ⟨rs1, pl1, t7, t8, t9, e, g1, gr1, l1, hpl1, hp1, lp1⟩ := cbody_ok hn (most := most) hp (i := 0 + (i : Int)) (by omega) (by omega) g gr (by omega) hpl hp0 (by omega) s7 s8 s9
    obtain ⟨rs2, pl2, u6, u7, u8, u9, e2, g2, gr2, l2⟩ := cloop_ok hn (most := most) hp hp2 is (fun j hj => hi j (List.mem_cons_of_mem _ hj)) rs1 pl1 (some (.dat (.int (0 + (i : Int))))) t7 t8 t9 g1 gr1 (by omega) hpl1 hp1 (by omega)
    refine ⟨rs2, pl2, u6, u7, u8, u9, ?_, g2, gr2, by simp only [List.length_cons]; omega⟩
    rw [List.map_cons]
    unfold forGo
    simp only [Tg.put, List.set_cons_succ, List.set_cons_zero]
    rw [e]
    exact e2
/-- a drawn chart: sorted rows -/
theorem chart_ok (hn : ns.length ≤ 63) {p most : Int} (hp : 0 ≤ p) (hp2 : p ≤ 1000) (hm : 0 ≤ most) (hm2 : most ≤ 50) :
    ∃ rs : Rows, f__law_chart [scrD ns, .int p, .int most, .list (whats.map PyData.str)] = .ok (.tuple (rs.map rowD)) ∧ Good rs ∧ Ord rs ∧ (rs.length : Int) ≤ most ∧ ∀ r ∈ rs, Gr r := by
  obtain ⟨r, e1, h1, h2⟩ := drawn_ok ns hn p (most + 1) hp (by omega) (by omega)
  obtain ⟨rs, pl, t6, t7, t8, t9, e2, g, gr, l⟩ := cloop_ok hn (most := most) hp hp2 (List.range r.toNat) (fun i hi => by have := List.mem_range.mp hi; omega) [] [[]] none none none none good_nil (fun r h => by simp at h) (by rw [List.length_range]; simp; omega) (fun q hq => .inl (List.mem_singleton.mp hq)) (by simp) (by rw [List.length_range]; simp; omega)
  rw [List.length_range] at l
  simp only [List.length_nil, Nat.zero_add] at l
  obtain ⟨ss, e3, hpm, ho⟩ := sort0_rows g (by omega)
  refine ⟨ss, ?_, g.perm hpm, ho, by rw [hpm.length_eq]; omega, fun r hr => gr r (hpm.mem_iff.mp hr)⟩
  unfold f__law_chart
  rw [chart_eq]
  show runD (mSeq _ _ [some (.dat (scrD ns)), some (.dat (.int p)), some (.dat (.int most)), some (.dat (.list (whats.map PyData.str))), none, none, none, none, none, none]) = _
  have b1 : (mPar [4, 5] (mmOwn (mC (.dict [])) (mmDat (mLst (mCons (mTup mNil) mNil)) mmNil))) [some (.dat (scrD ns)), some (.dat (.int p)), some (.dat (.int most)), some (.dat (.list (whats.map PyData.str))), none, none, none, none, none, none] = .next (cS ns p most [] [[]] none none none none) :=
    E.par (E.mmO rfl (E.mmD (E.lst (E.cons (E.tup E.nil (by exact Nat.le_of_ble_eq_true rfl)) E.nil) (by exact Nat.le_of_ble_eq_true rfl)) E.mmN)) rfl
  refine E.run (E.nx b1 (E.nx (E.for_ (E.rng1 (E.cons (E.call (E.cons (E.v rfl) (E.cons (E.v rfl) (E.cons (E.op (E.v rfl) E.cc (E.addI _ _)) E.nil))) rfl e1) E.nil) (by omega) (by omega)) e2) (E.ret ?_)))
  refine lckOk (allT_rows rs) (E.callB (E.cons (sort0E (d := .list (rs.map rowD)) (E.cons (E.lc (ds := rs.map fun r => tD r.1) ?_ ?_) E.nil) e3) E.nil) (E.tupL _)) (flat_rows ss)
  · show (if _ then _ else _) = _
    rw [if_pos ⟨by rw [List.length_map]; exact sz_big (by omega), keyD_rows g.ne⟩, List.map_map]
    rfl
  · have := compGo_fm (step := mStep (.nm 8) [8] mYes (mTup (mCons (mVar 8) (mCons (mOp dgetK (mVar 4) (mVar 8)) mNil))) ((cS ns p most rs pl t6 t7 t8 t9).set 4 (some (.lck (.dict (rs.map rowP)))))) (f := fun r : List Str × Wh => tD r.1) (p := fun _ => true) (g := rowD) (rs := rs)
      (fun r hr => step_some (h1 := rfl) (E.tup (E.cons (E.v rfl) (E.cons (E.op (E.vl rfl) (E.v rfl) (get_rows g hr)) E.nil)) (by exact Nat.le_of_ble_eq_true rfl)))
    rw [List.filter_eq_self.mpr (fun _ _ => rfl)] at this
    exact this
theorem check_chart_ok {rs : Rows} (g : Good rs) (ho : Ord rs) (hr : rs.length ≤ 60) : f_check_chart [.tuple (rs.map rowD)] = .ok .none := by
  unfold f_check_chart m_check_chart
  show runD (mIfS _ _ _ [some (.dat (.tuple (rs.map rowD)))]) = _
  rw [stuckIf (tstOk (callOk (consOk vOk rfl) (isChart_ok g ho hr)))]
  rfl
theorem places_ok {rs : Rows} (g : Good rs) (hr : rs.length ≤ 60) : f__law_places [.tuple (rs.map rowD)] = .ok (.list (([] :: dirRows rs).map tD)) := by
  unfold f__law_places m__law_places
  show runD (mRet _ [some (.dat (.tuple (rs.map rowD))), none, none]) = _
  have e1 : (mLc (mSeqI (mVar 0)) (.tp [1, 2]) [1, 2] (mTest (mOp fEq (mVar 2) (mC (.str "dir")))) (mVar 1)) [some (.dat (.tuple (rs.map rowD))), none, none] = .ok (.list ((rs.filter fun r => isW r.2 "dir").map fun r => tD r.1)) :=
    lc_of (seqT_ok vOk (by simp; omega)) (compGo_fm fun r hr => step_if (ρ1 := [some (.dat (.tuple (rs.map rowD))), some (.dat (tD r.1)), some (.dat (wD r.2))]) (h1 := rfl) (tstOk (opOk vOk rfl (fEq_w (g.sndW hr) (by decide +kernel)))) vOk)
  have e2 : (rs.filter fun r => isW r.2 "dir").map (fun r => tD r.1) = (dirRows rs).map tD := by unfold dirRows; rw [List.map_map]; rfl
  rw [e2] at e1
  have ld : (dirRows rs).length ≤ 60 := by
    unfold dirRows
    rw [List.length_map]
    exact Nat.le_trans (List.length_filter_le _ _) hr
  exact E.run (E.ret (E.op (E.lst (E.cons (E.tup E.nil (by exact Nat.le_of_ble_eq_true rfl)) E.nil) (by exact Nat.le_of_ble_eq_true rfl)) e1 (cat_ok (by simp; omega))))
/-! links -/
def lnkRows (rs : Rows) : Rows := rs.filter fun r => isL r.2
theorem isLink_ok {w : Wh} (hw : SndW w) : f_is_link [wD w] = .ok (.bool (isL w)) := by
  unfold f_is_link m_is_link
  show runD (mRet _ [some (.dat (wD w))]) = _
  refine E.run (E.ret (E.op (E.v rfl) (E.tup (E.cons E.cc (E.cons E.cc (E.cons E.cc E.nil))) (by exact Nat.le_of_ble_eq_true rfl)) ?_))
  have hs : SeqAt.shaped (wD w) = true := shaped_wD hw
  show (if (SeqAt.shaped (wD w) && SeqAt.shaped (.tuple [.str "dir", .str "file", .str "absent"])) = true then Res.ok (([.str "dir", .str "file", .str "absent"] : List D).any fun z => PyData.eqv z (wD w)) else .stuck).bind _ = _
  rw [hs, if_pos (by decide +kernel)]
  cases w with
  | link abs ps => rfl
  | dir => rfl
  | file => rfl
  | absent => rfl
theorem findLinks_ok {rs : Rows} (g : Good rs) (hr : rs.length ≤ 60) : f_find_links [.tuple (rs.map rowD)] = .ok (.list ((lnkRows rs).map fun r => tD r.1)) := by
  unfold f_find_links m_find_links
  show runD (mRet _ [some (.dat (.tuple (rs.map rowD))), none, none]) = _
  exact E.run (E.ret (lc_of (seqT_ok vOk (by simp; omega)) (compGo_fm fun r hr => step_if (ρ1 := [some (.dat (.tuple (rs.map rowD))), some (.dat (tD r.1)), some (.dat (wD r.2))]) (h1 := rfl) (E.tst (E.call (E.cons (E.v rfl) E.nil) rfl (isLink_ok (g.sndW hr)))) vOk)))
end L67
end

section
set_option Elab.async false
set_option linter.all false
set_option maxRecDepth 100000
/-! Hd3: the law's own walk is the run counted in parts. -/
namespace L67
open PySem PySem.Spec PyProof.Rows L2 De Nv Ma
abbrev qS (rs : Rows) (a : List Str) (s4 s5 : Option Sl) : Rho := [some (.dat (.tuple (rs.map rowD))), some (.dat (tD a)), some (.dat (.str "unknown")), some (.dat (.dict (rs.map rowP))), s4, s5]
def qBody : MS := (mSeq (mSet 5 (mGet2 (mVar 3) (mSl fSl (mVar 1) mNo (mPart (mVar 4))) (mVar 2))) (mIfS (mAndT (mTest (mOp fLt (mVar 4) (mCallB fLen (mCons (mVar 1) mNil)))) (mTest (mOp fNe (mVar 5) (mC (.str "dir")))))
  (mRet (mIf (mTest (mOp fEq (mVar 5) (mC (.str "unknown")))) (mVar 2) (mC (.str "absent"))))
  mSkip))
theorem what_eq : m__law_what = (mSeq (mSet 3 (mCallB fDict (mCons (mVar 0) mNil))) (mSeq (mFor (fun ρ => ((mCons (mC (.int 1)) (mCons (mOp fAdd (mCallB fLen (mCons (mVar 1) mNil)) (mC (.int 1))) mNil)) ρ).bind asRng2) (.nm 4) qBody) (mRet (mIf (mTest (mOp fEq (mVar 1) (mTup mNil))) (mC (.str "dir")) (mGet2 (mVar 3) (mVar 1) (mVar 2)))))) := rfl
theorem qstep {rs : Rows} (g : Good rs) {a : List Str} (nm : ∀ x ∈ a, Nm x) (hp : ∀ i, i + 1 < a.length → at_ rs (a.take (i + 1)) = some .dir) {i : Nat} (hi : i < a.length) (s5 : Option Sl) :
    ∃ t5, qBody (qS rs a (some (.dat (.int (1 + (i : Int))))) s5) = .next (qS rs a (some (.dat (.int (1 + (i : Int))))) t5) := by
  have ei : (1 + (i : Int)) = ((i + 1 : Nat) : Int) := by omega
  rw [ei]
  have ne : a.take (i + 1) ≠ [] := fun h => by
    have h2 : (a.take (i + 1)).length = 0 := by rw [h]; rfl
    rw [List.length_take] at h2
    omega
  refine ⟨some (.dat (woD (at_ rs (a.take (i + 1))))), E.nx (E.set (d := woD (at_ rs (a.take (i + 1)))) (get2Ok (E.v rfl) (allT_rows rs) (slTo (E.v rfl) rfl) (E.v rfl) (by rw [get_at ne (fun x hx => nm x (List.mem_of_mem_take hx))]; cases at_ rs (a.take (i + 1)) <;> rfl))) ?_⟩
  have t1 : (mTest (mOp fLt (mVar 4) (mCallB fLen (mCons (mVar 1) mNil)))) (qS rs a (some (.dat (.int ((i + 1 : Nat) : Int)))) (some (.dat (woD (at_ rs (a.take (i + 1))))))) = .ok (decide (((i + 1 : Nat) : Int) < (((a.map PyData.str).length : Nat) : Int))) :=
    E.tst (E.op (E.v rfl) (E.callB (E.cons (E.v rfl) E.nil) (E.lenT _)) (E.ltI _ _))
  rw [List.length_map] at t1
  by_cases h : i + 1 < a.length
  · have h2 := hp i h
    have t2 : (mTest (mOp fNe (mVar 5) (mC (.str "dir")))) (qS rs a (some (.dat (.int ((i + 1 : Nat) : Int)))) (some (.dat (woD (at_ rs (a.take (i + 1))))))) = .ok (!isO (at_ rs (a.take (i + 1))) "dir") :=
      E.tst (E.op (E.v rfl) E.cc (fNe_o g.sndO (by decide +kernel)))
    rw [h2, show (!isO (some Wh.dir) "dir") = false by decide +kernel] at t2
    have t3 := E.andT t1 (by rw [h2]; exact t2)
    rw [Bool.and_false] at t3
    exact E.ifF t3 E.skip
  · rw [decide_eq_false (by omega)] at t1
    exact E.ifF (E.andF t1) E.skip
theorem qloop {rs : Rows} (g : Good rs) {a : List Str} (nm : ∀ x ∈ a, Nm x) (hp : ∀ i, i + 1 < a.length → at_ rs (a.take (i + 1)) = some .dir) : ∀ (is : List Nat) (_ : ∀ i ∈ is, i < a.length) (s4 s5 : Option Sl),
    ∃ t4 t5, forGo (.nm 4) qBody (is.map fun (i : Nat) => PyData.int (1 + (i : Int))) (qS rs a s4 s5) = .next (qS rs a t4 t5)
  | [], _, s4, s5 => ⟨s4, s5, rfl⟩
  | i :: is, hi, s4, s5 => by
    obtain ⟨t5, e⟩ := qstep g nm hp (hi i (List.mem_cons_self ..)) s5
    obtain ⟨u4, u5, e2⟩ := qloop g nm hp is (fun j hj => hi j (List.mem_cons_of_mem _ hj)) (some (.dat (.int (1 + (i : Int))))) t5
    refine ⟨u4, u5, ?_⟩
    rw [List.map_cons]
    unfold forGo
    simp only [Tg.put, List.set_cons_succ, List.set_cons_zero]
    rw [e]
    exact e2
theorem rng2 {i j : Int} {m : MA} {ρ : Rho} (h : m ρ = .ok [.int i, .int j]) (h1 : j ≤ 1000000) (h2 : -1000000 ≤ j) (h3 : i ≤ 1000000) (h4 : -1000000 ≤ i) : (fun ρ => (m ρ).bind asRng2) ρ = .ok (rng i (j - i).toNat) := by
  show (m ρ).bind asRng2 = _
  rw [h]
  exact if_pos ⟨h1, h2, h3, h4⟩
/-- what the law finds at an entry of a known directory -/
theorem what_ok {rs : Rows} (g : Good rs) (hr : rs.length ≤ 60) {p : List Str} (hp : IsDir rs p) {x : Str} (hx : Nm x) : f__law_what [.tuple (rs.map rowD), tD (p ++ [x]), .str "unknown"] = .ok (woD (at_ rs (p ++ [x]))) := by
  have nm : ∀ y ∈ p ++ [x], Nm y := fun y hy => by
    rcases List.mem_append.mp hy with h | h
    · exact hp.names g y h
    · rw [List.mem_singleton.mp h]; exact hx
  have pre : ∀ i, i + 1 < (p ++ [x]).length → at_ rs ((p ++ [x]).take (i + 1)) = some .dir := fun i hi => by
    rw [List.length_append] at hi
    simp at hi
    rw [List.take_append_of_le_length (by omega)]
    exact pre_dirs g hp i (by omega)
  have lp := hp.len g
  generalize ha : p ++ [x] = a at *
  have ne : a ≠ [] := by rw [← ha]; simp
  have la : a.length ≤ 30 := by rw [← ha]; simp; omega
  obtain ⟨t4, t5, e⟩ := qloop g nm pre (List.range a.length) (fun i hi => List.mem_range.mp hi) none none
  unfold f__law_what
  rw [what_eq]
  show runD (mSeq _ _ [some (.dat (.tuple (rs.map rowD))), some (.dat (tD a)), some (.dat (.str "unknown")), none, none, none]) = _
  have z0 : (mCons (mC (.int 1)) (mCons (mOp fAdd (mCallB fLen (mCons (mVar 1) mNil)) (mC (.int 1))) mNil)) (qS rs a none none) = .ok [.int 1, .int ((((a.map PyData.str).length : Nat) : Int) + 1)] := E.cons E.cc (E.cons (E.op (E.callB (E.cons (E.v rfl) E.nil) (E.lenT _)) E.cc (E.addI _ _)) E.nil)
  have hlm : (a.map PyData.str).length = a.length := List.length_map ..
  have z := rng2 z0 (by omega) (by omega) (by omega) (by omega)
  have ez : ((((a.map PyData.str).length : Nat) : Int) + 1 - 1).toNat = a.length := by omega
  rw [ez] at z
  refine E.run (E.nx (ρ' := qS rs a none none) (E.set (E.callB (E.cons (E.v rfl) E.nil) (dict_rows g (by omega)))) (E.nx (E.for_ z e) (E.ret ?_)))
  have eT : (mTest (mOp fEq (mVar 1) (mTup mNil))) (qS rs a t4 t5) = .ok (decide (a = [])) := E.tst (E.op (E.v rfl) (E.tup E.nil (by exact Nat.le_of_ble_eq_true rfl)) (E.eqT (ys := []) (fun y hy => (nm y hy).2.2.1) (fun y hy => by simp at hy)))
  rw [decide_eq_false ne] at eT
  exact (ifOk eT).trans ((if_neg (by decide)).trans (get2Ok (E.v rfl) (allT_rows rs) (E.v rfl) (E.v rfl) (by rw [get_at ne nm]; cases at_ rs a <;> rfl)))
/-! ### the law's walk -/
def lAd : M := (mOp fAdd (mVar 5) (mTup (mCons (mVar 8) mNil)))
def lIf0 : MS := (mIfS (mTest (mOp fEq (mVar 6) (mTup mNil))) (mRet (mTup (mCons (mC (.str "found")) (mCons (mVar 5) mNil)))) mSkip)
def lPar : MS := (mPar [8, 6] (mmDat (mOp fIdx (mVar 6) (mC (.int 0))) (mmDat (mSl fSl (mVar 6) (mPart (mC (.int 1))) mNo) mmNil)))
def lLink : MS := (mSeq (mSet 5 (mIf (mTest (mOp fEq (mOp fIdx (mVar 9) (mC (.int 0))) (mC (.str "/")))) (mTup mNil) (mVar 5))) (mSet 6 (mOp fAdd (mOp fIdx (mVar 9) (mC (.int 1))) (mVar 6))))
def lRest : MS := (mSeq (mIfS (mTest (mOp fEq (mVar 9) (mC (.str "unknown"))))
  (mRet (mTup (mCons (mVar 9) (mCons lAd (mCons (mVar 6) mNil)))))
  mSkip) (mSeq (mIfS (mTest (mOp fEq (mVar 9) (mC (.str "absent"))))
  (mRet (mTup (mCons (mC (.str "missing")) mNil)))
  mSkip) (mSeq (mIfS (mTest (mOp fEq (mVar 9) (mC (.str "file"))))
  (mRet (mIf (mTest (mOp fEq (mVar 6) (mTup mNil))) (mTup (mCons (mC (.str "found")) (mCons lAd mNil))) (mTup (mCons (mC (.str "file")) mNil))))
  mSkip) (mIfS (mTest (mOp fEq (mVar 9) (mC (.str "dir"))))
  (mSet 5 lAd)
  (mIfS (mAndT (mTest (mOp fEq (mVar 6) (mTup mNil))) (mTest (mOp fEq (mVar 3) (mC (.str "keep")))))
  (mRet (mTup (mCons (mC (.str "found")) (mCons lAd mNil))))
  lLink)))))
def lBody : MS := (mSeq lIf0 (mSeq lPar (mIfS (mTest (mOp fEq (mVar 8) (mC (.str ".."))))
  (mSet 5 (mSl fSl (mVar 5) mNo (mPart (mUn fNeg (mC (.int 1))))))
  (mIfS (mTest (mOp fNe (mVar 8) (mC (.str "."))))
  (mSeq (mSet 9 (mCall 3 f__law_what (mCons (mVar 0) (mCons lAd (mCons (mVar 4) mNil))))) lRest)
  mSkip))))
theorem lawwalk_eq : m__law_walk = (mSeq (mPar [5, 6] (mmDat (mIf (mTest (mOp fEq (mOp fIdx (mVar 2) (mC (.int 0))) (mC (.str "/")))) (mTup mNil) (mVar 1)) (mmDat (mOp fIdx (mVar 2) (mC (.int 1))) mmNil))) (mSeq (mFor (fun ρ => ((mCons (mC (.int 700)) mNil) ρ).bind asRng1) (.nm 7) lBody) (mRet (mTup (mCons (mC (.str "loop")) mNil))))) := rfl
abbrev vS (rs : Rows) (h pt : D) (mode : Str) (p xs : List Str) (s7 s8 s9 : Option Sl) : Rho :=
  [some (.dat (.tuple (rs.map rowD))), some (.dat h), some (.dat pt), some (.dat (.str mode)), some (.dat (.str "unknown")), some (.dat (tD p)), some (.dat (tD xs)), s7, s8, s9]
theorem wd3 {x : Str} (h : Wd x) : x = ".." ∨ x = "." ∨ (Nm x ∧ x ≠ ".." ∧ x ≠ ".") := by
  rcases h with h | h | h
  · exact .inl h
  · exact .inr (.inl h)
  · exact .inr (.inr ⟨h, h.2.2.2.1, h.2.2.2.2⟩)
theorem lloop {rs : Rows} (g : Good rs) (gr : ∀ r ∈ rs, Gr r) (hr : rs.length ≤ 60) {h pt : D} {mode : Str} (hmode : PyData.strOk mode = true) : ∀ (ds : List D) (p xs : List Str) (s7 s8 s9 : Option Sl), IsDir rs p → (∀ x ∈ xs, Wd x) → xs.length + 2 * ds.length ≤ 90000 →
    (∃ ρ', forGo (.nm 7) lBody ds (vS rs h pt mode p xs s7 s8 s9) = .next ρ' ∧ tv (lkO false rs) (decide (mode = "keep")) ds.length p xs = .loop) ∨ ∃ e, forGo (.nm 7) lBody ds (vS rs h pt mode p xs s7 s8 s9) = .ret (endD e) ∧ tv (lkO false rs) (decide (mode = "keep")) ds.length p xs = e
  | [], p, xs, s7, s8, s9, _, _, _ => .inl ⟨_, rfl, rfl⟩
  | d :: ds, p, xs, s7, s8, s9, hp, hw, hl => by
    simp only [List.length_cons] at hl ⊢
    have snd : Snd xs := fun x hx => (hw x hx).snd
    have t0 : (mTest (mOp fEq (mVar 6) (mTup mNil))) (vS rs h pt mode p xs (some (.dat d)) s8 s9) = .ok (decide (xs = [])) := E.tst (E.op (E.v rfl) (E.tup E.nil (by exact Nat.le_of_ble_eq_true rfl)) (E.eqT (ys := []) snd (fun y hy => by simp at hy)))
    have lp := hp.len g
    -- the body ends, or goes on
    have ret : ∀ e, lBody (vS rs h pt mode p xs (some (.dat d)) s8 s9) = .ret (endD e) → tv (lkO false rs) (decide (mode = "keep")) (ds.length + 1) p xs = e → (∃ ρ', forGo (.nm 7) lBody (d :: ds) (vS rs h pt mode p xs s7 s8 s9) = .next ρ' ∧ tv (lkO false rs) (decide (mode = "keep")) (ds.length + 1) p xs = .loop) ∨ ∃ e, forGo (.nm 7) lBody (d :: ds) (vS rs h pt mode p xs s7 s8 s9) = .ret (endD e) ∧ tv (lkO false rs) (decide (mode = "keep")) (ds.length + 1) p xs = e := fun e h1 h2 => by
      refine .inr ⟨e, ?_, h2⟩
      unfold forGo
      simp only [Tg.put, List.set_cons_succ, List.set_cons_zero]
      rw [h1]
    have go : ∀ (q ys : List Str) (t8 t9 : Option Sl), lBody (vS rs h pt mode p xs (some (.dat d)) s8 s9) = .next (vS rs h pt mode q ys (some (.dat d)) t8 t9) → tv (lkO false rs) (decide (mode = "keep")) (ds.length + 1) p xs = tv (lkO false rs) (decide (mode = "keep")) ds.length q ys → IsDir rs q → (∀ x ∈ ys, Wd x) → ys.length + 2 * ds.length ≤ 90000 →
        (∃ ρ', forGo (.nm 7) lBody (d :: ds) (vS rs h pt mode p xs s7 s8 s9) = .next ρ' ∧ tv (lkO false rs) (decide (mode = "keep")) (ds.length + 1) p xs = .loop) ∨ ∃ e, forGo (.nm 7) lBody (d :: ds) (vS rs h pt mode p xs s7 s8 s9) = .ret (endD e) ∧ tv (lkO false rs) (decide (mode = "keep")) (ds.length + 1) p xs = e := fun q ys t8 t9 h1 h2 h3 h4 h5 => by
      have ih := lloop g gr hr (h := h) (pt := pt) hmode ds q ys (some (.dat d)) t8 t9 h3 h4 h5
      rw [h2]
      have e : forGo (.nm 7) lBody (d :: ds) (vS rs h pt mode p xs s7 s8 s9) = forGo (.nm 7) lBody ds (vS rs h pt mode q ys (some (.dat d)) t8 t9) := by
        conv => lhs; unfold forGo
        simp only [Tg.put, List.set_cons_succ, List.set_cons_zero]
        rw [h1]
      rw [e]
      exact ih
    match xs with
    | [] => exact ret (.found p) (E.rt (E.ifT t0 (E.ret (E.tup (E.cons E.cc (E.cons (E.v rfl) E.nil)) (by exact Nat.le_of_ble_eq_true rfl))))) rfl
    | t :: ts =>
      have b0 : lIf0 (vS rs h pt mode p (t :: ts) (some (.dat d)) s8 s9) = .next (vS rs h pt mode p (t :: ts) (some (.dat d)) s8 s9) := E.ifF (by rw [t0, decide_eq_false (by simp)]) E.skip
      have b1 : lPar (vS rs h pt mode p (t :: ts) (some (.dat d)) s8 s9) = .next (vS rs h pt mode p ts (some (.dat d)) (some (.dat (.str t))) s9) :=
        E.par (E.mmD (E.op (a := tD (t :: ts)) (E.v rfl) E.cc (E.ix0 _ _)) (E.mmD (E.sl (d := tD (t :: ts)) (c := tD ts) (E.v rfl) (E.part E.cc) E.no (E.slT (cut1 _))) E.mmN)) rfl
      have hwt := hw t (List.mem_cons_self ..)
      have hws : ∀ x ∈ ts, Wd x := fun x hx => hw x (List.mem_cons_of_mem _ hx)
      have sndt : Snd ts := fun x hx => (hws x hx).snd
      simp only [List.length_cons] at hl
      have tU : (mTest (mOp fEq (mVar 8) (mC (.str "..")))) (vS rs h pt mode p ts (some (.dat d)) (some (.dat (.str t))) s9) = .ok (decide (t = "..")) := E.tst (E.op (E.v rfl) E.cc (eq_str hwt.snd (by decide +kernel)))
      have tD' : (mTest (mOp fNe (mVar 8) (mC (.str ".")))) (vS rs h pt mode p ts (some (.dat d)) (some (.dat (.str t))) s9) = .ok (!decide (t = ".")) := E.tst (E.op (E.v rfl) E.cc (ne_str hwt.snd (by decide +kernel)))
      rcases wd3 hwt with rfl | rfl | ⟨hn, hn1, hn2⟩
      · exact go p.dropLast ts _ _ (E.nx b0 (E.nx b1 (E.ifT (by rw [tU]; rfl) (E.set (slInit (E.v rfl)))))) (tv_up _ _ _) (hp.up g) hws (by omega)
      · exact go p ts _ _ (E.nx b0 (E.nx b1 (E.ifF (by rw [tU, decide_eq_false (by decide +kernel)]) (E.ifF (by rw [tD', decide_eq_true rfl]; rfl) E.skip)))) (tv_dot _ _ _) hp hws (by omega)
      · rw [decide_eq_false hn1] at tU
        rw [decide_eq_false hn2] at tD'
        have ad : ∀ s9 : Option Sl, lAd (vS rs h pt mode p ts (some (.dat d)) (some (.dat (.str t))) s9) = .ok (tD (p ++ [t])) := fun s9 => E.op (E.v rfl) (E.tup (E.cons (E.v rfl) E.nil) (by exact Nat.le_of_ble_eq_true rfl)) (add_tup (xs := p) (ys := [t]) (by simp; omega))
        have tvn := fun c => tv_name (lk := lkO false rs) (keep := decide (mode = "keep")) c p (t := t) ts hn1 hn2
        have lkw : lkO false rs (p ++ [t]) = at_ rs (p ++ [t]) := by
          unfold lkO
          cases at_ rs (p ++ [t]) <;> rfl
        rw [lkw] at tvn
        have b2 : (mSet 9 (mCall 3 f__law_what (mCons (mVar 0) (mCons lAd (mCons (mVar 4) mNil))))) (vS rs h pt mode p ts (some (.dat d)) (some (.dat (.str t))) s9) = .next (vS rs h pt mode p ts (some (.dat d)) (some (.dat (.str t))) (some (.dat (woD (at_ rs (p ++ [t])))))) :=
          E.set (E.call (E.cons (E.v rfl) (E.cons (ad s9) (E.cons (E.v rfl) E.nil))) rfl (what_ok g hr hp hn))
        have fin : ∀ {r : RSt}, lRest (vS rs h pt mode p ts (some (.dat d)) (some (.dat (.str t))) (some (.dat (woD (at_ rs (p ++ [t])))))) = r → lBody (vS rs h pt mode p (t :: ts) (some (.dat d)) s8 s9) = r := fun {r} hh => E.nx b0 (E.nx b1 (E.ifF tU (E.ifT tD' (E.nx b2 hh))))
        have q : ∀ (z : Str) (b : Bool), PyData.strOk z = true → isO (at_ rs (p ++ [t])) z = b → (mTest (mOp fEq (mVar 9) (mC (.str z)))) (vS rs h pt mode p ts (some (.dat d)) (some (.dat (.str t))) (some (.dat (woD (at_ rs (p ++ [t])))))) = .ok b := fun z b hz hb => by
          rw [← hb]
          exact E.tst (E.op (E.v rfl) E.cc (fEq_o g.sndO hz))
        have te : ∀ s9 : Option Sl, (mTest (mOp fEq (mVar 6) (mTup mNil))) (vS rs h pt mode p ts (some (.dat d)) (some (.dat (.str t))) s9) = .ok (decide (ts = [])) := fun s9 => E.tst (E.op (E.v rfl) (E.tup E.nil (by exact Nat.le_of_ble_eq_true rfl)) (E.eqT (ys := []) sndt (fun y hy => by simp at hy)))
        cases hw8 : at_ rs (p ++ [t]) with
        | none =>
          rw [hw8] at q fin tvn
          refine ret (.unk (p ++ [t]) ts) (fin (E.rt (E.ifT (q "unknown" true (by decide +kernel) (by decide +kernel)) (E.ret (E.tup (E.cons (E.v rfl) (E.cons (ad _) (E.cons (E.v rfl) E.nil))) (by exact Nat.le_of_ble_eq_true rfl)))))) (tvn _)
        | some v =>
          rw [hw8] at q fin tvn
          have nU : ∀ {m : MS} {r : RSt}, isO (some v) "unknown" = false → m (vS rs h pt mode p ts (some (.dat d)) (some (.dat (.str t))) (some (.dat (woD (some v))))) = r → mSeq (mIfS (mTest (mOp fEq (mVar 9) (mC (.str "unknown")))) (mRet (mTup (mCons (mVar 9) (mCons lAd (mCons (mVar 6) mNil))))) mSkip) m (vS rs h pt mode p ts (some (.dat d)) (some (.dat (.str t))) (some (.dat (woD (some v))))) = r := fun hh k => E.nx (E.ifF (q "unknown" false (by decide +kernel) hh) E.skip) k
          cases v with
          | absent => exact ret .missing (fin (nU (by decide +kernel) (E.rt (E.ifT (q "absent" true (by decide +kernel) (by decide +kernel)) (E.ret (E.tup (E.cons E.cc E.nil) (by exact Nat.le_of_ble_eq_true rfl))))))) (tvn _)
          | file =>
            refine ret (if ts = [] then .found (p ++ [t]) else .file) (fin (nU (by decide +kernel) (E.nx (E.ifF (q "absent" false (by decide +kernel) (by decide +kernel)) E.skip) (E.rt (E.ifT (q "file" true (by decide +kernel) (by decide +kernel)) (E.ret ?_)))))) (tvn _)
            refine (ifOk (te _)).trans ?_
            by_cases hz : ts = []
            · rw [decide_eq_true hz, if_pos rfl, if_pos hz]
              exact E.tup (E.cons E.cc (E.cons (ad _) E.nil)) (by exact Nat.le_of_ble_eq_true rfl)
            · rw [decide_eq_false hz, if_neg (by decide), if_neg hz]
              exact E.tup (E.cons E.cc E.nil) (by exact Nat.le_of_ble_eq_true rfl)
          | dir =>
            exact go (p ++ [t]) ts _ _ (fin (nU (by decide +kernel) (E.nx (E.ifF (q "absent" false (by decide +kernel) (by decide +kernel)) E.skip) (E.nx (E.ifF (q "file" false (by decide +kernel) (by decide +kernel)) E.skip) (E.ifT (q "dir" true (by decide +kernel) (by decide +kernel)) (E.set (ad _))))))) (tvn _) (.inr hw8) hws (by omega)
          | link abs ps =>
            have tk : (mTest (mOp fEq (mVar 3) (mC (.str "keep")))) (vS rs h pt mode p ts (some (.dat d)) (some (.dat (.str t))) (some (.dat (woD (some (Wh.link abs ps)))))) = .ok (decide (mode = "keep")) := E.tst (E.op (E.v rfl) E.cc (eq_str hmode (by decide +kernel)))
            have pre : ∀ {m : MS} {r : RSt}, m (vS rs h pt mode p ts (some (.dat d)) (some (.dat (.str t))) (some (.dat (woD (some (Wh.link abs ps)))))) = r → _ := fun {m r} k => nU (m := (mSeq (mIfS (mTest (mOp fEq (mVar 9) (mC (.str "absent")))) (mRet (mTup (mCons (mC (.str "missing")) mNil))) mSkip) (mSeq (mIfS (mTest (mOp fEq (mVar 9) (mC (.str "file")))) (mRet (mIf (mTest (mOp fEq (mVar 6) (mTup mNil))) (mTup (mCons (mC (.str "found")) (mCons lAd mNil))) (mTup (mCons (mC (.str "file")) mNil)))) mSkip) (mIfS (mTest (mOp fEq (mVar 9) (mC (.str "dir")))) (mSet 5 lAd) m)))) (r := r) rfl
              (E.nx (E.ifF (q "absent" false (by decide +kernel) rfl) E.skip) (E.nx (E.ifF (q "file" false (by decide +kernel) rfl) E.skip) (E.ifF (q "dir" false (by decide +kernel) rfl) k)))
            have tt := E.andT (te (some (.dat (woD (some (Wh.link abs ps)))))) tk
            by_cases hz : ts = [] ∧ decide (mode = "keep") = true
            · have hb : (decide (ts = []) && decide (mode = "keep")) = true := by rw [decide_eq_true hz.1, hz.2]; rfl
              rw [hb] at tt
              refine ret (.found (p ++ [t])) (fin (pre (E.ifT tt (E.ret (E.tup (E.cons E.cc (E.cons (ad _) E.nil)) (by exact Nat.le_of_ble_eq_true rfl)))))) ((tvn _).trans ?_)
              show (if _ then _ else _) = _
              rw [if_pos hz]
            · have hb : (decide (ts = []) && decide (mode = "keep")) = false := by
                cases h1 : (decide (ts = []) && decide (mode = "keep")) with
                | false => rfl
                | true =>
                  obtain ⟨h2, h3⟩ := Bool.and_eq_true_iff.mp h1
                  exact absurd ⟨of_decide_eq_true h2, h3⟩ hz
              rw [hb] at tt
              have hm := at_mem hw8
              obtain ⟨k1, k2, k3⟩ := (gr _ hm).2.2 abs ps rfl
              obtain ⟨_, _, k5⟩ := g.lnk _ hm abs ps rfl
              have eA : ∀ s6 : Option Sl, (mTest (mOp fEq (mOp fIdx (mVar 9) (mC (.int 0))) (mC (.str "/")))) (vS rs h pt mode p ts (some (.dat d)) (some (.dat (.str t))) (some (.dat (woD (some (Wh.link abs ps)))))) = .ok abs := fun _ => E.tst (E.op (E.op (a := pathD abs ps) (E.v rfl) E.cc (E.ix0 _ _)) E.cc (eq_start abs))
              have l1 : (mSet 5 (mIf (mTest (mOp fEq (mOp fIdx (mVar 9) (mC (.int 0))) (mC (.str "/")))) (mTup mNil) (mVar 5))) (vS rs h pt mode p ts (some (.dat d)) (some (.dat (.str t))) (some (.dat (woD (some (Wh.link abs ps)))))) = .next (vS rs h pt mode (base abs p) ts (some (.dat d)) (some (.dat (.str t))) (some (.dat (woD (some (Wh.link abs ps)))))) := by
                cases abs with
                | true => exact E.set ((ifOk (eA none)).trans ((if_pos rfl).trans (E.tup E.nil (by exact Nat.le_of_ble_eq_true rfl))))
                | false => exact E.set ((ifOk (eA none)).trans ((if_neg (by decide)).trans (E.v rfl)))
              have l2 : (mSet 6 (mOp fAdd (mOp fIdx (mVar 9) (mC (.int 1))) (mVar 6))) (vS rs h pt mode (base abs p) ts (some (.dat d)) (some (.dat (.str t))) (some (.dat (woD (some (Wh.link abs ps)))))) = .next (vS rs h pt mode (base abs p) (ps ++ ts) (some (.dat d)) (some (.dat (.str t))) (some (.dat (woD (some (Wh.link abs ps)))))) :=
                E.set (E.op (E.op (a := pathD abs ps) (E.v rfl) E.cc (E.ix1 _ _ _)) (E.v rfl) (add_tup (by omega)))
              refine go (base abs p) (ps ++ ts) _ _ (fin (pre (E.ifF tt (E.nx l1 l2)))) ((tvn _).trans ?_) (by cases abs; exact hp; exact .inl rfl) (fun x hx => (List.mem_append.mp hx).elim (k5 x) (hws x)) (by rw [List.length_append]; omega)
              show (if _ then _ else _) = _
              rw [if_neg hz]
end L67
end

section
set_option Elab.async false
set_option linter.all false
set_option maxRecDepth 100000
/-! Hd4: the naive walk of the program; both end as the walk. -/
namespace L67
open PySem PySem.Spec PyProof.Rows L2 De Nv Ma
theorem tn6 {n : Nat} (h : n ≤ 6) : tn n ≤ 127 := by
  have : n = 0 ∨ n = 1 ∨ n = 2 ∨ n = 3 ∨ n = 4 ∨ n = 5 ∨ n = 6 := by omega
  rcases this with rfl | rfl | rfl | rfl | rfl | rfl | rfl <;> decide
/-- the limit is met soon -/
theorem limB {rs : Rows} (gr : ∀ r ∈ rs, Gr r) (h6 : rs.length ≤ 6) {keep : Bool} {p X : List Str} (hX : X.length ≤ 5) {e : WEnd} (h : Lim (lkO false rs) keep p X e) : tv (lkO false rs) keep 700 p X = e ∧ nv (lkO false rs) keep 3000 p X = e := by
  have hl : ((lnkRows rs).map (·.1)).length ≤ 6 := by
    rw [List.length_map]
    exact Nat.le_trans (List.length_filter_le _ _) h6
  have ht := tn6 hl
  have hb : X.length * tn ((lnkRows rs).map (·.1)).length ≤ 5 * 127 := Nat.mul_le_mul hX ht
  obtain ⟨h1, h2⟩ := h.bound (L := (lnkRows rs).map (·.1)) fun a abs ps ha => by
    have hm := at_mem (lkO_link.mp ha)
    exact ⟨List.mem_map.mpr ⟨_, List.mem_filter.mpr ⟨hm, rfl⟩, rfl⟩, ((gr _ hm).2.2 abs ps rfl).2.1⟩
  exact ⟨h1 _ (by omega), h2 _ (by omega)⟩
theorem law_walk_ok {rs : Rows} (g : Good rs) (gr : ∀ r ∈ rs, Gr r) (h6 : rs.length ≤ 6) {here : List Str} (hh : IsDir rs here) {abs : Bool} {ps : List Str} (hps : ∀ x ∈ ps, Wd x) (hl : ps.length ≤ 5) {mode : Str} (hmode : PyData.strOk mode = true) {e : WEnd} (h : Lim (lkO false rs) (decide (mode = "keep")) (base abs here) ps e) :
    f__law_walk [.tuple (rs.map rowD), tD here, pathD abs ps, .str mode, .str "unknown"] = .ok (endD e) := by
  obtain ⟨h1, _⟩ := limB gr h6 hl h
  unfold f__law_walk
  rw [lawwalk_eq]
  show runD (mSeq _ _ [some (.dat (.tuple (rs.map rowD))), some (.dat (tD here)), some (.dat (pathD abs ps)), some (.dat (.str mode)), some (.dat (.str "unknown")), none, none, none, none, none]) = _
  have eA : (mTest (mOp fEq (mOp fIdx (mVar 2) (mC (.int 0))) (mC (.str "/")))) [some (.dat (.tuple (rs.map rowD))), some (.dat (tD here)), some (.dat (pathD abs ps)), some (.dat (.str mode)), some (.dat (.str "unknown")), none, none, none, none, none] = .ok abs := E.tst (E.op (E.op (a := pathD abs ps) (E.v rfl) E.cc (E.ix0 _ _)) E.cc (eq_start abs))
  have eB : (mIf (mTest (mOp fEq (mOp fIdx (mVar 2) (mC (.int 0))) (mC (.str "/")))) (mTup mNil) (mVar 1)) [some (.dat (.tuple (rs.map rowD))), some (.dat (tD here)), some (.dat (pathD abs ps)), some (.dat (.str mode)), some (.dat (.str "unknown")), none, none, none, none, none] = .ok (tD (base abs here)) := by
    cases abs with
    | true => exact (ifOk eA).trans ((if_pos rfl).trans (E.tup E.nil (by exact Nat.le_of_ble_eq_true rfl)))
    | false => exact (ifOk eA).trans ((if_neg (by decide)).trans (E.v rfl))
  have b1 : (mPar [5, 6] (mmDat (mIf (mTest (mOp fEq (mOp fIdx (mVar 2) (mC (.int 0))) (mC (.str "/")))) (mTup mNil) (mVar 1)) (mmDat (mOp fIdx (mVar 2) (mC (.int 1))) mmNil))) [some (.dat (.tuple (rs.map rowD))), some (.dat (tD here)), some (.dat (pathD abs ps)), some (.dat (.str mode)), some (.dat (.str "unknown")), none, none, none, none, none] = .next (vS rs (tD here) (pathD abs ps) mode (base abs here) ps none none none) :=
    E.par (E.mmD eB (E.mmD (E.op (a := pathD abs ps) (E.v rfl) E.cc (E.ix1 _ _ _)) E.mmN)) rfl
  have hd : IsDir rs (base abs here) := by cases abs; exact hh; exact .inl rfl
  have hlen : (rng 0 (700 : Int).toNat).length = 700 := by simp [rng]
  have lp := lloop g gr (by omega) (h := tD here) (pt := pathD abs ps) hmode (rng 0 (700 : Int).toNat) (base abs here) ps none none none hd hps (by rw [hlen]; omega)
  rw [hlen, h1] at lp
  have z : (fun ρ => ((mCons (mC (.int 700)) mNil) ρ).bind asRng1) (vS rs (tD here) (pathD abs ps) mode (base abs here) ps none none none) = .ok (rng 0 (700 : Int).toNat) := E.rng1 (E.cons E.cc E.nil) (by decide) (by decide)
  rcases lp with ⟨ρ', e1, e2⟩ | ⟨e', e1, e2⟩
  · rw [e2]
    exact E.run (E.nx b1 (E.nx (E.for_ z e1) (E.ret (E.tup (E.cons E.cc E.nil) (by exact Nat.le_of_ble_eq_true rfl)))))
  · rw [e2]
    exact E.run (E.nx b1 (E.rt (E.for_ z e1)))
/-! ### replace_links -/
def rTest : MT := (mTest (mOp fNe (mVar 5) (mTup mNil)))
def rPar : MS := (mPar [7, 5] (mmDat (mOp fIdx (mVar 5) (mC (.int 0))) (mmDat (mSl fSl (mVar 5) (mPart (mC (.int 1))) mNo) mmNil)))
def rLink : MS := (mIfS (mTest (mOp fEq (mVar 6) (mC (.int 3000))))
  (mRet (mC (.tuple [(.str "loop")])))
  (mSeq (mSet 6 (mOp fAdd (mVar 6) (mC (.int 1)))) (mPar [4, 5] (mmDat (mIf (mTest (mOp fEq (mOp fIdx (mVar 9) (mC (.int 0))) (mC (.str "/")))) (mTup mNil) (mVar 4)) (mmDat (mOp fAdd (mOp fIdx (mVar 9) (mC (.int 1))) (mVar 5)) mmNil)))))
def rRest : MS := (mSeq (mIfS (mTest (mOp fEq (mVar 9) (mC (.str "unknown"))))
  (mRet (mTup (mCons (mC (.str "unknown")) (mCons (mVar 8) (mCons (mVar 5) mNil)))))
  mSkip) (mSeq (mIfS (mTest (mOp fEq (mVar 9) (mC (.str "absent"))))
  (mRet (mTup (mCons (mC (.str "missing")) mNil)))
  mSkip) (mSeq (mIfS (mTest (mOp fEq (mVar 9) (mC (.str "file"))))
  (mRet (mIf (mTest (mOp fEq (mVar 5) (mTup mNil))) (mTup (mCons (mC (.str "found")) (mCons (mVar 8) mNil))) (mTup (mCons (mC (.str "file")) mNil))))
  mSkip) (mIfS (mTest (mOp fEq (mVar 9) (mC (.str "dir"))))
  (mSet 4 (mVar 8))
  (mIfS (mAndT (mTest (mOp fEq (mVar 5) (mTup mNil))) (mTest (mOp fEq (mVar 3) (mC (.str "keep")))))
  (mRet (mTup (mCons (mC (.str "found")) (mCons (mVar 8) mNil))))
  rLink)))))
def rBody : MS := (mSeq rPar (mIfS (mTest (mOp fEq (mVar 7) (mC (.str ".."))))
  (mSet 4 (mSl fSl (mVar 4) mNo (mPart (mUn fNeg (mC (.int 1))))))
  (mIfS (mTest (mOp fNe (mVar 7) (mC (.str "."))))
  (mSeq (mSet 8 (mOp fAdd (mVar 4) (mTup (mCons (mVar 7) mNil)))) (mSeq (mSet 9 (mCall 2 f_known_at (mCons (mVar 0) (mCons (mVar 8) mNil)))) rRest))
  mSkip)))
def rEnd : MS := (mRet (mTup (mCons (mC (.str "found")) (mCons (mVar 4) mNil))))
theorem repl_eq : m_replace_links = (mSeq (mPar [4, 5, 6] (mmDat (mIf (mTest (mOp fEq (mOp fIdx (mVar 2) (mC (.int 0))) (mC (.str "/")))) (mTup mNil) (mVar 1)) (mmDat (mOp fIdx (mVar 2) (mC (.int 1))) (mmDat (mC (.int 0)) mmNil)))) (mSeq (whileN rTest rBody fuel) rEnd)) := rfl
abbrev rS (rs : Rows) (h pt : D) (mode : Str) (p xs : List Str) (n : Nat) (s7 s8 s9 : Option Sl) : Rho :=
  [some (.dat (.dict (rs.map rowP))), some (.dat h), some (.dat pt), some (.dat (.str mode)), some (.dat (tD p)), some (.dat (tD xs)), some (.dat (.int (n : Int))), s7, s8, s9]
theorem rloop {rs : Rows} (g : Good rs) (gr : ∀ r ∈ rs, Gr r) {h pt : D} {mode : Str} (hmode : PyData.strOk mode = true) : ∀ (f : Nat) (p xs : List Str) (n : Nat) (s7 s8 s9 : Option Sl), IsDir rs p → (∀ x ∈ xs, Wd x) → n ≤ 3000 → xs.length + 2 * (3000 - n) < f → xs.length + 2 * (3000 - n) ≤ 90000 →
    mSeq (whileN rTest rBody f) rEnd (rS rs h pt mode p xs n s7 s8 s9) = .ret (endD (nv (lkO false rs) (decide (mode = "keep")) (3000 - n) p xs))
  | 0, _, _, _, _, _, _, _, _, _, hf, _ => by omega
  | f + 1, p, xs, n, s7, s8, s9, hp, hw, hn, hf, hl => by
    have snd : Snd xs := fun x hx => (hw x hx).snd
    have h0 : rTest (rS rs h pt mode p xs n s7 s8 s9) = .ok (!decide (xs = [])) := by
      have := E.ne_gen (E.cmp_tD snd) (E.cmp_tD (xs := []) fun y hy => by simp at hy)
      rw [eqv_tD] at this
      exact E.tst (E.op (E.v rfl) (E.tup E.nil (by exact Nat.le_of_ble_eq_true rfl)) this)
    have lp := hp.len g
    match xs with
    | [] =>
      rw [mSeq_next (while_end h0), nv_nil]
      exact E.ret (E.tup (E.cons E.cc (E.cons (E.v rfl) E.nil)) (by exact Nat.le_of_ble_eq_true rfl))
    | t :: ts =>
      have h0 : rTest (rS rs h pt mode p (t :: ts) n s7 s8 s9) = .ok true := by rw [h0]; simp
      have hwt := hw t (List.mem_cons_self ..)
      have hws : ∀ x ∈ ts, Wd x := fun x hx => hw x (List.mem_cons_of_mem _ hx)
      have sndt : Snd ts := fun x hx => (hws x hx).snd
      simp only [List.length_cons] at hl hf
      have b1 : rPar (rS rs h pt mode p (t :: ts) n s7 s8 s9) = .next (rS rs h pt mode p ts n (some (.dat (.str t))) s8 s9) :=
        E.par (E.mmD (E.op (a := tD (t :: ts)) (E.v rfl) E.cc (E.ix0 _ _)) (E.mmD (E.sl (d := tD (t :: ts)) (c := tD ts) (E.v rfl) (E.part E.cc) E.no (E.slT (cut1 _))) E.mmN)) rfl
      have tU : (mTest (mOp fEq (mVar 7) (mC (.str "..")))) (rS rs h pt mode p ts n (some (.dat (.str t))) s8 s9) = .ok (decide (t = "..")) := E.tst (E.op (E.v rfl) E.cc (eq_str hwt.snd (by decide +kernel)))
      have tD' : (mTest (mOp fNe (mVar 7) (mC (.str ".")))) (rS rs h pt mode p ts n (some (.dat (.str t))) s8 s9) = .ok (!decide (t = ".")) := E.tst (E.op (E.v rfl) E.cc (ne_str hwt.snd (by decide +kernel)))
      have ret : ∀ e, rBody (rS rs h pt mode p (t :: ts) n s7 s8 s9) = .ret (endD e) → nv (lkO false rs) (decide (mode = "keep")) (3000 - n) p (t :: ts) = e → mSeq (whileN rTest rBody (f + 1)) rEnd (rS rs h pt mode p (t :: ts) n s7 s8 s9) = .ret (endD (nv (lkO false rs) (decide (mode = "keep")) (3000 - n) p (t :: ts))) := fun e h1 h2 => by
        rw [h2]
        exact mSeq_ret (while_ret h0 h1)
      have go : ∀ (q ys : List Str) (m : Nat) (t7 t8 t9 : Option Sl), rBody (rS rs h pt mode p (t :: ts) n s7 s8 s9) = .next (rS rs h pt mode q ys m t7 t8 t9) → nv (lkO false rs) (decide (mode = "keep")) (3000 - n) p (t :: ts) = nv (lkO false rs) (decide (mode = "keep")) (3000 - m) q ys → IsDir rs q → (∀ x ∈ ys, Wd x) → m ≤ 3000 → ys.length + 2 * (3000 - m) < f → ys.length + 2 * (3000 - m) ≤ 90000 →
          mSeq (whileN rTest rBody (f + 1)) rEnd (rS rs h pt mode p (t :: ts) n s7 s8 s9) = .ret (endD (nv (lkO false rs) (decide (mode = "keep")) (3000 - n) p (t :: ts))) := fun q ys m t7 t8 t9 h1 h2 h3 h4 h5 h6 h7 => by
        rw [h2, ← rloop g gr (h := h) (pt := pt) hmode f q ys m t7 t8 t9 h3 h4 h5 h6 h7]
        unfold mSeq
        rw [while_next h0 h1]
      rcases wd3 hwt with rfl | rfl | ⟨hn3, hn1, hn2⟩
      · exact go p.dropLast ts n _ _ _ (E.nx b1 (E.ifT (by rw [tU]; rfl) (E.set (slInit (E.v rfl))))) (nv_up _ _ _) (hp.up g) hws hn (by omega) (by omega)
      · exact go p ts n _ _ _ (E.nx b1 (E.ifF (by rw [tU, decide_eq_false (by decide +kernel)]) (E.ifF (by rw [tD', decide_eq_true rfl]; rfl) E.skip))) (nv_dot _ _ _) hp hws hn (by omega) (by omega)
      · rw [decide_eq_false hn1] at tU
        rw [decide_eq_false hn2] at tD'
        have b2 : (mSet 8 (mOp fAdd (mVar 4) (mTup (mCons (mVar 7) mNil)))) (rS rs h pt mode p ts n (some (.dat (.str t))) s8 s9) = .next (rS rs h pt mode p ts n (some (.dat (.str t))) (some (.dat (tD (p ++ [t])))) s9) := E.set (E.op (E.v rfl) (E.tup (E.cons (E.v rfl) E.nil) (by exact Nat.le_of_ble_eq_true rfl)) (add_tup (xs := p) (ys := [t]) (by simp; omega)))
        have nvn := nv_name (lk := lkO false rs) (keep := decide (mode = "keep")) (3000 - n) p (t := t) ts hn1 hn2
        have lkw : lkO false rs (p ++ [t]) = at_ rs (p ++ [t]) := by
          unfold lkO
          cases at_ rs (p ++ [t]) <;> rfl
        rw [lkw] at nvn
        have b3 : (mSet 9 (mCall 2 f_known_at (mCons (mVar 0) (mCons (mVar 8) mNil)))) (rS rs h pt mode p ts n (some (.dat (.str t))) (some (.dat (tD (p ++ [t])))) s9) = .next (rS rs h pt mode p ts n (some (.dat (.str t))) (some (.dat (tD (p ++ [t])))) (some (.dat (woD (at_ rs (p ++ [t])))))) :=
          E.set (E.call (E.cons (E.v rfl) (E.cons (E.v rfl) E.nil)) rfl (known_ok g hp hn3))
        have fin : ∀ {r : RSt}, rRest (rS rs h pt mode p ts n (some (.dat (.str t))) (some (.dat (tD (p ++ [t])))) (some (.dat (woD (at_ rs (p ++ [t])))))) = r → rBody (rS rs h pt mode p (t :: ts) n s7 s8 s9) = r := fun {r} hh => E.nx b1 (E.ifF tU (E.ifT tD' (E.nx b2 (E.nx b3 hh))))
        have q : ∀ (z : Str) (b : Bool), PyData.strOk z = true → isO (at_ rs (p ++ [t])) z = b → (mTest (mOp fEq (mVar 9) (mC (.str z)))) (rS rs h pt mode p ts n (some (.dat (.str t))) (some (.dat (tD (p ++ [t])))) (some (.dat (woD (at_ rs (p ++ [t])))))) = .ok b := fun z b hz hb => by
          rw [← hb]
          exact E.tst (E.op (E.v rfl) E.cc (fEq_o g.sndO hz))
        have te : ∀ s9 : Option Sl, (mTest (mOp fEq (mVar 5) (mTup mNil))) (rS rs h pt mode p ts n (some (.dat (.str t))) (some (.dat (tD (p ++ [t])))) s9) = .ok (decide (ts = [])) := fun s9 => E.tst (E.op (E.v rfl) (E.tup E.nil (by exact Nat.le_of_ble_eq_true rfl)) (E.eqT (ys := []) sndt (fun y hy => by simp at hy)))
        cases hw8 : at_ rs (p ++ [t]) with
        | none =>
          rw [hw8] at q fin nvn
          exact ret (.unk (p ++ [t]) ts) (fin (E.rt (E.ifT (q "unknown" true (by decide +kernel) (by decide +kernel)) (E.ret (E.tup (E.cons E.cc (E.cons (E.v rfl) (E.cons (E.v rfl) E.nil))) (by exact Nat.le_of_ble_eq_true rfl)))))) nvn
        | some v =>
          rw [hw8] at q fin nvn
          have nU : ∀ {m : MS} {r : RSt}, isO (some v) "unknown" = false → m (rS rs h pt mode p ts n (some (.dat (.str t))) (some (.dat (tD (p ++ [t])))) (some (.dat (woD (some v))))) = r → mSeq (mIfS (mTest (mOp fEq (mVar 9) (mC (.str "unknown")))) (mRet (mTup (mCons (mC (.str "unknown")) (mCons (mVar 8) (mCons (mVar 5) mNil))))) mSkip) m (rS rs h pt mode p ts n (some (.dat (.str t))) (some (.dat (tD (p ++ [t])))) (some (.dat (woD (some v))))) = r := fun hh k => E.nx (E.ifF (q "unknown" false (by decide +kernel) hh) E.skip) k
          cases v with
          | absent => exact ret .missing (fin (nU (by decide +kernel) (E.rt (E.ifT (q "absent" true (by decide +kernel) (by decide +kernel)) (E.ret (E.tup (E.cons E.cc E.nil) (by exact Nat.le_of_ble_eq_true rfl))))))) nvn
          | file =>
            refine ret (if ts = [] then .found (p ++ [t]) else .file) (fin (nU (by decide +kernel) (E.nx (E.ifF (q "absent" false (by decide +kernel) (by decide +kernel)) E.skip) (E.rt (E.ifT (q "file" true (by decide +kernel) (by decide +kernel)) (E.ret ?_)))))) nvn
            refine (ifOk (te _)).trans ?_
            by_cases hz : ts = []
            · rw [decide_eq_true hz, if_pos rfl, if_pos hz]
              exact E.tup (E.cons E.cc (E.cons (E.v rfl) E.nil)) (by exact Nat.le_of_ble_eq_true rfl)
            · rw [decide_eq_false hz, if_neg (by decide), if_neg hz]
              exact E.tup (E.cons E.cc E.nil) (by exact Nat.le_of_ble_eq_true rfl)
          | dir =>
            exact go (p ++ [t]) ts n _ _ _ (fin (nU (by decide +kernel) (E.nx (E.ifF (q "absent" false (by decide +kernel) (by decide +kernel)) E.skip) (E.nx (E.ifF (q "file" false (by decide +kernel) (by decide +kernel)) E.skip) (E.ifT (q "dir" true (by decide +kernel) (by decide +kernel)) (E.set (E.v rfl))))))) nvn (.inr hw8) hws hn (by omega) (by omega)
          | link abs ps =>
            have tk : (mTest (mOp fEq (mVar 3) (mC (.str "keep")))) (rS rs h pt mode p ts n (some (.dat (.str t))) (some (.dat (tD (p ++ [t])))) (some (.dat (woD (some (Wh.link abs ps)))))) = .ok (decide (mode = "keep")) := E.tst (E.op (E.v rfl) E.cc (eq_str hmode (by decide +kernel)))
            have pre : ∀ {m : MS} {r : RSt}, m (rS rs h pt mode p ts n (some (.dat (.str t))) (some (.dat (tD (p ++ [t])))) (some (.dat (woD (some (Wh.link abs ps)))))) = r → _ := fun {m r} k => nU (m := (mSeq (mIfS (mTest (mOp fEq (mVar 9) (mC (.str "absent")))) (mRet (mTup (mCons (mC (.str "missing")) mNil))) mSkip) (mSeq (mIfS (mTest (mOp fEq (mVar 9) (mC (.str "file")))) (mRet (mIf (mTest (mOp fEq (mVar 5) (mTup mNil))) (mTup (mCons (mC (.str "found")) (mCons (mVar 8) mNil))) (mTup (mCons (mC (.str "file")) mNil)))) mSkip) (mIfS (mTest (mOp fEq (mVar 9) (mC (.str "dir")))) (mSet 4 (mVar 8)) m)))) (r := r) rfl
              (E.nx (E.ifF (q "absent" false (by decide +kernel) rfl) E.skip) (E.nx (E.ifF (q "file" false (by decide +kernel) rfl) E.skip) (E.ifF (q "dir" false (by decide +kernel) rfl) k)))
            have tt := E.andT (te (some (.dat (woD (some (Wh.link abs ps)))))) tk
            by_cases hz : ts = [] ∧ decide (mode = "keep") = true
            · have hb : (decide (ts = []) && decide (mode = "keep")) = true := by rw [decide_eq_true hz.1, hz.2]; rfl
              rw [hb] at tt
              exact ret (.found (p ++ [t])) (fin (pre (E.ifT tt (E.ret (E.tup (E.cons E.cc (E.cons (E.v rfl) E.nil)) (by exact Nat.le_of_ble_eq_true rfl)))))) (nvn.trans (nvL_kept hz))
            · have hb : (decide (ts = []) && decide (mode = "keep")) = false := by
                cases h1 : (decide (ts = []) && decide (mode = "keep")) with
                | false => rfl
                | true =>
                  obtain ⟨h2, h3⟩ := Bool.and_eq_true_iff.mp h1
                  exact absurd ⟨of_decide_eq_true h2, h3⟩ hz
              rw [hb] at tt
              rw [nvL_link hz] at nvn
              have hm := at_mem hw8
              obtain ⟨k1, k2, k3⟩ := (gr _ hm).2.2 abs ps rfl
              obtain ⟨_, _, k5⟩ := g.lnk _ hm abs ps rfl
              have t3 : (mTest (mOp fEq (mVar 6) (mC (.int 3000)))) (rS rs h pt mode p ts n (some (.dat (.str t))) (some (.dat (tD (p ++ [t])))) (some (.dat (woD (some (Wh.link abs ps)))))) = .ok (decide ((n : Int) = 3000)) := E.tst (E.op (E.v rfl) E.cc (E.eqI _ _))
              by_cases hn30 : n = 3000
              · rw [decide_eq_true (by omega)] at t3
                rw [if_pos (by omega)] at nvn
                exact ret .loop (fin (pre (E.ifF tt (E.ifT t3 (E.ret E.cc))))) nvn
              · rw [decide_eq_false (by omega)] at t3
                rw [if_neg (by omega)] at nvn
                have eA : ∀ m : Nat, (mTest (mOp fEq (mOp fIdx (mVar 9) (mC (.int 0))) (mC (.str "/")))) (rS rs h pt mode p ts m (some (.dat (.str t))) (some (.dat (tD (p ++ [t])))) (some (.dat (woD (some (Wh.link abs ps)))))) = .ok abs := fun _ => E.tst (E.op (E.op (a := pathD abs ps) (E.v rfl) E.cc (E.ix0 _ _)) E.cc (eq_start abs))
                have l1 : (mSet 6 (mOp fAdd (mVar 6) (mC (.int 1)))) (rS rs h pt mode p ts n (some (.dat (.str t))) (some (.dat (tD (p ++ [t])))) (some (.dat (woD (some (Wh.link abs ps)))))) = .next (rS rs h pt mode p ts (n + 1) (some (.dat (.str t))) (some (.dat (tD (p ++ [t])))) (some (.dat (woD (some (Wh.link abs ps)))))) := E.set (E.op (E.v rfl) E.cc (E.addI _ _))
                have eB : (mIf (mTest (mOp fEq (mOp fIdx (mVar 9) (mC (.int 0))) (mC (.str "/")))) (mTup mNil) (mVar 4)) (rS rs h pt mode p ts (n + 1) (some (.dat (.str t))) (some (.dat (tD (p ++ [t])))) (some (.dat (woD (some (Wh.link abs ps)))))) = .ok (tD (base abs p)) := by
                  cases abs with
                  | true => exact (ifOk (eA _)).trans ((if_pos rfl).trans (E.tup E.nil (by exact Nat.le_of_ble_eq_true rfl)))
                  | false => exact (ifOk (eA _)).trans ((if_neg (by decide)).trans (E.v rfl))
                have l2 : (mPar [4, 5] (mmDat (mIf (mTest (mOp fEq (mOp fIdx (mVar 9) (mC (.int 0))) (mC (.str "/")))) (mTup mNil) (mVar 4)) (mmDat (mOp fAdd (mOp fIdx (mVar 9) (mC (.int 1))) (mVar 5)) mmNil))) (rS rs h pt mode p ts (n + 1) (some (.dat (.str t))) (some (.dat (tD (p ++ [t])))) (some (.dat (woD (some (Wh.link abs ps)))))) = .next (rS rs h pt mode (base abs p) (ps ++ ts) (n + 1) (some (.dat (.str t))) (some (.dat (tD (p ++ [t])))) (some (.dat (woD (some (Wh.link abs ps)))))) :=
                  E.par (E.mmD eB (E.mmD (E.op (E.op (a := pathD abs ps) (E.v rfl) E.cc (E.ix1 _ _ _)) (E.v rfl) (add_tup (by omega))) E.mmN)) rfl
                refine go (base abs p) (ps ++ ts) (n + 1) _ _ _ (fin (pre (E.ifF tt (E.ifF t3 (E.nx l1 l2))))) (nvn.trans (by rw [Nat.sub_sub])) (by cases abs; exact hp; exact .inl rfl) (fun x hx => (List.mem_append.mp hx).elim (k5 x) (hws x)) (by omega) (by rw [List.length_append]; omega) (by rw [List.length_append]; omega)
theorem replace_ok {rs : Rows} (g : Good rs) (gr : ∀ r ∈ rs, Gr r) (h6 : rs.length ≤ 6) {here : List Str} (hh : IsDir rs here) {abs : Bool} {ps : List Str} (hps : ∀ x ∈ ps, Wd x) (hl : ps.length ≤ 5) {mode : Str} (hmode : PyData.strOk mode = true) {e : WEnd} (h : Lim (lkO false rs) (decide (mode = "keep")) (base abs here) ps e) :
    f_replace_links [.dict (rs.map rowP), tD here, pathD abs ps, .str mode] = .ok (endD e) := by
  obtain ⟨_, h1⟩ := limB gr h6 hl h
  unfold f_replace_links
  rw [repl_eq]
  show runD (mSeq _ _ [some (.dat (.dict (rs.map rowP))), some (.dat (tD here)), some (.dat (pathD abs ps)), some (.dat (.str mode)), none, none, none, none, none, none]) = _
  have eA : (mTest (mOp fEq (mOp fIdx (mVar 2) (mC (.int 0))) (mC (.str "/")))) [some (.dat (.dict (rs.map rowP))), some (.dat (tD here)), some (.dat (pathD abs ps)), some (.dat (.str mode)), none, none, none, none, none, none] = .ok abs := E.tst (E.op (E.op (a := pathD abs ps) (E.v rfl) E.cc (E.ix0 _ _)) E.cc (eq_start abs))
  have eB : (mIf (mTest (mOp fEq (mOp fIdx (mVar 2) (mC (.int 0))) (mC (.str "/")))) (mTup mNil) (mVar 1)) [some (.dat (.dict (rs.map rowP))), some (.dat (tD here)), some (.dat (pathD abs ps)), some (.dat (.str mode)), none, none, none, none, none, none] = .ok (tD (base abs here)) := by
    cases abs with
    | true => exact (ifOk eA).trans ((if_pos rfl).trans (E.tup E.nil (by exact Nat.le_of_ble_eq_true rfl)))
    | false => exact (ifOk eA).trans ((if_neg (by decide)).trans (E.v rfl))
  have b1 : (mPar [4, 5, 6] (mmDat (mIf (mTest (mOp fEq (mOp fIdx (mVar 2) (mC (.int 0))) (mC (.str "/")))) (mTup mNil) (mVar 1)) (mmDat (mOp fIdx (mVar 2) (mC (.int 1))) (mmDat (mC (.int 0)) mmNil)))) [some (.dat (.dict (rs.map rowP))), some (.dat (tD here)), some (.dat (pathD abs ps)), some (.dat (.str mode)), none, none, none, none, none, none] = .next (rS rs (tD here) (pathD abs ps) mode (base abs here) ps 0 none none none) :=
    E.par (E.mmD eB (E.mmD (E.op (a := pathD abs ps) (E.v rfl) E.cc (E.ix1 _ _ _)) (E.mmD E.cc E.mmN))) rfl
  have hd : IsDir rs (base abs here) := by cases abs; exact hh; exact .inl rfl
  have lp := rloop g gr (h := tD here) (pt := pathD abs ps) hmode fuel (base abs here) ps 0 none none none hd hps (by omega) (by refine Nat.lt_of_lt_of_le (m := 20000) ?_ (by decide); omega) (by omega)
  rw [show 3000 - 0 = 3000 from rfl, h1] at lp
  exact E.run (E.nx b1 lp)
end L67
end

section
set_option Elab.async false
set_option linter.all false
set_option maxRecDepth 100000
/-! Hd5: naive_walk; the links without an end, three ways. -/
namespace L67
open PySem PySem.Spec PyProof.Rows L2 De Nv Ma
theorem check_dir_ok {rs : Rows} (g : Good rs) (hr : rs.length ≤ 60) {here : List Str} (hh : IsDir rs here) : f_check_directory [.tuple (rs.map rowD), tD here] = .ok .none := by
  unfold f_check_directory m_check_directory
  show runD (mIfS _ _ _ [some (.dat (.tuple (rs.map rowD))), some (.dat (tD here))]) = _
  rw [stuckIf (tstOk (callOk (consOk vOk (consOk vOk rfl)) (isDirectory_ok g hr hh)))]
  rfl
theorem check_path_ok {abs : Bool} {ps : List Str} (hps : ∀ x ∈ ps, Wd x) (hl : ps.length ≤ 12) (hne : abs = false → ps ≠ []) : f_check_path [pathD abs ps] = .ok .none := by
  unfold f_check_path m_check_path
  show runD (mIfS _ _ _ [some (.dat (pathD abs ps))]) = _
  rw [stuckIf (tstOk (callOk (consOk vOk rfl) (isPath_ok hps hl hne)))]
  rfl
theorem check_mode_ok {mode : Str} (hmode : mode = "follow" ∨ mode = "keep") : f_check_mode [.str mode] = .ok .none := by
  unfold f_check_mode m_check_mode
  show runD (mIfS _ _ _ [some (.dat (.str mode))]) = _
  have t : (mOrT (mNotT (mTest (mIsi "str" (mVar 0)))) (mTest (mOp fNotIn (mVar 0) (mTup (mCons (mC (.str "follow")) (mCons (mC (.str "keep")) mNil)))))) [some (.dat (.str mode))] = .ok false := by
    refine orT_ok (b := false) (notT_ok (b := true) (tstOk (isiOk vOk (isi_str _)))) (tstOk (opOk vOk (tupOk (consOk rfl (consOk rfl rfl))) ?_))
    rcases hmode with rfl | rfl <;> exact isF_ok (by decide +kernel)
  rw [skipIf t]
  rfl
theorem check_walk_ok {rs : Rows} (g : Good rs) (ho : Ord rs) (hr : rs.length ≤ 60) {here : List Str} (hh : IsDir rs here) {abs : Bool} {ps : List Str} (hps : ∀ x ∈ ps, Wd x) (hl : ps.length ≤ 12) (hne : abs = false → ps ≠ []) {mode : Str} (hmode : mode = "follow" ∨ mode = "keep") :
    f_check_walk [.tuple (rs.map rowD), tD here, pathD abs ps, .str mode] = .ok .none := by
  unfold f_check_walk m_check_walk
  show runD (mSeq _ _ [some (.dat (.tuple (rs.map rowD))), some (.dat (tD here)), some (.dat (pathD abs ps)), some (.dat (.str mode))]) = _
  exact E.runN (E.nx (E.expr (E.call (E.cons (E.v rfl) E.nil) rfl (check_chart_ok g ho hr))) (E.nx (E.expr (E.call (E.cons (E.v rfl) (E.cons (E.v rfl) E.nil)) rfl (check_dir_ok g hr hh))) (E.nx (E.expr (E.call (E.cons (E.v rfl) E.nil) rfl (check_path_ok hps hl hne))) (E.expr (E.call (E.cons (E.v rfl) E.nil) rfl (check_mode_ok hmode))))))
theorem naive_walk_ok {rs : Rows} (g : Good rs) (ho : Ord rs) (gr : ∀ r ∈ rs, Gr r) (h6 : rs.length ≤ 6) {here : List Str} (hh : IsDir rs here) {abs : Bool} {ps : List Str} (hps : ∀ x ∈ ps, Wd x) (hl : ps.length ≤ 5) (hne : abs = false → ps ≠ []) {mode : Str} (hmode : mode = "follow" ∨ mode = "keep") {e : WEnd} (h : Lim (lkO false rs) (decide (mode = "keep")) (base abs here) ps e) :
    f_naive_walk [.tuple (rs.map rowD), tD here, pathD abs ps, .str mode] = .ok (endD e) := by
  have hm : PyData.strOk mode = true := by rcases hmode with rfl | rfl <;> decide +kernel
  unfold f_naive_walk m_naive_walk
  show runD (mSeq _ _ [some (.dat (.tuple (rs.map rowD))), some (.dat (tD here)), some (.dat (pathD abs ps)), some (.dat (.str mode))]) = _
  exact E.run (E.nx (E.expr (E.call (E.cons (E.v rfl) (E.cons (E.v rfl) (E.cons (E.v rfl) (E.cons (E.v rfl) E.nil)))) rfl (check_walk_ok g ho (by omega) hh hps (by omega) hne hmode))) (E.ret (E.call (E.cons (E.callB (E.cons (E.v rfl) E.nil) (dict_rows g (by omega))) (E.cons (E.v rfl) (E.cons (E.v rfl) (E.cons (E.v rfl) E.nil)))) rfl (replace_ok g gr h6 hh hps hl hm h))))
theorem lim_snd {rs : Rows} (g : Good rs) {keep : Bool} {p ps : List Str} (hp : IsDir rs p) (hps : ∀ x ∈ ps, Wd x) {e : WEnd} (h : Lim (lkO false rs) keep p ps e) : SndE e := by
  obtain ⟨B, h⟩ := h
  rw [← h B (Nat.le_refl _)]
  exact nv_snd (lkO_snd g) B p ps (fun x hx => (hps x hx).snd) (fun x hx => (hp.names g x hx).2.2.1)
theorem eq_loop {e : WEnd} (h : SndE e) : fEq (endD e) (.tuple [.str "loop"]) = .ok (.bool (decide (e = .loop))) := by
  have c1 : E.Cmp (endD e) := E.cmp_end h
  have c2 : E.Cmp (endD .loop) := E.cmp_end (e := .loop) trivial
  by_cases hz : e = .loop
  · subst hz
    rw [decide_eq_true rfl]
    exact E.eq_same c2
  · rw [decide_eq_false hz]
    exact E.eq_diff c1 c2 fun hh => hz (E.endD_inj hh)
/-- through directories -/
theorem nv_dirs {lk : Look} {keep : Bool} (c : Nat) (X : List Str) : ∀ (p q : List Str), (∀ x ∈ p, x ≠ ".." ∧ x ≠ ".") → (∀ i, i + 1 ≤ p.length → lk (q ++ p.take (i + 1)) = some .dir) → nv lk keep c q (p ++ X) = nv lk keep c (q ++ p) X
  | [], q, _, _ => by rw [List.append_nil]; rfl
  | t :: p, q, h1, h2 => by
    obtain ⟨n1, n2⟩ := h1 t (List.mem_cons_self ..)
    have hd := h2 0 (by simp)
    rw [List.cons_append, nv_name _ _ _ n1 n2]
    have hd : lk (q ++ [t]) = some .dir := by simpa using hd
    rw [hd]
    show nv lk keep c (q ++ [t]) (p ++ X) = _
    rw [nv_dirs c X p (q ++ [t]) (fun x hx => h1 x (List.mem_cons_of_mem _ hx)) (fun i hi => by
      have := h2 (i + 1) (by simp only [List.length_cons]; omega)
      rw [List.take_succ_cons] at this
      rw [List.append_assoc]
      exact this), List.append_assoc]
    rfl
variable {rs : Rows}
/-- the link r has no end -/
noncomputable def lb (rs : Rows) (r : List Str × Wh) : Bool := open Classical in decide (Lim (lkO false rs) false r.1.dropLast (r.1.drop (r.1.length - 1)) .loop)
structure LkF (rs : Rows) (r : List Str × Wh) (e : WEnd) : Prop where
  s : SndE e
  fe : f_find_end [.tuple (rs.map rowD), tD r.1] = .ok (endD e)
  rp : f_replace_links [.dict (rs.map rowP), tD r.1.dropLast, pathD false (r.1.drop (r.1.length - 1)), .str "follow"] = .ok (endD e)
  lw : f__law_walk [.tuple (rs.map rowD), tD [], pathD true r.1, .str "follow", .str "unknown"] = .ok (endD e)
  b : decide (e = .loop) = lb rs r
theorem link_facts (g : Good rs) (gr : ∀ r ∈ rs, Gr r) (h6 : rs.length ≤ 6) {r : List Str × Wh} (hr : r ∈ rs) : ∃ e, LkF rs r e := by
  have ne := g.ne r hr
  have nm := g.nm r hr
  have hsub : ∀ x ∈ r.1.drop (r.1.length - 1), x ∈ r.1 := fun x hx => List.mem_of_mem_drop hx
  have hw : ∀ x ∈ r.1.drop (r.1.length - 1), Wd x := fun x hx => .inr (.inr (nm x (hsub x hx)))
  have hlen : (r.1.drop (r.1.length - 1)).length = 1 := by
    have := List.length_pos_iff.mpr ne
    rw [List.length_drop]; omega
  have hd : IsDir rs r.1.dropLast := (g.par r hr).imp _root_.id fun h => at_of g.nd h
  have kf : decide (("follow" : Str) = "keep") = false := by decide +kernel
  obtain ⟨e, e1, e2, _⟩ := result_ok g (by omega : rs.length ≤ 60) hd (abs := false) hw (by omega) (mode := "follow") (by decide +kernel)
  have hbase : base false r.1.dropLast = r.1.dropLast := rfl
  rw [hbase] at e2
  have S := lim_snd g hd hw e2
  have l3 := (gr r hr).1
  refine ⟨e, S, ?_, replace_ok g gr h6 hd hw (by omega) (by decide +kernel) e2, ?_, ?_⟩
  · unfold f_find_end m_find_end
    show runD (mRet _ [some (.dat (.tuple (rs.map rowD))), some (.dat (tD r.1))]) = _
    exact E.run (E.ret (E.call (E.cons (E.v rfl) (E.cons (slInit (E.v rfl)) (E.cons (E.tup (E.cons E.cc (E.cons (E.sl (d := tD r.1) (E.v rfl) (E.part (E.un E.cc (E.neg _))) E.no (E.slT (cutLast _))) E.nil)) (by exact Nat.le_of_ble_eq_true rfl)) (E.cons E.cc E.nil)))) rfl e1))
  · refine law_walk_ok g gr h6 (.inl rfl) (abs := true) (fun x hx => .inr (.inr (nm x hx))) (by omega) (by decide +kernel) ?_
    rw [kf] at e2 ⊢
    obtain ⟨B, hB⟩ := e2
    refine ⟨B, fun N hN => ?_⟩
    have := nv_dirs (lk := lkO false rs) (keep := false) N (r.1.drop (r.1.length - 1)) r.1.dropLast [] (fun x hx => by
      have := nm x (List.dropLast_subset _ hx)
      exact ⟨this.2.2.2.1, this.2.2.2.2⟩) (fun i hi => by
      rw [List.nil_append]
      exact lkO_dir.mpr (pre_dirs g hd i hi))
    rw [List.nil_append, ← split_last ne] at this
    show nv (lkO false rs) false N [] r.1 = e
    rw [this]
    exact hB N hN
  · rw [kf] at e2
    unfold lb
    by_cases hz : Lim (lkO false rs) false r.1.dropLast (r.1.drop (r.1.length - 1)) .loop
    · rw [@decide_eq_true _ (Classical.propDecidable _) hz, decide_eq_true (e2.uniq hz)]
    · rw [@decide_eq_false _ (Classical.propDecidable _) hz, decide_eq_false (p := e = .loop) (fun h => hz (by rw [← h]; exact e2))]
noncomputable abbrev endL (rs : Rows) : List (List Str) := ((lnkRows rs).filter (lb rs)).map (·.1)
theorem lnk_mem {r : List Str × Wh} (h : r ∈ lnkRows rs) : r ∈ rs := (List.mem_filter.mp h).1
theorem endL_map : ((lnkRows rs).filter (lb rs)).map (fun r => tD r.1) = (endL rs).map tD := by rw [List.map_map]; rfl
theorem lnk_len (h6 : rs.length ≤ 6) : (lnkRows rs).length ≤ 6 := Nat.le_trans (List.length_filter_le _ _) h6
theorem endless_ok (g : Good rs) (ho : Ord rs) (gr : ∀ r ∈ rs, Gr r) (h6 : rs.length ≤ 6) : f_endless [.tuple (rs.map rowD)] = .ok (.list ((endL rs).map tD)) := by
  have h1 : f_find_endless [.tuple (rs.map rowD)] = .ok (.list ((endL rs).map tD)) := by
    unfold f_find_endless m_find_endless
    show runD (mRet _ [some (.dat (.tuple (rs.map rowD))), none]) = _
    rw [← endL_map]
    refine E.run (E.ret (lc_of (ds := (lnkRows rs).map fun r => tD r.1) (E.seqI (E.call (E.cons (E.v rfl) E.nil) rfl (findLinks_ok g (by omega))) (E.seqL _ (by rw [List.length_map]; have := lnk_len h6; omega))) (compGo_fm fun r hr => ?_)))
    obtain ⟨e, F⟩ := link_facts g gr h6 (lnk_mem hr)
    rw [← F.b]
    exact step_if (h1 := rfl) (E.tst (E.op (E.call (E.cons (E.v rfl) (E.cons (E.v rfl) E.nil)) rfl F.fe) E.cc (eq_loop F.s))) (E.v rfl)
  unfold f_endless m_endless
  show runD (mSeq _ _ [some (.dat (.tuple (rs.map rowD)))]) = _
  exact E.run (E.nx (E.expr (E.call (E.cons (E.v rfl) E.nil) rfl (check_chart_ok g ho (by omega)))) (E.ret (E.call (E.cons (E.v rfl) E.nil) rfl h1)))
theorem links_ok (g : Good rs) (ho : Ord rs) (h6 : rs.length ≤ 6) : f_links [.tuple (rs.map rowD)] = .ok (.list ((lnkRows rs).map fun r => tD r.1)) := by
  unfold f_links m_links
  show runD (mSeq _ _ [some (.dat (.tuple (rs.map rowD)))]) = _
  exact E.run (E.nx (E.expr (E.call (E.cons (E.v rfl) E.nil) rfl (check_chart_ok g ho (by omega)))) (E.ret (E.call (E.cons (E.v rfl) E.nil) rfl (findLinks_ok g (by omega)))))
def nBody : MS := (mIfS (mTest (mOp fEq (mCall 4 f_replace_links (mCons (mVar 1) (mCons (mSl fSl (mVar 3) mNo (mPart (mUn fNeg (mC (.int 1))))) (mCons (mTup (mCons (mC (.str "")) (mCons (mSl fSl (mVar 3) (mPart (mUn fNeg (mC (.int 1)))) mNo) mNil))) (mCons (mC (.str "follow")) mNil))))) (mC (.tuple [(.str "loop")]))))
  (mAppend 2 (mVar 3))
  mSkip)
theorem nloop (g : Good rs) (gr : ∀ r ∈ rs, Gr r) (h6 : rs.length ≤ 6) : ∀ (ls : Rows) (_ : ∀ r ∈ ls, r ∈ rs) (acc : List (List Str)) (s3 : Option Sl), acc.length + ls.length ≤ 1000 →
    ∃ t3, forGo (.nm 3) nBody (ls.map fun r => tD r.1) [some (.dat (.tuple (rs.map rowD))), some (.dat (.dict (rs.map rowP))), some (.own (.list (acc.map tD))), s3] = .next [some (.dat (.tuple (rs.map rowD))), some (.dat (.dict (rs.map rowP))), some (.own (.list ((acc ++ (ls.filter (lb rs)).map (·.1)).map tD))), t3]
  | [], _, acc, s3, _ => ⟨s3, by simp only [List.filter_nil, List.map_nil, List.append_nil]; rfl⟩
  | r :: ls, h, acc, s3, hl => by
    simp only [List.length_cons] at hl
    obtain ⟨e, F⟩ := link_facts g gr h6 (h r (List.mem_cons_self ..))
    have t := E.tst (ρ := [some (.dat (.tuple (rs.map rowD))), some (.dat (.dict (rs.map rowP))), some (.own (.list (acc.map tD))), some (.dat (tD r.1))]) (E.op (f := fEq) (m1 := (mCall 4 f_replace_links (mCons (mVar 1) (mCons (mSl fSl (mVar 3) mNo (mPart (mUn fNeg (mC (.int 1))))) (mCons (mTup (mCons (mC (.str "")) (mCons (mSl fSl (mVar 3) (mPart (mUn fNeg (mC (.int 1)))) mNo) mNil))) (mCons (mC (.str "follow")) mNil)))))) (m2 := mC (.tuple [(.str "loop")]))
      (E.call (E.cons (E.v rfl) (E.cons (slInit (E.v rfl)) (E.cons (E.tup (E.cons E.cc (E.cons (E.sl (d := tD r.1) (E.v rfl) (E.part (E.un E.cc (E.neg _))) E.no (E.slT (cutLast _))) E.nil)) (by exact Nat.le_of_ble_eq_true rfl)) (E.cons E.cc E.nil)))) rfl F.rp) E.cc (eq_loop F.s))
    rw [F.b] at t
    cases hb : lb rs r with
    | true =>
      rw [hb] at t
      obtain ⟨t3, ih⟩ := nloop g gr h6 ls (fun x hx => h x (List.mem_cons_of_mem _ hx)) (acc ++ [r.1]) (some (.dat (tD r.1))) (by rw [List.length_append]; simp only [List.length_cons, List.length_nil]; omega)
      refine ⟨t3, ?_⟩
      have e1 : nBody [some (.dat (.tuple (rs.map rowD))), some (.dat (.dict (rs.map rowP))), some (.own (.list (acc.map tD))), some (.dat (tD r.1))] = .next [some (.dat (.tuple (rs.map rowD))), some (.dat (.dict (rs.map rowP))), some (.own (.list ((acc ++ [r.1]).map tD))), some (.dat (tD r.1))] :=
        E.ifT t (append_ok (d := tD r.1) (ds := acc.map tD) (E.v rfl) (by rw [List.length_map]; omega) (by rw [List.map_append]; rfl))
      rw [List.map_cons, List.filter_cons, hb, if_pos rfl, List.map_cons]
      unfold forGo
      simp only [Tg.put, List.set_cons_succ, List.set_cons_zero]
      rw [e1]
      simp only
      rw [ih, List.append_assoc]
      rfl
    | false =>
      rw [hb] at t
      obtain ⟨t3, ih⟩ := nloop g gr h6 ls (fun x hx => h x (List.mem_cons_of_mem _ hx)) acc (some (.dat (tD r.1))) (by omega)
      refine ⟨t3, ?_⟩
      have e1 : nBody [some (.dat (.tuple (rs.map rowD))), some (.dat (.dict (rs.map rowP))), some (.own (.list (acc.map tD))), some (.dat (tD r.1))] = .next [some (.dat (.tuple (rs.map rowD))), some (.dat (.dict (rs.map rowP))), some (.own (.list (acc.map tD))), some (.dat (tD r.1))] := E.ifF t E.skip
      rw [List.map_cons, List.filter_cons, hb, if_neg (by decide)]
      unfold forGo
      simp only [Tg.put, List.set_cons_succ, List.set_cons_zero]
      rw [e1]
      exact ih
theorem naive_endless_ok (g : Good rs) (ho : Ord rs) (gr : ∀ r ∈ rs, Gr r) (h6 : rs.length ≤ 6) : f_naive_endless [.tuple (rs.map rowD)] = .ok (.list ((endL rs).map tD)) := by
  obtain ⟨t3, e⟩ := nloop g gr h6 (lnkRows rs) (fun r h => lnk_mem h) [] none (by have := lnk_len h6; simp; omega)
  rw [List.nil_append] at e
  unfold f_naive_endless m_naive_endless
  show runD (mSeq _ _ [some (.dat (.tuple (rs.map rowD))), none, none, none]) = _
  exact E.run (E.nx (E.expr (E.call (E.cons (E.v rfl) E.nil) rfl (check_chart_ok g ho (by omega)))) (E.nx (E.par (E.mmD (E.callB (E.cons (E.v rfl) E.nil) (dict_rows g (by omega))) (E.mmO (E.lst E.nil (by exact Nat.le_of_ble_eq_true rfl)) E.mmN)) rfl)
    (E.nx (E.for_ (E.seqI (E.call (E.cons (E.v rfl) E.nil) rfl (findLinks_ok g (by omega))) (E.seqL _ (by rw [List.length_map]; have := lnk_len h6; omega))) e) rfl)))
end L67
end

section
set_option Elab.async false
set_option linter.all false
set_option maxRecDepth 100000
/-! Hd6: what is raised first. -/
namespace L67
open PySem PySem.Spec PyProof.Rows L2 De Nv Ma
def isX (c : Str) : Res D → Bool
  | .exc d => decide (d = c)
  | _ => false
theorem isX_ok {c : Str} {r : Res D} (h : isX c r = true) : r = .exc c := by
  cases r with
  | exc d => rw [of_decide_eq_true h]
  | ok d => cases h
  | stuck => cases h
abbrev badChart : D := .tuple [.tuple [tD ["a", "b"], .str "file"]]
abbrev badHeres : List D := [tD ["zz"], .none, .list [.str "a"], .str "a"]
abbrev badPaths : List D := [.none, .str "a", .tuple [.str "", .tuple []], .tuple [.str "", .list [.str "a"]], .tuple [.str "x", tD ["a"]], .int 7]
abbrev badModes : List D := [.none, .str "", .str "both", .int 0]
theorem exprX {m : M} {ρ : Rho} {c : Str} (h : m ρ = .exc c) : mExpr m ρ = .exc c ρ := by unfold mExpr; rw [h]; rfl
theorem seqX {m1 m2 : MS} {ρ ρ' : Rho} {c : Str} (h : m1 ρ = .exc c ρ') : mSeq m1 m2 ρ = .exc c ρ' := by unfold mSeq; rw [h]
theorem callX {n : Nat} {f : List D → Res D} {m : MA} {ρ : Rho} {ds : List D} {c : Str} (h1 : m ρ = .ok ds) (hl : ds.length = n) (h : f ds = .exc c) : mCall n f m ρ = .exc c := callOk h1 h hl
theorem runX {r : RSt} {ρ : Rho} {c : Str} (h : r = .exc c ρ) : runD r = .exc c := by rw [h]; rfl
theorem bad_chart : f_check_chart [badChart] = .exc "InvalidChart" := isX_ok (by decide +kernel)
theorem bad_path {d : D} (h : d ∈ badPaths) : f_check_path [d] = .exc "InvalidPath" := by
  simp only [badPaths, List.mem_cons, List.not_mem_nil, or_false] at h
  rcases h with rfl | rfl | rfl | rfl | rfl | rfl <;> exact isX_ok (by decide +kernel)
theorem bad_mode {d : D} (h : d ∈ badModes) : f_check_mode [d] = .exc "InvalidMode" := by
  simp only [badModes, List.mem_cons, List.not_mem_nil, or_false] at h
  rcases h with rfl | rfl | rfl | rfl <;> exact isX_ok (by decide +kernel)
variable {rs : Rows}
theorem bad_here (g : Good rs) (gr : ∀ r ∈ rs, Gr r) (hr : rs.length ≤ 60) {d : D} (h : d ∈ badHeres) : f_check_directory [.tuple (rs.map rowD), d] = .exc "InvalidAddress" := by
  have hdir : f_is_directory [.tuple (rs.map rowD), d] = .ok (.bool false) := by
    unfold f_is_directory m_is_directory
    show runD (mRet _ [some (.dat (.tuple (rs.map rowD))), some (.dat d)]) = _
    have no : f_is_address [d] = .ok (.bool false) → runD (mRet (mAnd (mCall 1 f_is_address (mCons (mVar 1) mNil)) (mOp fEq (mCall 2 f_known_at (mCons (mCallB fDict (mCons (mVar 0) mNil)) (mCons (mVar 1) mNil))) (mC (.str "dir")))) [some (.dat (.tuple (rs.map rowD))), some (.dat d)]) = .ok (.bool false) := fun hf => by
      refine E.run (E.ret ?_)
      have e1 : (mCall 1 f_is_address (mCons (mVar 1) mNil)) [some (.dat (.tuple (rs.map rowD))), some (.dat d)] = .ok (.bool false) := E.call (E.cons (E.v rfl) E.nil) rfl hf
      unfold mAnd
      rw [e1]
      rfl
    simp only [badHeres, List.mem_cons, List.not_mem_nil, or_false] at h
    rcases h with rfl | rfl | rfl | rfl
    · have hz : Nm "zz" := by decide +kernel
      have kn := known_ok g (p := []) (.inl rfl) hz
      have hat : at_ rs (([] : List Str) ++ (["zz"] : List Str)) = none := by
        cases hh : at_ rs (([] : List Str) ++ (["zz"] : List Str)) with
        | none => rfl
        | some v =>
          have := (gr _ (at_mem hh)).2.1 "zz" (by simp)
          rcases this with h | h | h <;> exact absurd h (by decide +kernel)
      rw [hat] at kn
      exact E.run (E.ret (E.and (y := true) (z := false) (E.call (E.cons (E.v rfl) E.nil) rfl (isT_ok (by decide +kernel))) (E.op (E.call (d := .str "unknown") (E.cons (E.callB (E.cons (E.v rfl) E.nil) (dict_rows g (by omega))) (E.cons (E.v rfl) E.nil)) rfl kn) E.cc (E.eq_diff (E.cmp_str (by decide +kernel)) (E.cmp_str (by decide +kernel)) fun h => by injection h with h; exact absurd h (by decide +kernel)))))
    · exact no (isF_ok (by decide +kernel))
    · exact no (isF_ok (by decide +kernel))
    · exact no (isF_ok (by decide +kernel))
  unfold f_check_directory m_check_directory
  show runD (mIfS _ _ _ [some (.dat (.tuple (rs.map rowD))), some (.dat d)]) = _
  exact runX (E.ifT (E.notT (z := false) (E.tst (E.call (E.cons (E.v rfl) (E.cons (E.v rfl) E.nil)) rfl hdir))) rfl)
/-- the first of the four that is wrong -/
theorem naive_exc {v0 v1 v2 v3 : D} {c : Str} (h : f_check_walk [v0, v1, v2, v3] = .exc c) : f_naive_walk [v0, v1, v2, v3] = .exc c := by
  unfold f_naive_walk m_naive_walk
  show runD (mSeq _ _ [some (.dat v0), some (.dat v1), some (.dat v2), some (.dat v3)]) = _
  exact runX (seqX (exprX (callX (E.cons (E.v rfl) (E.cons (E.v rfl) (E.cons (E.v rfl) (E.cons (E.v rfl) E.nil)))) rfl h)))
theorem cw0 {v0 v1 v2 v3 : D} {c : Str} (h : f_check_chart [v0] = .exc c) : f_check_walk [v0, v1, v2, v3] = .exc c := by
  unfold f_check_walk m_check_walk
  show runD (mSeq _ _ [some (.dat v0), some (.dat v1), some (.dat v2), some (.dat v3)]) = _
  exact runX (seqX (exprX (callX (E.cons (E.v rfl) E.nil) rfl h)))
theorem cw1 {v0 v1 v2 v3 d0 : D} {c : Str} (h0 : f_check_chart [v0] = .ok d0) (h : f_check_directory [v0, v1] = .exc c) : f_check_walk [v0, v1, v2, v3] = .exc c := by
  unfold f_check_walk m_check_walk
  show runD (mSeq _ _ [some (.dat v0), some (.dat v1), some (.dat v2), some (.dat v3)]) = _
  exact runX (E.nx (E.expr (E.call (E.cons (E.v rfl) E.nil) rfl h0)) (seqX (exprX (callX (E.cons (E.v rfl) (E.cons (E.v rfl) E.nil)) rfl h))))
theorem cw2 {v0 v1 v2 v3 d0 d1 : D} {c : Str} (h0 : f_check_chart [v0] = .ok d0) (h1 : f_check_directory [v0, v1] = .ok d1) (h : f_check_path [v2] = .exc c) : f_check_walk [v0, v1, v2, v3] = .exc c := by
  unfold f_check_walk m_check_walk
  show runD (mSeq _ _ [some (.dat v0), some (.dat v1), some (.dat v2), some (.dat v3)]) = _
  exact runX (E.nx (E.expr (E.call (E.cons (E.v rfl) E.nil) rfl h0)) (E.nx (E.expr (E.call (E.cons (E.v rfl) (E.cons (E.v rfl) E.nil)) rfl h1)) (seqX (exprX (callX (E.cons (E.v rfl) E.nil) rfl h)))))
theorem cw3 {v0 v1 v2 v3 d0 d1 d2 : D} {c : Str} (h0 : f_check_chart [v0] = .ok d0) (h1 : f_check_directory [v0, v1] = .ok d1) (h2 : f_check_path [v2] = .ok d2) (h : f_check_mode [v3] = .exc c) : f_check_walk [v0, v1, v2, v3] = .exc c := by
  unfold f_check_walk m_check_walk
  show runD (mSeq _ _ [some (.dat v0), some (.dat v1), some (.dat v2), some (.dat v3)]) = _
  exact runX (E.nx (E.expr (E.call (E.cons (E.v rfl) E.nil) rfl h0)) (E.nx (E.expr (E.call (E.cons (E.v rfl) (E.cons (E.v rfl) E.nil)) rfl h1)) (E.nx (E.expr (E.call (E.cons (E.v rfl) E.nil) rfl h2)) (exprX (callX (E.cons (E.v rfl) E.nil) rfl h)))))
/-! ### _law_error -/
def eTry : MS := (mIfS (mTest (mOp fEq (mVar 0) (mC (.int 0))))
  (mExpr (mCall 4 f_naive_walk (mCons (mOp fIdx (mVar 1) (mC (.int 0))) (mCons (mOp fIdx (mVar 1) (mC (.int 1))) (mCons (mOp fIdx (mVar 1) (mC (.int 2))) (mCons (mOp fIdx (mVar 1) (mC (.int 3))) mNil))))))
  (mExpr (mCall 1 f_naive_endless (mCons (mOp fIdx (mVar 1) (mC (.int 0))) mNil))))
def eSuite : Addr → Str → MS := (fun a c => (mSeq (mSet 3 (mLst (mCons (mIsE 2 a (decide (c = "InvalidChart"))) (mCons (mIsE 2 a (decide (c = "InvalidAddress"))) mNil)))) (mRet (mUn fIndexT (mOp fCat (mVar 3) (mLst (mCons (mIsE 2 a (decide (c = "InvalidPath"))) (mCons (mIsE 2 a (decide (c = "InvalidMode"))) mNil))))))))
theorem error_eq : m__law_error = mSeq (mTry 2 sub_PathError eTry eSuite) (mRet (mC .none)) := rfl
theorem ixL {xs : List D} {i : Nat} {x : D} (h : xs[i]? = some x) : fIdx (.list xs) (.int (i : Int)) = .ok x := by
  have hl : i < xs.length := by
    by_cases hh : i < xs.length
    · exact hh
    · rw [List.getElem?_eq_none (by omega)] at h; cases h
  have : L2.atI xs (i : Int) = some x := by rw [atI_nat (by omega) (by omega)]; simpa using h
  show (match L2.atI xs (i : Int) with | some x => Res.ok x | none => .stuck) = _
  rw [this]
theorem isE_ok {a : Addr} {b : Bool} {ρ : Rho} (h : ρ[2]? = some (some (.raw (.ref a)))) : mIsE 2 a b ρ = .ok (.bool b) := by
  unfold mIsE
  rw [h]
  exact if_pos rfl
theorem suite_ok {c : Str} {n : Nat} {w : D} {vs : List D} (hc : [decide (c = "InvalidChart"), decide (c = "InvalidAddress"), decide (c = "InvalidPath"), decide (c = "InvalidMode")].findIdx? (fun b => b) = some n) (a : Addr) :
    goneR 2 (eSuite a c [some (.dat w), some (.dat (.list vs)), some (.raw (.ref a)), none]) = .ret (.int (n : Int)) := by
  have e : eSuite a c [some (.dat w), some (.dat (.list vs)), some (.raw (.ref a)), none] = .ret (.int (n : Int)) := by
    refine E.nx (ρ' := [some (.dat w), some (.dat (.list vs)), some (.raw (.ref a)), some (.dat (.list [.bool (decide (c = "InvalidChart")), .bool (decide (c = "InvalidAddress"))]))]) (E.set (E.lst (E.cons (isE_ok rfl) (E.cons (isE_ok rfl) E.nil)) (by exact Nat.le_of_ble_eq_true rfl))) (E.ret (E.un (E.op (E.v rfl) (E.lst (E.cons (isE_ok rfl) (E.cons (isE_ok rfl) E.nil)) (by exact Nat.le_of_ble_eq_true rfl)) (cat_ok (by exact Nat.le_of_ble_eq_true rfl))) ?_))
    show (match ([decide (c = "InvalidChart"), decide (c = "InvalidAddress"), decide (c = "InvalidPath"), decide (c = "InvalidMode")] : List Bool).findIdx? (fun b => b) with | some j => Res.ok (PyData.int (j : Nat)) | none => .stuck) = _
    rw [hc]
  rw [e]
  rfl
/-- an error told -/
theorem error_exc {w : D} {vs : List D} {c : Str} {n : Nat} (h : eTry [some (.dat w), some (.dat (.list vs)), none, none] = .exc c [some (.dat w), some (.dat (.list vs)), none, none]) (hs : sub_PathError c = some true)
    (hc : [decide (c = "InvalidChart"), decide (c = "InvalidAddress"), decide (c = "InvalidPath"), decide (c = "InvalidMode")].findIdx? (fun b => b) = some n) : f__law_error [w, .list vs] = .ok (.int (n : Int)) := by
  unfold f__law_error
  rw [error_eq]
  show runD (mSeq _ _ [some (.dat w), some (.dat (.list vs)), none, none]) = _
  exact E.run (E.rt (mTry_exc h hs fun a => suite_ok hc a))
theorem try0 {v0 v1 v2 v3 : D} {c : Str} (h : f_naive_walk [v0, v1, v2, v3] = .exc c) : eTry [some (.dat (.int 0)), some (.dat (.list [v0, v1, v2, v3])), none, none] = .exc c [some (.dat (.int 0)), some (.dat (.list [v0, v1, v2, v3])), none, none] :=
  E.ifT (E.tst (E.op (E.v rfl) E.cc (E.eqI _ _))) (exprX (callX (E.cons (E.op (E.v rfl) E.cc (ixL (i := 0) rfl)) (E.cons (E.op (E.v rfl) E.cc (ixL (i := 1) rfl)) (E.cons (E.op (E.v rfl) E.cc (ixL (i := 2) rfl)) (E.cons (E.op (E.v rfl) E.cc (ixL (i := 3) rfl)) E.nil)))) rfl h))
theorem err0 {v1 v2 v3 : D} : f__law_error [.int 0, .list [badChart, v1, v2, v3]] = .ok (.int 0) := error_exc (n := 0) (try0 (naive_exc (cw0 bad_chart))) (by decide +kernel) (by decide +kernel)
theorem err1 (g : Good rs) (ho : Ord rs) (gr : ∀ r ∈ rs, Gr r) (hr : rs.length ≤ 60) {v1 v2 v3 : D} (h : v1 ∈ badHeres) : f__law_error [.int 0, .list [.tuple (rs.map rowD), v1, v2, v3]] = .ok (.int 1) :=
  error_exc (n := 1) (try0 (naive_exc (cw1 (check_chart_ok g ho hr) (bad_here g gr hr h)))) (by decide +kernel) (by decide +kernel)
theorem err2 (g : Good rs) (ho : Ord rs) (hr : rs.length ≤ 60) {v2 v3 : D} (h : v2 ∈ badPaths) : f__law_error [.int 0, .list [.tuple (rs.map rowD), tD [], v2, v3]] = .ok (.int 2) :=
  error_exc (n := 2) (try0 (naive_exc (cw2 (check_chart_ok g ho hr) (check_dir_ok g hr (.inl rfl)) (bad_path h)))) (by decide +kernel) (by decide +kernel)
theorem wdA : ∀ x ∈ (["a"] : List Str), Wd x := fun x hx => by rw [List.mem_singleton.mp hx]; decide +kernel
theorem err3 (g : Good rs) (ho : Ord rs) (hr : rs.length ≤ 60) {v3 : D} (h : v3 ∈ badModes) : f__law_error [.int 0, .list [.tuple (rs.map rowD), tD [], pathD true ["a"], v3]] = .ok (.int 3) :=
  error_exc (n := 3) (try0 (naive_exc (cw3 (check_chart_ok g ho hr) (check_dir_ok g hr (.inl rfl)) (check_path_ok wdA (by exact Nat.le_of_ble_eq_true rfl) (by simp)) (bad_mode h)))) (by decide +kernel) (by decide +kernel)
theorem err_end {v1 v2 v3 : D} : f__law_error [.int 1, .list [badChart, v1, v2, v3]] = .ok (.int 0) := by
  have h : f_naive_endless [badChart] = .exc "InvalidChart" := by
    unfold f_naive_endless m_naive_endless
    show runD (mSeq _ _ [some (.dat badChart), none, none, none]) = _
    exact runX (seqX (exprX (callX (E.cons (E.v rfl) E.nil) rfl bad_chart)))
  exact error_exc (n := 0) (c := "InvalidChart") (E.ifF (E.tst (E.op (E.v rfl) E.cc (E.eqI _ _))) (exprX (callX (E.cons (E.op (E.v rfl) E.cc (ixL (i := 0) rfl)) E.nil) rfl h))) (by decide +kernel) (by decide +kernel)
theorem err_no (g : Good rs) (ho : Ord rs) (gr : ∀ r ∈ rs, Gr r) (h6 : rs.length ≤ 6) : f__law_error [.int 0, .list [.tuple (rs.map rowD), tD [], pathD true ["a"], .str "keep"]] = .ok .none := by
  obtain ⟨e, _, L, _⟩ := result_ok g (by omega : rs.length ≤ 60) (here := []) (.inl rfl) (abs := true) wdA (by exact Nat.le_of_ble_eq_true rfl) (mode := "keep") (by decide +kernel)
  have h := naive_walk_ok g ho gr h6 (here := []) (.inl rfl) (abs := true) wdA (by exact Nat.le_of_ble_eq_true rfl) (by simp) (.inr rfl) L
  unfold f__law_error
  rw [error_eq]
  show runD (mSeq _ _ [some (.dat (.int 0)), some (.dat (.list [.tuple (rs.map rowD), tD [], pathD true ["a"], .str "keep"])), none, none]) = _
  refine E.run (E.nx (mTry_next (E.ifT (E.tst (E.op (E.v rfl) E.cc (E.eqI _ _))) (E.expr (E.call (E.cons (E.op (E.v rfl) E.cc (ixL (i := 0) rfl)) (E.cons (E.op (E.v rfl) E.cc (ixL (i := 1) rfl)) (E.cons (E.op (E.v rfl) E.cc (ixL (i := 2) rfl)) (E.cons (E.op (E.v rfl) E.cc (ixL (i := 3) rfl)) E.nil)))) rfl h)))) (E.ret E.cc))
end L67
end

section
set_option Elab.async false
set_option linter.all false
set_option maxRecDepth 100000
/-! Law67 -/
namespace L67
open PySem PySem.Spec PyProof.Rows L2 De Nv Ma
abbrev gS (ns : List Int) (rs : Rows) (s3 s4 s5 s6 s7 s8 s9 s10 s11 s12 : Option Sl) : Rho :=
  [some (.dat (scrD ns)), some (.dat (.tuple (rs.map rowD))), some (.dat (.list (([] :: dirRows rs).map tD))), s3, s4, s5, s6, s7, s8, s9, s10, s11, s12]
def wMode : MS := (mSeq (mSet 11 (mCall 5 f__law_walk (mCons (mVar 1) (mCons (mVar 8) (mCons (mVar 9) (mCons (mVar 10) (mCons (mC (.str "unknown")) mNil))))))) (mIfS (mOrT (mTest (mOp fNe (mCall 4 f_walk (mCons (mVar 1) (mCons (mVar 8) (mCons (mVar 9) (mCons (mVar 10) mNil))))) (mVar 11))) (mTest (mOp fNe (mCall 4 f_naive_walk (mCons (mVar 1) (mCons (mVar 8) (mCons (mVar 9) (mCons (mVar 10) mNil))))) (mVar 11))))
  (mRet (mC (.bool false)))
  mSkip))
def wModes : MS := (mFor (mSeqI (mTup (mCons (mC (.str "follow")) (mCons (mC (.str "keep")) mNil)))) (.nm 10) wMode)
def wPar : MS := (mPar [8, 9] (mmDat (mOp fIdx (mVar 2) (mCall 3 f__law_drawn (mCons (mVar 0) (mCons (mOp fAdd (mC (.int 70)) (mOp fMul (mC (.int 12)) (mVar 3))) (mCons (mCallB fLen (mCons (mVar 2) mNil)) mNil))))) (mmDat (mCall 3 f__law_path (mCons (mVar 0) (mCons (mOp fAdd (mC (.int 71)) (mOp fMul (mC (.int 12)) (mVar 3))) (mCons (mC (.int 5)) mNil)))) mmNil)))
def wBody : MS := mSeq wPar wModes
def wEnds : MS := (mIfS (mTest (mOp fLt (mCallB fLen (mCons (mCall 1 f_links (mCons (mVar 1) mNil)) mNil)) (mC (.int 3))))
  (mSeq (mSet 11 (mLc (mSeqI (mCall 1 f_links (mCons (mVar 1) mNil))) (.nm 12) [12] (mTest (mOp fEq (mCall 5 f__law_walk (mCons (mVar 1) (mCons (mTup mNil) (mCons (mTup (mCons (mC (.str "/")) (mCons (mVar 12) mNil))) (mCons (mC (.str "follow")) (mCons (mC (.str "unknown")) mNil)))))) (mTup (mCons (mC (.str "loop")) mNil)))) (mVar 12))) (mIfS (mOrT (mTest (mOp fNe (mCall 1 f_naive_endless (mCons (mVar 1) mNil)) (mVar 11))) (mTest (mOp fNe (mCall 1 f_endless (mCons (mVar 1) mNil)) (mVar 11))))
  (mRet (mC (.bool false)))
  mSkip))
  mSkip)
def wOdd : MS := (mSet 4 (mOp fIdx (mLst (mCons (mC .none) (mCons (mC (.str "a")) (mCons (mTup (mCons (mC (.str "")) (mCons (mTup mNil) mNil))) (mCons (mTup (mCons (mC (.str "")) (mCons (mLst (mCons (mC (.str "a")) mNil)) mNil))) (mCons (mTup (mCons (mC (.str "x")) (mCons (mTup (mCons (mC (.str "a")) mNil)) mNil))) (mCons (mC (.int 7)) mNil))))))) (mCall 3 f__law_drawn (mCons (mVar 0) (mCons (mC (.int 1)) (mCons (mC (.int 6)) mNil))))))
def wBad : MS := (mSet 5 (mLst (mCons (mTup (mCons (mTup (mCons (mTup (mCons (mC (.str "a")) (mCons (mC (.str "b")) mNil))) (mCons (mC (.str "file")) mNil))) mNil)) (mCons (mOp fIdx (mLst (mCons (mTup (mCons (mC (.str "zz")) mNil)) (mCons (mC .none) (mCons (mLst (mCons (mC (.str "a")) mNil)) (mCons (mC (.str "a")) mNil))))) (mCall 3 f__law_drawn (mCons (mVar 0) (mCons (mC (.int 2)) (mCons (mC (.int 4)) mNil))))) mNil))))
def wBad2 : MS := (mSet 5 (mOp fCat (mVar 5) (mLst (mCons (mVar 4) (mCons (mOp fIdx (mLst (mCons (mC .none) (mCons (mC (.str "")) (mCons (mC (.str "both")) (mCons (mC (.int 0)) mNil))))) (mCall 3 f__law_drawn (mCons (mVar 0) (mCons (mC (.int 3)) (mCons (mC (.int 4)) mNil))))) mNil)))))
def wVals : MS := (mPar [6, 7] (mmDat (mLst (mCons (mVar 1) (mCons (mTup mNil) (mCons (mTup (mCons (mC (.str "/")) (mCons (mTup (mCons (mC (.str "a")) mNil)) mNil))) (mCons (mC (.str "keep")) mNil))))) (mmOwn (mLst mNil) mmNil)))
noncomputable def wApp : MS := (mAppend 7 (mCall 2 f__law_error (mCons (mC (.int 0)) (mCons (mOp fCat (mSl fSlL (mVar 6) mNo (mPart (mVar 3))) (mSl fSlL (mVar 5) (mPart (mVar 3)) mNo)) mNil))))
noncomputable def xRet : MS := (mRet (lockR 7 (mAnd (mOp fEq (mVar 7) (mLst (mCons (mC (.int 0)) (mCons (mC (.int 1)) (mCons (mC (.int 2)) (mCons (mC (.int 3)) mNil)))))) (mAnd (mOp fEq (mCall 2 f__law_error (mCons (mC (.int 1)) (mCons (mVar 5) mNil))) (mC (.int 0))) (mOp fIs (mCall 2 f__law_error (mCons (mC (.int 0)) (mCons (mVar 6) mNil))) (mC .none)))) flat))
theorem law_eq : m_law = (mSeq (mPar [1, 2] (mmDat (mCall 4 f__law_chart (mCons (mVar 0) (mCons (mC (.int 10)) (mCons (mC (.int 6)) (mCons (mLst (mCons (mC (.str "link")) (mCons (mC (.str "dir")) (mCons (mC (.str "file")) (mCons (mC (.str "link")) (mCons (mC (.str "dir")) (mCons (mC (.str "absent")) mNil))))))) mNil))))) (mmDat (mLst mNil) mmNil))) (mSeq (mSet 2 (mCall 1 f__law_places (mCons (mVar 1) mNil))) (mSeq (mFor (fun ρ => ((mCons (mC (.int 3)) mNil) ρ).bind asRng1) (.nm 3) wBody)
  (mSeq wEnds (mSeq wOdd (mSeq wBad (mSeq wBad2 (mSeq wVals (mSeq (mFor (fun ρ => ((mCons (mC (.int 4)) mNil) ρ).bind asRng1) (.nm 3) wApp) xRet))))))))) := rfl
variable {ns : List Int} {rs : Rows}
theorem body_ok (hn : ns.length ≤ 63) (g : Good rs) (ho : Ord rs) (gr : ∀ r ∈ rs, Gr r) (h6 : rs.length ≤ 6) {i : Int} (hi : 0 ≤ i) (hi2 : i ≤ 100) (s4 s5 s6 s7 s8 s9 s10 s11 s12 : Option Sl) :
    ∃ t8 t9 t10 t11, wBody (gS ns rs (some (.dat (.int i))) s4 s5 s6 s7 s8 s9 s10 s11 s12) = .next (gS ns rs (some (.dat (.int i))) s4 s5 s6 s7 t8 t9 t10 t11 s12) := by
  have ld : (dirRows rs).length ≤ 6 := by
    unfold dirRows
    rw [List.length_map]
    exact Nat.le_trans (List.length_filter_le _ _) h6
  obtain ⟨r1, e1, h1, h2⟩ := drawn_ok ns hn (70 + 12 * i) (((([] :: dirRows rs).map tD).length : Nat) : Int) (by omega) (by omega) (by simp)
  obtain ⟨x, hx, e2⟩ := idx_lst (xs := ([] :: dirRows rs).map tD) h1 (by exact h2)
  obtain ⟨here, hh0, rfl⟩ := List.mem_map.mp hx
  have hh : IsDir rs here := by
    rcases List.mem_cons.mp hh0 with h | h
    · exact .inl h
    · exact .inr (at_of g.nd (mem_dirs h))
  obtain ⟨abs, ps, e3, l1, l2, w0⟩ := path_ok hn (71 + 12 * i) 5 (by omega) (by omega) (by decide) (by decide)
  have w : ∀ x ∈ ps, Wd x := fun x hx => pws_wd (w0 x hx)
  have hne : abs = false → ps ≠ [] := fun _ h => by rw [h] at l1; simp at l1
  have b1 : wPar (gS ns rs (some (.dat (.int i))) s4 s5 s6 s7 s8 s9 s10 s11 s12) = .next (gS ns rs (some (.dat (.int i))) s4 s5 s6 s7 (some (.dat (tD here))) (some (.dat (pathD abs ps))) s10 s11 s12) :=
    E.par (E.mmD (E.op (E.v rfl) (E.call (E.cons (E.v rfl) (E.cons (E.op E.cc (E.op E.cc (E.v rfl) (fMul_l _ (by decide))) (E.addI _ _)) (E.cons (E.callB (E.cons (E.v rfl) E.nil) (E.lenL _)) E.nil))) rfl e1) e2) (E.mmD (E.call (E.cons (E.v rfl) (E.cons (E.op E.cc (E.op E.cc (E.v rfl) (fMul_l _ (by decide))) (E.addI _ _)) (E.cons E.cc E.nil))) rfl e3) E.mmN)) rfl
  obtain ⟨ρ', q, t10, t11, rfl⟩ := E.forP (t := .nm 10) (b := wMode) (fun ρ => ∃ t10 t11, ρ = gS ns rs (some (.dat (.int i))) s4 s5 s6 s7 (some (.dat (tD here))) (some (.dat (pathD abs ps))) t10 t11 s12) [.str "follow", .str "keep"]
    (fun d hd ρ hρ => by
      obtain ⟨t10, t11, rfl⟩ := hρ
      obtain ⟨mode, hm, rfl⟩ : ∃ mode : Str, (mode = "follow" ∨ mode = "keep") ∧ d = .str mode := by
        rcases List.mem_cons.mp hd with h | h
        · exact ⟨_, .inl rfl, h⟩
        · exact ⟨_, .inr rfl, List.mem_singleton.mp h⟩
      have hmo : PyData.strOk mode = true := by rcases hm with rfl | rfl <;> decide +kernel
      obtain ⟨e, f1, L1, _⟩ := walk_ok g ho (by omega) hh w (by omega) hne hm
      have S := lim_snd g (p := base abs here) (by cases abs; exact hh; exact .inl rfl) w L1
      refine ⟨gS ns rs (some (.dat (.int i))) s4 s5 s6 s7 (some (.dat (tD here))) (some (.dat (pathD abs ps))) (some (.dat (.str mode))) t11 s12, rfl, gS ns rs (some (.dat (.int i))) s4 s5 s6 s7 (some (.dat (tD here))) (some (.dat (pathD abs ps))) (some (.dat (.str mode))) (some (.dat (endD e))) s12, ?_, _, _, rfl⟩
      refine E.nx (E.set (E.call (E.cons (E.v rfl) (E.cons (E.v rfl) (E.cons (E.v rfl) (E.cons (E.v rfl) (E.cons E.cc E.nil))))) rfl (law_walk_ok g gr h6 hh w (by omega) hmo L1))) (E.ifF ?_ E.skip)
      exact E.orT (y := false) (z := false) (E.tst (E.op (E.call (E.cons (E.v rfl) (E.cons (E.v rfl) (E.cons (E.v rfl) (E.cons (E.v rfl) E.nil)))) rfl f1) (E.v rfl) (E.ne_same (E.cmp_end S)))) (E.tst (E.op (E.call (E.cons (E.v rfl) (E.cons (E.v rfl) (E.cons (E.v rfl) (E.cons (E.v rfl) E.nil)))) rfl (naive_walk_ok g ho gr h6 hh w (by omega) hne hm L1)) (E.v rfl) (E.ne_same (E.cmp_end S))))) _ ⟨s10, s11, rfl⟩
  exact ⟨_, _, t10, t11, E.nx b1 (E.for_ (E.seqI (E.tup (E.cons E.cc (E.cons E.cc E.nil)) (by exact Nat.le_of_ble_eq_true rfl)) (E.seqT _ (by exact Nat.le_of_ble_eq_true rfl))) q)⟩
theorem ends_ok (g : Good rs) (ho : Ord rs) (gr : ∀ r ∈ rs, Gr r) (h6 : rs.length ≤ 6) (s3 s4 s5 s6 s7 s8 s9 s10 s11 s12 : Option Sl) :
    ∃ t11, wEnds (gS ns rs s3 s4 s5 s6 s7 s8 s9 s10 s11 s12) = .next (gS ns rs s3 s4 s5 s6 s7 s8 s9 s10 t11 s12) := by
  have hl := links_ok g ho h6
  have t : (mTest (mOp fLt (mCallB fLen (mCons (mCall 1 f_links (mCons (mVar 1) mNil)) mNil)) (mC (.int 3)))) (gS ns rs s3 s4 s5 s6 s7 s8 s9 s10 s11 s12) = .ok (decide (((((lnkRows rs).map fun r => tD r.1).length : Nat) : Int) < 3)) :=
    E.tst (E.op (E.callB (E.cons (E.call (E.cons (E.v rfl) E.nil) rfl hl) E.nil) (E.lenL _)) E.cc (E.ltI _ _))
  cases hz : decide (((((lnkRows rs).map fun r => tD r.1).length : Nat) : Int) < 3) with
  | false => rw [hz] at t; exact ⟨s11, E.ifF t E.skip⟩
  | true =>
    rw [hz] at t
    have sE : ∀ x ∈ endL rs, Snd x := fun x hx => by
      obtain ⟨r, hr, rfl⟩ := List.mem_map.mp hx
      exact g.sndA (lnk_mem (List.mem_filter.mp hr).1)
    have b1 : (mSet 11 (mLc (mSeqI (mCall 1 f_links (mCons (mVar 1) mNil))) (.nm 12) [12] (mTest (mOp fEq (mCall 5 f__law_walk (mCons (mVar 1) (mCons (mTup mNil) (mCons (mTup (mCons (mC (.str "/")) (mCons (mVar 12) mNil))) (mCons (mC (.str "follow")) (mCons (mC (.str "unknown")) mNil)))))) (mTup (mCons (mC (.str "loop")) mNil)))) (mVar 12))) (gS ns rs s3 s4 s5 s6 s7 s8 s9 s10 s11 s12) = .next (gS ns rs s3 s4 s5 s6 s7 s8 s9 s10 (some (.dat (.list ((endL rs).map tD)))) s12) := by
      rw [← endL_map]
      refine E.set (E.lc (E.seqI (E.call (E.cons (E.v rfl) E.nil) rfl hl) (E.seqL _ (by rw [List.length_map]; have := lnk_len h6; omega))) (compGo_fm fun r hr => ?_))
      obtain ⟨e, F⟩ := link_facts g gr h6 (lnk_mem hr)
      rw [← F.b]
      exact step_if (h1 := rfl) (E.tst (E.op (b := .tuple [.str "loop"]) (E.call (E.cons (E.v rfl) (E.cons (E.tup E.nil (by exact Nat.le_of_ble_eq_true rfl)) (E.cons (E.tup (E.cons E.cc (E.cons (E.v rfl) E.nil)) (by exact Nat.le_of_ble_eq_true rfl)) (E.cons E.cc (E.cons E.cc E.nil))))) rfl F.lw) (E.tup (E.cons E.cc E.nil) (by exact Nat.le_of_ble_eq_true rfl)) (eq_loop F.s))) (E.v rfl)
    exact ⟨_, E.ifT t (E.nx b1 (E.ifF (E.orT (y := false) (z := false) (E.tst (E.op (E.call (E.cons (E.v rfl) E.nil) rfl (naive_endless_ok g ho gr h6)) (E.v rfl) (E.ne_same (E.cmp_tDs sE)))) (E.tst (E.op (E.call (E.cons (E.v rfl) E.nil) rfl (endless_ok g ho gr h6)) (E.v rfl) (E.ne_same (E.cmp_tDs sE))))) E.skip))⟩
theorem law_true (ns : List Int) (hn : ns.length ≤ 63) : f_law [scrD ns] = .ok (.bool true) := by
  obtain ⟨rs, ec, g, ho, hl, gr⟩ := chart_ok hn (p := 10) (most := 6) (by decide) (by decide) (by decide) (by decide)
  have h6 : rs.length ≤ 6 := by omega
  unfold f_law
  rw [law_eq]
  show runD (mSeq _ _ [some (.dat (scrD ns)), none, none, none, none, none, none, none, none, none, none, none, none]) = _
  have b0 : (mPar [1, 2] (mmDat (mCall 4 f__law_chart (mCons (mVar 0) (mCons (mC (.int 10)) (mCons (mC (.int 6)) (mCons (mLst (mCons (mC (.str "link")) (mCons (mC (.str "dir")) (mCons (mC (.str "file")) (mCons (mC (.str "link")) (mCons (mC (.str "dir")) (mCons (mC (.str "absent")) mNil))))))) mNil))))) (mmDat (mLst mNil) mmNil))) [some (.dat (scrD ns)), none, none, none, none, none, none, none, none, none, none, none, none] = .next [some (.dat (scrD ns)), some (.dat (.tuple (rs.map rowD))), some (.dat (.list [])), none, none, none, none, none, none, none, none, none, none] :=
    E.par (E.mmD (E.call (E.cons (E.v rfl) (E.cons E.cc (E.cons E.cc (E.cons (E.lst (E.cons E.cc (E.cons E.cc (E.cons E.cc (E.cons E.cc (E.cons E.cc (E.cons E.cc E.nil)))))) (by exact Nat.le_of_ble_eq_true rfl)) E.nil)))) rfl ec) (E.mmD (E.lst E.nil (by exact Nat.le_of_ble_eq_true rfl)) E.mmN)) rfl
  have b1 : (mSet 2 (mCall 1 f__law_places (mCons (mVar 1) mNil))) [some (.dat (scrD ns)), some (.dat (.tuple (rs.map rowD))), some (.dat (.list [])), none, none, none, none, none, none, none, none, none, none] = .next (gS ns rs none none none none none none none none none none) := E.set (E.call (E.cons (E.v rfl) E.nil) rfl (places_ok g (by omega)))
  obtain ⟨ρ', eL, t3, t8, t9, t10, t11, rfl⟩ := E.forP (t := .nm 3) (b := wBody) (fun ρ => ∃ t3 t8 t9 t10 t11, ρ = gS ns rs t3 none none none none t8 t9 t10 t11 none) (rng 0 (3 : Int).toNat) (fun d hd ρ hρ => by
    obtain ⟨t3, t8, t9, t10, t11, rfl⟩ := hρ
    obtain ⟨i, hi, rfl⟩ := E.mem_rng hd
    have hi3 : i < 3 := by simpa using hi
    obtain ⟨u8, u9, u10, u11, e⟩ := body_ok hn g ho gr h6 (i := 0 + (i : Int)) (by omega) (by omega) none none none none t8 t9 t10 t11 none
    exact ⟨_, rfl, _, e, _, _, _, _, _, rfl⟩) _ ⟨none, none, none, none, none, rfl⟩
  obtain ⟨u11, eE⟩ := ends_ok (ns := ns) g ho gr h6 t3 none none none none t8 t9 t10 t11 none
  -- the wrong values
  obtain ⟨r1, d1, a1, a2⟩ := drawn_ok ns hn 1 6 (by decide) (by decide) (by decide)
  obtain ⟨odd, hodd, e1⟩ := idx_lst (xs := badPaths) a1 (by exact a2)
  obtain ⟨r2, d2, a3, a4⟩ := drawn_ok ns hn 2 4 (by decide) (by decide) (by decide)
  obtain ⟨bh, hbh, e2⟩ := idx_lst (xs := badHeres) a3 (by exact a4)
  obtain ⟨r3, d3, a5, a6⟩ := drawn_ok ns hn 3 4 (by decide) (by decide) (by decide)
  obtain ⟨bm, hbm, e3⟩ := idx_lst (xs := badModes) a5 (by exact a6)
  have one : ∀ {n : Nat}, n ≤ 1000 → n ≤ 1000 := fun h => h
  have c1 : wOdd (gS ns rs t3 none none none none t8 t9 t10 u11 none) = .next (gS ns rs t3 (some (.dat odd)) none none none t8 t9 t10 u11 none) :=
    E.set (E.op (a := .list badPaths) (E.lst (E.cons E.cc (E.cons E.cc (E.cons (E.tup (E.cons E.cc (E.cons (E.tup E.nil (by exact Nat.le_of_ble_eq_true rfl)) E.nil)) (by exact Nat.le_of_ble_eq_true rfl)) (E.cons (E.tup (E.cons E.cc (E.cons (E.lst (E.cons E.cc E.nil) (by exact Nat.le_of_ble_eq_true rfl)) E.nil)) (by exact Nat.le_of_ble_eq_true rfl)) (E.cons (E.tup (E.cons E.cc (E.cons (E.tup (E.cons E.cc E.nil) (by exact Nat.le_of_ble_eq_true rfl)) E.nil)) (by exact Nat.le_of_ble_eq_true rfl)) (E.cons E.cc E.nil)))))) (by exact Nat.le_of_ble_eq_true rfl)) (E.call (E.cons (E.v rfl) (E.cons E.cc (E.cons E.cc E.nil))) rfl d1) e1)
  have c2 : wBad (gS ns rs t3 (some (.dat odd)) none none none t8 t9 t10 u11 none) = .next (gS ns rs t3 (some (.dat odd)) (some (.dat (.list [badChart, bh]))) none none t8 t9 t10 u11 none) :=
    E.set (E.lst (E.cons (E.tup (E.cons (E.tup (E.cons (E.tup (E.cons E.cc (E.cons E.cc E.nil)) (by exact Nat.le_of_ble_eq_true rfl)) (E.cons E.cc E.nil)) (by exact Nat.le_of_ble_eq_true rfl)) E.nil) (by exact Nat.le_of_ble_eq_true rfl)) (E.cons (E.op (a := .list badHeres) (E.lst (E.cons (E.tup (E.cons E.cc E.nil) (by exact Nat.le_of_ble_eq_true rfl)) (E.cons E.cc (E.cons (E.lst (E.cons E.cc E.nil) (by exact Nat.le_of_ble_eq_true rfl)) (E.cons E.cc E.nil)))) (by exact Nat.le_of_ble_eq_true rfl)) (E.call (E.cons (E.v rfl) (E.cons E.cc (E.cons E.cc E.nil))) rfl d2) e2) E.nil)) (by exact Nat.le_of_ble_eq_true rfl))
  have c3 : wBad2 (gS ns rs t3 (some (.dat odd)) (some (.dat (.list [badChart, bh]))) none none t8 t9 t10 u11 none) = .next (gS ns rs t3 (some (.dat odd)) (some (.dat (.list [badChart, bh, odd, bm]))) none none t8 t9 t10 u11 none) :=
    E.set (E.op (E.v rfl) (E.lst (E.cons (E.v rfl) (E.cons (E.op (a := .list badModes) (E.lst (E.cons E.cc (E.cons E.cc (E.cons E.cc (E.cons E.cc E.nil)))) (by exact Nat.le_of_ble_eq_true rfl)) (E.call (E.cons (E.v rfl) (E.cons E.cc (E.cons E.cc E.nil))) rfl d3) e3) E.nil)) (by exact Nat.le_of_ble_eq_true rfl)) (cat_ok (by exact Nat.le_of_ble_eq_true rfl)))
  have c4 : wVals (gS ns rs t3 (some (.dat odd)) (some (.dat (.list [badChart, bh, odd, bm]))) none none t8 t9 t10 u11 none) = .next (gS ns rs t3 (some (.dat odd)) (some (.dat (.list [badChart, bh, odd, bm]))) (some (.dat (.list [.tuple (rs.map rowD), tD [], pathD true ["a"], .str "keep"]))) (some (.own (.list []))) t8 t9 t10 u11 none) :=
    E.par (E.mmD (E.lst (E.cons (E.v rfl) (E.cons (E.tup E.nil (by exact Nat.le_of_ble_eq_true rfl)) (E.cons (E.tup (E.cons E.cc (E.cons (E.tup (E.cons E.cc E.nil) (by exact Nat.le_of_ble_eq_true rfl)) E.nil)) (by exact Nat.le_of_ble_eq_true rfl)) (E.cons E.cc E.nil)))) (by exact Nat.le_of_ble_eq_true rfl)) (E.mmO (E.lst E.nil (by exact Nat.le_of_ble_eq_true rfl)) E.mmN)) rfl
  -- each wrong value is told
  have app : ∀ (k : Nat) (vs : List D) (ts : List D), k ≤ 4 → (([.tuple (rs.map rowD), tD [], pathD true ["a"], .str "keep"] : List D).take k ++ ([badChart, bh, odd, bm] : List D).drop k) = vs → f__law_error [.int 0, .list vs] = .ok (.int (k : Int)) → ts.length ≤ 10 →
      wApp (gS ns rs (some (.dat (.int (0 + (k : Int))))) (some (.dat odd)) (some (.dat (.list [badChart, bh, odd, bm]))) (some (.dat (.list [.tuple (rs.map rowD), tD [], pathD true ["a"], .str "keep"]))) (some (.own (.list ts))) t8 t9 t10 u11 none) =
      .next (gS ns rs (some (.dat (.int (0 + (k : Int))))) (some (.dat odd)) (some (.dat (.list [badChart, bh, odd, bm]))) (some (.dat (.list [.tuple (rs.map rowD), tD [], pathD true ["a"], .str "keep"]))) (some (.own (.list (ts ++ [.int (k : Int)])))) t8 t9 t10 u11 none) := fun k vs ts hk hvs he ht => by
    have ek : (0 + (k : Int)) = (k : Int) := by omega
    rw [ek]
    refine append_ok (d := .int (k : Int)) (ds := ts) (E.call (E.cons E.cc (E.cons (d := .list vs) (E.op (E.sl (E.v rfl) E.no (E.part (E.v rfl)) (show fSlL (.list _) none (some (k : Int)) = .ok (.list (([.tuple (rs.map rowD), tD [], pathD true ["a"], .str "keep"] : List D).take k)) from ?_)) (E.sl (E.v rfl) (E.part (E.v rfl)) E.no (show fSlL (.list _) (some (k : Int)) none = .ok (.list (([badChart, bh, odd, bm] : List D).drop k)) from ?_)) ?_) E.nil)) rfl he) (by omega)
    · show Res.ok (PyData.list (De.cutD _ none (some (k : Int)))) = _
      rw [cutTo]
    · show Res.ok (PyData.list (De.cutD _ (some (k : Int)) none)) = _
      rw [cutFrom]
    · rw [cat_ok (by simp; omega), hvs]
  have q0 := app 0 _ [] (by decide) rfl err0 (by decide)
  have q1 := app 1 _ ([] ++ [.int ((0 : Nat) : Int)]) (by decide) rfl (err1 g ho gr (by omega) hbh) (by exact Nat.le_of_ble_eq_true rfl)
  have q2 := app 2 _ ([] ++ [.int ((0 : Nat) : Int)] ++ [.int ((1 : Nat) : Int)]) (by decide) rfl (err2 g ho (by omega) hodd) (by exact Nat.le_of_ble_eq_true rfl)
  have q3 := app 3 _ ([] ++ [.int ((0 : Nat) : Int)] ++ [.int ((1 : Nat) : Int)] ++ [.int ((2 : Nat) : Int)]) (by decide) rfl (err3 g ho (by omega) hbm) (by exact Nat.le_of_ble_eq_true rfl)
  have eF : forGo (.nm 3) wApp (rng 0 (4 : Int).toNat) (gS ns rs t3 (some (.dat odd)) (some (.dat (.list [badChart, bh, odd, bm]))) (some (.dat (.list [.tuple (rs.map rowD), tD [], pathD true ["a"], .str "keep"]))) (some (.own (.list []))) t8 t9 t10 u11 none) =
      .next (gS ns rs (some (.dat (.int (0 + ((3 : Nat) : Int))))) (some (.dat odd)) (some (.dat (.list [badChart, bh, odd, bm]))) (some (.dat (.list [.tuple (rs.map rowD), tD [], pathD true ["a"], .str "keep"]))) (some (.own (.list [.int 0, .int 1, .int 2, .int 3]))) t8 t9 t10 u11 none) := by
    show forGo (.nm 3) wApp [.int (0 + ((0 : Nat) : Int)), .int (0 + ((1 : Nat) : Int)), .int (0 + ((2 : Nat) : Int)), .int (0 + ((3 : Nat) : Int))] _ = _
    unfold forGo
    simp only [Tg.put, List.set_cons_succ, List.set_cons_zero]
    rw [q0]
    simp only
    unfold forGo
    simp only [Tg.put, List.set_cons_succ, List.set_cons_zero]
    rw [q1]
    simp only
    unfold forGo
    simp only [Tg.put, List.set_cons_succ, List.set_cons_zero]
    rw [q2]
    simp only
    unfold forGo
    simp only [Tg.put, List.set_cons_succ, List.set_cons_zero]
    rw [q3]
    rfl
  refine E.run (E.nx b0 (E.nx b1 (E.nx (E.for_ (E.rng1 (E.cons E.cc E.nil) (by decide) (by decide)) eL) (E.nx eE (E.nx c1 (E.nx c2 (E.nx c3 (E.nx c4 (E.nx (E.for_ (E.rng1 (E.cons E.cc E.nil) (by decide) (by decide)) eF) (E.ret ?_))))))))))
  refine lockOk (d := .list [.int 0, .int 1, .int 2, .int 3]) (E.and (y := true) (z := true) (E.op (E.v rfl) (E.lst (E.cons E.cc (E.cons E.cc (E.cons E.cc (E.cons E.cc E.nil)))) (by exact Nat.le_of_ble_eq_true rfl)) (isT_ok (by decide +kernel))) (E.and (y := true) (z := true) (E.op (E.call (E.cons E.cc (E.cons (E.v rfl) E.nil)) rfl err_end) E.cc (isT_ok (by decide +kernel))) (E.op (E.call (E.cons E.cc (E.cons (E.v rfl) E.nil)) rfl (err_no g ho gr h6)) E.cc rfl))) rfl rfl
end L67
end

theorem PySem.Challenge.cw_everytree_k67_whole_naive_holds : PySem.Challenge.rw_everytree_k67_whole_naive.Holds := by
  exact holds_of L67.law_true
